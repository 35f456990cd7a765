/-
  Own texts, laid together for this claim: contracts of functions of the program and its references, used by the statements of this seat.
-/
import Derived.Test.YtfjcmolccckhhaaGreatDoorProg
import Derived.Test.YtfjcmolccckhhaaGreatDoorRows
import Derived.Test.YtfjcmolccckhhaaGreatDoorCards
import Derived.Test.YtfjcmolccckhhaaGreatDoorTie
import Derived.WalkKit
import Derived.ProofKit
import Derived.OpenShut
import Derived.Carry
import Derived.ChangeSlices
import Derived.Deep.DeepHandedRow
import Derived.Lib.LaidTab
import Derived.JoinedCond
import Derived.Test.YtfjcmolccckhhaaGreatDoorMgd
set_option linter.all false

namespace Go.Proofs.YtfjcmolccckhhaaGreatDoor
open Go Go.RowKit Go.Eng Go.Ax
set_option maxRecDepth 100000
def TT0 : TT := [
  (3, ⟨.i64, 1, 8, [.i 0], some .i64, false, 0⟩),
  (22, ⟨(.sl 5), 1, 24, [.nil], some (.sl .u8), false, 0⟩),
  (24, ⟨(.fld [(0, 1), (1, 1), (2, 1), (3, 1), (4, 1)] [true, true, true, true, true]), 5, 72, [.i 0, .i 0, .i 0, .nil, .nil], some (.pair .i64 (.pair .i64 (.pair .i64 (.pair (.sl .u8) (.sl .u8))))), false, 0⟩),
  (4, ⟨.bool, 1, 1, [.b false], some .bool, false, 0⟩),
  (45, ⟨(.fld [(0, 19), (19, 11)] [false, false]), 30, 408, [.nil, .nil, .nil, .i 0, .i 0, .i 0, .i 0, .b false, .nil, .i 0, .i 0, .nil, .i 0, .i 0, .i 0, .i 0, .i 0, .i 0, .nil, .b false, .b false, .nil, .i 0, .i 0, .b false, .i 0, .nil, .nil, .nil, .nil], some (.pair (.pair (.sl (.sl .u8)) (.pair (.sl (.sl .u8)) (.pair (.sl .u8) (.pair .i64 (.pair .i64 (.pair .i64 (.pair .i64 (.pair .bool (.pair (.pair (.sl (.sl (.sl .u8))) .i64) (.pair .i64 (.pair (.sl (.pair .i64 (.pair .i64 (.pair .i64 (.pair .i64 (.pair (.sl .u8) (.pair (.sl .u8) (.pair .bool (.sl .u8))))))))) (.pair (.pair .i64 (.pair .i64 (.pair .i64 (.pair .i64 (.pair .i64 .i64))))) (.sl (.pair (.sl .u8) .i64)))))))))))))) (.pair .bool (.pair .bool (.pair (.pair (.sl (.sl (.sl .u8))) .i64) (.pair .i64 (.pair .bool (.pair .i64 (.pair (.sl (.pair .i64 (.pair (.sl .u8) (.pair (.sl .u8) (.pair .i64 (.pair .i64 (.pair .i64 (.pair .i64 .bool)))))))) (.pair (.sl (.pair (.pair .i64 (.pair .i64 (.pair .i64 (.pair (.sl .u8) (.sl .u8))))) (.pair (.pair (.sl .u8) (.pair (.sl .u8) (.sl .u8))) .i64))) (.pair (.sl .i64) (.sl .i64))))))))))), false, 0⟩),
  (54, ⟨(.fld [(0, 1), (1, 1), (2, 1), (3, 1), (4, 1)] [true, true, true, true, true]), 5, 104, [.i 0, .nil, .nil, .nil, .nil], some (.pair .i64 (.pair (.sl .i64) (.pair (.sl (.pair .i64 (.pair (.sl .u8) (.sl .u8)))) (.pair (.sl .i64) (.sl (.sl .u8)))))), false, 0⟩),
  (49, ⟨(.fld [(0, 1), (1, 1), (2, 1), (3, 1)] [true, true, true, true]), 4, 80, [.i 0, .nil, .nil, .nil], some (.pair .i64 (.pair (.sl .i64) (.pair (.sl (.sl .u8)) (.sl (.sl .u8))))), false, 0⟩),
  (38, ⟨(.fld [(0, 1), (1, 1), (2, 1), (3, 1), (4, 1), (5, 1), (6, 1), (7, 1), (8, 2), (10, 1), (11, 1), (12, 6), (18, 1)] [true, true, true, true, true, true, true, true, false, true, true, false, true]), 19, 248, [.nil, .nil, .nil, .i 0, .i 0, .i 0, .i 0, .b false, .nil, .i 0, .i 0, .nil, .i 0, .i 0, .i 0, .i 0, .i 0, .i 0, .nil], some (.pair (.sl (.sl .u8)) (.pair (.sl (.sl .u8)) (.pair (.sl .u8) (.pair .i64 (.pair .i64 (.pair .i64 (.pair .i64 (.pair .bool (.pair (.pair (.sl (.sl (.sl .u8))) .i64) (.pair .i64 (.pair (.sl (.pair .i64 (.pair .i64 (.pair .i64 (.pair .i64 (.pair (.sl .u8) (.pair (.sl .u8) (.pair .bool (.sl .u8))))))))) (.pair (.pair .i64 (.pair .i64 (.pair .i64 (.pair .i64 (.pair .i64 .i64))))) (.sl (.pair (.sl .u8) .i64)))))))))))))), false, 0⟩),
  (43, ⟨(.fld [(0, 1), (1, 1), (2, 2), (4, 1), (5, 1), (6, 1), (7, 1), (8, 1), (9, 1), (10, 1)] [true, true, false, true, true, true, true, true, true, true]), 11, 160, [.b false, .b false, .nil, .i 0, .i 0, .b false, .i 0, .nil, .nil, .nil, .nil], some (.pair .bool (.pair .bool (.pair (.pair (.sl (.sl (.sl .u8))) .i64) (.pair .i64 (.pair .bool (.pair .i64 (.pair (.sl (.pair .i64 (.pair (.sl .u8) (.pair (.sl .u8) (.pair .i64 (.pair .i64 (.pair .i64 (.pair .i64 .bool)))))))) (.pair (.sl (.pair (.pair .i64 (.pair .i64 (.pair .i64 (.pair (.sl .u8) (.sl .u8))))) (.pair (.pair (.sl .u8) (.pair (.sl .u8) (.sl .u8))) .i64))) (.pair (.sl .i64) (.sl .i64)))))))))), false, 0⟩),
  (47, ⟨.i64, 1, 8, [.i 0], some .i64, false, 0⟩),
  (29, ⟨(.sl 22), 1, 24, [.nil], some (.sl (.sl .u8)), false, 0⟩),
  (5, ⟨.u8, 1, 1, [.u8 0], some .u8, false, 0⟩),
  (40, ⟨(.sl 61), 1, 24, [.nil], some (.sl (.pair (.pair .i64 (.pair .i64 (.pair .i64 (.pair (.sl .u8) (.sl .u8))))) (.pair (.pair (.sl .u8) (.pair (.sl .u8) (.sl .u8))) .i64))), false, 0⟩),
  (61, ⟨(.fld [(0, 5), (5, 3), (8, 1)] [false, false, true]), 9, 152, [.i 0, .i 0, .i 0, .nil, .nil, .nil, .nil, .nil, .i 0], some (.pair (.pair .i64 (.pair .i64 (.pair .i64 (.pair (.sl .u8) (.sl .u8))))) (.pair (.pair (.sl .u8) (.pair (.sl .u8) (.sl .u8))) .i64)), false, 0⟩),
  (63, ⟨.u64, 1, 8, [.u64 0], some .u64, false, 0⟩),
  (41, ⟨(.sl 3), 1, 24, [.nil], some (.sl .i64), false, 0⟩),
  (59, ⟨(.fld [(0, 1), (1, 1), (2, 1)] [true, true, true]), 3, 72, [.nil, .nil, .nil], some (.pair (.sl .u8) (.pair (.sl .u8) (.sl .u8))), false, 0⟩),
  (9, ⟨.str, 1, 16, [.str []], some .str, false, 0⟩),
  (32, ⟨(.fld [(0, 1), (1, 1)] [true, true]), 2, 32, [.nil, .i 0], some (.pair (.sl (.sl (.sl .u8))) .i64), false, 0⟩),
  (39, ⟨(.sl 117), 1, 24, [.nil], some (.sl (.pair .i64 (.pair (.sl .u8) (.pair (.sl .u8) (.pair .i64 (.pair .i64 (.pair .i64 (.pair .i64 .bool)))))))), false, 0⟩),
  (117, ⟨(.fld [(0, 1), (1, 1), (2, 1), (3, 1), (4, 1), (5, 1), (6, 1), (7, 1)] [true, true, true, true, true, true, true, true]), 8, 96, [.i 0, .nil, .nil, .i 0, .i 0, .i 0, .i 0, .b false], some (.pair .i64 (.pair (.sl .u8) (.pair (.sl .u8) (.pair .i64 (.pair .i64 (.pair .i64 (.pair .i64 .bool))))))), false, 0⟩),
  (72, ⟨(.arr 2 3), 2, 16, [.i 0, .i 0], some (.pair .i64 .i64), true, 0⟩),
  (74, ⟨(.fld [(0, 1), (1, 1), (2, 1), (3, 1), (4, 1), (5, 1), (6, 1), (7, 2), (9, 1)] [true, true, true, true, true, true, true, false, true]), 10, 128, [.nil, .nil, .i 0, .i 0, .i 0, .b false, .i 0, .i 0, .i 0, .nil], some (.pair (.sl .u8) (.pair (.sl .u8) (.pair .i64 (.pair .i64 (.pair .i64 (.pair .bool (.pair .i64 (.pair (.pair .i64 .i64) (.sl .u8))))))))), false, 0⟩),
  (30, ⟨(.sl 29), 1, 24, [.nil], some (.sl (.sl (.sl .u8))), false, 0⟩),
  (159, ⟨.u32, 1, 4, [.u32 0], some .u32, false, 0⟩),
  (35, ⟨(.fld [(0, 1), (1, 1), (2, 1), (3, 1), (4, 1), (5, 1)] [true, true, true, true, true, true]), 6, 48, [.i 0, .i 0, .i 0, .i 0, .i 0, .i 0], some (.pair .i64 (.pair .i64 (.pair .i64 (.pair .i64 (.pair .i64 .i64))))), false, 6⟩),
  (33, ⟨(.sl 168), 1, 24, [.nil], some (.sl (.pair .i64 (.pair .i64 (.pair .i64 (.pair .i64 (.pair (.sl .u8) (.pair (.sl .u8) (.pair .bool (.sl .u8))))))))), false, 0⟩),
  (36, ⟨(.sl 170), 1, 24, [.nil], some (.sl (.pair (.sl .u8) .i64)), false, 0⟩),
  (168, ⟨(.fld [(0, 1), (1, 1), (2, 1), (3, 1), (4, 1), (5, 1), (6, 1), (7, 1)] [true, true, true, true, true, true, true, true]), 8, 112, [.i 0, .i 0, .i 0, .i 0, .nil, .nil, .b false, .nil], some (.pair .i64 (.pair .i64 (.pair .i64 (.pair .i64 (.pair (.sl .u8) (.pair (.sl .u8) (.pair .bool (.sl .u8)))))))), false, 0⟩),
  (170, ⟨(.fld [(0, 1), (1, 1)] [true, true]), 2, 32, [.nil, .i 0], some (.pair (.sl .u8) .i64), false, 0⟩),
  (189, ⟨(.sl 188), 1, 24, [.nil], none, false, 0⟩),
  (188, ⟨(.ptr 3), 1, 8, [.un], none, false, 0⟩),
  (186, ⟨(.ptr 217), 1, 8, [.un], none, false, 0⟩),
  (191, ⟨(.sl 190), 1, 24, [.nil], none, false, 0⟩),
  (190, ⟨(.ptr 22), 1, 8, [.un], none, false, 0⟩),
  (209, ⟨.oth, 1, 8, [.un], none, false, 0⟩),
  (179, ⟨.u64, 1, 8, [.u64 0], some .u64, false, 0⟩),
  (217, ⟨(.fld [(0, 1), (1, 1), (2, 1)] [true, true, true]), 3, 40, [.nil, .i 0, .i 0], some (.pair (.sl .u8) (.pair .i64 .i64)), false, 0⟩),
  (236, ⟨(.arr 5 159), 5, 20, [.u32 0, .u32 0, .u32 0, .u32 0, .u32 0], some (.pair .u32 (.pair .u32 (.pair .u32 (.pair .u32 .u32)))), false, 0⟩),
  (238, ⟨(.ptr 236), 1, 8, [.un], none, false, 0⟩),
  (240, ⟨(.sl 159), 1, 24, [.nil], some (.sl .u32), false, 0⟩),
  (241, ⟨(.arr 8 159), 8, 32, [.u32 0, .u32 0, .u32 0, .u32 0, .u32 0, .u32 0, .u32 0, .u32 0], some (.pair .u32 (.pair .u32 (.pair .u32 (.pair .u32 (.pair .u32 (.pair .u32 (.pair .u32 .u32))))))), false, 0⟩),
  (243, ⟨(.ptr 241), 1, 8, [.un], none, false, 0⟩),
  (245, ⟨(.arr 64 159), 64, 256, [.u32 0, .u32 0, .u32 0, .u32 0, .u32 0, .u32 0, .u32 0, .u32 0, .u32 0, .u32 0, .u32 0, .u32 0, .u32 0, .u32 0, .u32 0, .u32 0, .u32 0, .u32 0, .u32 0, .u32 0, .u32 0, .u32 0, .u32 0, .u32 0, .u32 0, .u32 0, .u32 0, .u32 0, .u32 0, .u32 0, .u32 0, .u32 0, .u32 0, .u32 0, .u32 0, .u32 0, .u32 0, .u32 0, .u32 0, .u32 0, .u32 0, .u32 0, .u32 0, .u32 0, .u32 0, .u32 0, .u32 0, .u32 0, .u32 0, .u32 0, .u32 0, .u32 0, .u32 0, .u32 0, .u32 0, .u32 0, .u32 0, .u32 0, .u32 0, .u32 0, .u32 0, .u32 0, .u32 0, .u32 0], none, false, 0⟩),
  (125, ⟨.oth, 1, 8, [.un], none, false, 0⟩),
  (87, ⟨.oth, 1, 8, [.un], none, false, 0⟩),
  (71, ⟨(.arr 2 3), 2, 16, [.i 0, .i 0], some (.pair .i64 .i64), true, 0⟩),
  (52, ⟨(.sl 82), 1, 24, [.nil], some (.sl (.pair .i64 (.pair (.sl .u8) (.sl .u8)))), false, 0⟩),
  (82, ⟨(.fld [(0, 1), (1, 1), (2, 1)] [true, true, true]), 3, 56, [.i 0, .nil, .nil], some (.pair .i64 (.pair (.sl .u8) (.sl .u8))), false, 0⟩)]
def FT0 : FT := [
  (3, ⟨[some .i64, some (.sl .u8), some .i64, some .i64, some (.pair .i64 (.pair .i64 (.pair .i64 (.pair (.sl .u8) (.sl .u8))))), some (.sl .u8), some (.sl .u8), some (.sl .u8)], [some .bool], false, false, [], [(1, ⟨some [], [], none, false⟩), (3, ⟨some [], [], none, false⟩), (5, ⟨some [], [], none, false⟩), (7, ⟨some [], [], none, false⟩), (8, ⟨some [], [], none, false⟩), (9, ⟨some [], [], none, false⟩), (12, ⟨some [], [], none, false⟩), (13, ⟨some [], [], none, false⟩), (14, ⟨some [], [], none, false⟩), (15, ⟨some [], [], none, false⟩), (16, ⟨some [], [], none, false⟩)], ⟨none, [], none, false⟩, false⟩),
  (4, ⟨[some .i64, some .u8, some (.sl (.sl .u8)), some .bool], [some .bool], false, false, [(⟨some [], [], some [2, 3, 9, 10, 11, 12, 13, 14], false⟩, ⟨some [], [], some [8], false⟩)], [(1, ⟨some [], [], none, false⟩), (6, ⟨some [], [], none, false⟩), (7, ⟨some [], [], none, false⟩), (8, ⟨some [], [], none, false⟩), (21, ⟨some [], [], none, false⟩), (24, ⟨some [], [], some [2, 3, 9, 10, 11, 12, 13, 14, 15], true⟩), (26, ⟨some [], [], none, false⟩), (30, ⟨some [], [], none, false⟩), (14, ⟨some [], [], some [2, 3, 9, 10, 11, 12, 13, 14], true⟩)], ⟨none, [], none, false⟩, false⟩),
  (6, ⟨[some .i64, some .i64, some .u8, some (.sl .u8), some (.sl .u8)], [some .bool], false, false, [], [(1, ⟨some [], [], none, false⟩), (5, ⟨some [], [], none, false⟩), (6, ⟨some [], [], none, false⟩), (7, ⟨some [], [], none, false⟩), (9, ⟨some [], [], none, false⟩), (12, ⟨some [], [], none, false⟩), (15, ⟨some [], [], none, false⟩), (17, ⟨some [], [], none, false⟩)], ⟨none, [], none, false⟩, false⟩),
  (7, ⟨[some .u8, some .u8, some (.sl .u8)], [some .bool], false, false, [], [(1, ⟨some [], [], none, false⟩), (9, ⟨some [], [], some [2, 7, 8], true⟩), (12, ⟨some [], [], none, false⟩), (14, ⟨some [], [], none, false⟩), (16, ⟨some [], [], none, false⟩), (17, ⟨some [], [], none, false⟩), (18, ⟨some [], [], none, false⟩), (19, ⟨some [], [], none, false⟩), (20, ⟨some [], [], none, false⟩)], ⟨none, [], none, false⟩, false⟩),
  (10, ⟨[], [some .bool], false, false, [], [(1, ⟨some [], [], none, false⟩), (4, ⟨some [], [], none, false⟩)], ⟨none, [], none, false⟩, false⟩),
  (11, ⟨[some (.pair .i64 (.pair .i64 (.pair .i64 (.pair (.sl .u8) (.sl .u8)))))], [some .bool], false, false, [], [], ⟨none, [], none, false⟩, false⟩),
  (12, ⟨[some (.pair .i64 (.pair .i64 (.pair .i64 (.pair (.sl .u8) (.sl .u8)))))], [some (.pair .i64 (.pair .i64 (.pair .i64 (.pair (.sl .u8) (.sl .u8)))))], false, false, [], [(1, ⟨some [], [], none, false⟩), (3, ⟨some [], [], none, false⟩), (5, ⟨some [], [], some [1, 2, 3], true⟩), (6, ⟨some [], [], none, false⟩), (8, ⟨some [], [], some [1, 2, 3], true⟩)], ⟨none, [], none, false⟩, false⟩),
  (13, ⟨[some .i64, some .i64], [some .i64], false, false, [], [(6, ⟨some [], [], some [5], true⟩)], ⟨none, [], none, false⟩, false⟩),
  (14, ⟨[some .i64, some (.sl .u8), some (.sl .u8)], [some (.pair (.pair (.sl (.sl .u8)) (.pair (.sl (.sl .u8)) (.pair (.sl .u8) (.pair .i64 (.pair .i64 (.pair .i64 (.pair .i64 (.pair .bool (.pair (.pair (.sl (.sl (.sl .u8))) .i64) (.pair .i64 (.pair (.sl (.pair .i64 (.pair .i64 (.pair .i64 (.pair .i64 (.pair (.sl .u8) (.pair (.sl .u8) (.pair .bool (.sl .u8))))))))) (.pair (.pair .i64 (.pair .i64 (.pair .i64 (.pair .i64 (.pair .i64 .i64))))) (.sl (.pair (.sl .u8) .i64)))))))))))))) (.pair .bool (.pair .bool (.pair (.pair (.sl (.sl (.sl .u8))) .i64) (.pair .i64 (.pair .bool (.pair .i64 (.pair (.sl (.pair .i64 (.pair (.sl .u8) (.pair (.sl .u8) (.pair .i64 (.pair .i64 (.pair .i64 (.pair .i64 .bool)))))))) (.pair (.sl (.pair (.pair .i64 (.pair .i64 (.pair .i64 (.pair (.sl .u8) (.sl .u8))))) (.pair (.pair (.sl .u8) (.pair (.sl .u8) (.sl .u8))) .i64))) (.pair (.sl .i64) (.sl .i64)))))))))))], false, false, [], [(1, ⟨some [], [], none, false⟩), (2, ⟨some [], [], none, false⟩), (3, ⟨some [], [], none, false⟩)], ⟨none, [], none, false⟩, false⟩),
  (16, ⟨[some .i64, some .i64, some .i64, some .i64, some (.sl .u8), some (.sl .u8), some (.sl .u8)], [some (.pair .i64 (.pair (.sl .i64) (.pair (.sl (.pair .i64 (.pair (.sl .u8) (.sl .u8)))) (.pair (.sl .i64) (.sl (.sl .u8))))))], false, false, [], [], ⟨none, [], none, false⟩, false⟩),
  (15, ⟨[some (.pair (.pair (.sl (.sl .u8)) (.pair (.sl (.sl .u8)) (.pair (.sl .u8) (.pair .i64 (.pair .i64 (.pair .i64 (.pair .i64 (.pair .bool (.pair (.pair (.sl (.sl (.sl .u8))) .i64) (.pair .i64 (.pair (.sl (.pair .i64 (.pair .i64 (.pair .i64 (.pair .i64 (.pair (.sl .u8) (.pair (.sl .u8) (.pair .bool (.sl .u8))))))))) (.pair (.pair .i64 (.pair .i64 (.pair .i64 (.pair .i64 (.pair .i64 .i64))))) (.sl (.pair (.sl .u8) .i64)))))))))))))) (.pair .bool (.pair .bool (.pair (.pair (.sl (.sl (.sl .u8))) .i64) (.pair .i64 (.pair .bool (.pair .i64 (.pair (.sl (.pair .i64 (.pair (.sl .u8) (.pair (.sl .u8) (.pair .i64 (.pair .i64 (.pair .i64 (.pair .i64 .bool)))))))) (.pair (.sl (.pair (.pair .i64 (.pair .i64 (.pair .i64 (.pair (.sl .u8) (.sl .u8))))) (.pair (.pair (.sl .u8) (.pair (.sl .u8) (.sl .u8))) .i64))) (.pair (.sl .i64) (.sl .i64))))))))))), some (.pair .i64 (.pair (.sl .i64) (.pair (.sl (.pair .i64 (.pair (.sl .u8) (.sl .u8)))) (.pair (.sl .i64) (.sl (.sl .u8))))))], [some (.pair (.pair (.sl (.sl .u8)) (.pair (.sl (.sl .u8)) (.pair (.sl .u8) (.pair .i64 (.pair .i64 (.pair .i64 (.pair .i64 (.pair .bool (.pair (.pair (.sl (.sl (.sl .u8))) .i64) (.pair .i64 (.pair (.sl (.pair .i64 (.pair .i64 (.pair .i64 (.pair .i64 (.pair (.sl .u8) (.pair (.sl .u8) (.pair .bool (.sl .u8))))))))) (.pair (.pair .i64 (.pair .i64 (.pair .i64 (.pair .i64 (.pair .i64 .i64))))) (.sl (.pair (.sl .u8) .i64)))))))))))))) (.pair .bool (.pair .bool (.pair (.pair (.sl (.sl (.sl .u8))) .i64) (.pair .i64 (.pair .bool (.pair .i64 (.pair (.sl (.pair .i64 (.pair (.sl .u8) (.pair (.sl .u8) (.pair .i64 (.pair .i64 (.pair .i64 (.pair .i64 .bool)))))))) (.pair (.sl (.pair (.pair .i64 (.pair .i64 (.pair .i64 (.pair (.sl .u8) (.sl .u8))))) (.pair (.pair (.sl .u8) (.pair (.sl .u8) (.sl .u8))) .i64))) (.pair (.sl .i64) (.sl .i64))))))))))), some (.pair .i64 (.pair (.sl .i64) (.pair (.sl (.sl .u8)) (.sl (.sl .u8)))))], false, false, [], [(1, ⟨some [], [], none, false⟩), (3, ⟨some [], [], none, false⟩), (4, ⟨some [], [], none, false⟩), (5, ⟨some [], [], none, false⟩), (6, ⟨some [], [], none, false⟩), (7, ⟨some [], [], none, false⟩), (8, ⟨some [], [], none, false⟩), (10, ⟨some [], [], none, false⟩), (11, ⟨some [], [], none, false⟩), (13, ⟨some [], [], none, false⟩), (14, ⟨some [], [], none, false⟩)], ⟨none, [], none, false⟩, false⟩),
  (17, ⟨[some (.pair (.pair (.sl (.sl .u8)) (.pair (.sl (.sl .u8)) (.pair (.sl .u8) (.pair .i64 (.pair .i64 (.pair .i64 (.pair .i64 (.pair .bool (.pair (.pair (.sl (.sl (.sl .u8))) .i64) (.pair .i64 (.pair (.sl (.pair .i64 (.pair .i64 (.pair .i64 (.pair .i64 (.pair (.sl .u8) (.pair (.sl .u8) (.pair .bool (.sl .u8))))))))) (.pair (.pair .i64 (.pair .i64 (.pair .i64 (.pair .i64 (.pair .i64 .i64))))) (.sl (.pair (.sl .u8) .i64)))))))))))))) (.pair .bool (.pair .bool (.pair (.pair (.sl (.sl (.sl .u8))) .i64) (.pair .i64 (.pair .bool (.pair .i64 (.pair (.sl (.pair .i64 (.pair (.sl .u8) (.pair (.sl .u8) (.pair .i64 (.pair .i64 (.pair .i64 (.pair .i64 .bool)))))))) (.pair (.sl (.pair (.pair .i64 (.pair .i64 (.pair .i64 (.pair (.sl .u8) (.sl .u8))))) (.pair (.pair (.sl .u8) (.pair (.sl .u8) (.sl .u8))) .i64))) (.pair (.sl .i64) (.sl .i64))))))))))), some (.pair .i64 (.pair (.sl .i64) (.pair (.sl (.pair .i64 (.pair (.sl .u8) (.sl .u8)))) (.pair (.sl .i64) (.sl (.sl .u8))))))], [some (.pair (.pair (.sl (.sl .u8)) (.pair (.sl (.sl .u8)) (.pair (.sl .u8) (.pair .i64 (.pair .i64 (.pair .i64 (.pair .i64 (.pair .bool (.pair (.pair (.sl (.sl (.sl .u8))) .i64) (.pair .i64 (.pair (.sl (.pair .i64 (.pair .i64 (.pair .i64 (.pair .i64 (.pair (.sl .u8) (.pair (.sl .u8) (.pair .bool (.sl .u8))))))))) (.pair (.pair .i64 (.pair .i64 (.pair .i64 (.pair .i64 (.pair .i64 .i64))))) (.sl (.pair (.sl .u8) .i64)))))))))))))) (.pair .bool (.pair .bool (.pair (.pair (.sl (.sl (.sl .u8))) .i64) (.pair .i64 (.pair .bool (.pair .i64 (.pair (.sl (.pair .i64 (.pair (.sl .u8) (.pair (.sl .u8) (.pair .i64 (.pair .i64 (.pair .i64 (.pair .i64 .bool)))))))) (.pair (.sl (.pair (.pair .i64 (.pair .i64 (.pair .i64 (.pair (.sl .u8) (.sl .u8))))) (.pair (.pair (.sl .u8) (.pair (.sl .u8) (.sl .u8))) .i64))) (.pair (.sl .i64) (.sl .i64))))))))))), some (.pair .i64 (.pair (.sl .i64) (.pair (.sl (.sl .u8)) (.sl (.sl .u8)))))], false, false, [], [(1, ⟨some [], [], none, false⟩), (2, ⟨some [], [], none, false⟩), (3, ⟨some [], [], none, false⟩), (5, ⟨some [], [], none, false⟩), (6, ⟨some [], [], none, false⟩), (8, ⟨some [], [], none, false⟩), (9, ⟨some [], [], none, false⟩), (10, ⟨some [], [], none, false⟩)], ⟨none, [], none, false⟩, false⟩),
  (18, ⟨[some (.sl (.sl .u8)), some (.sl (.sl .u8))], [some .bool], false, false, [(⟨some [], [], some [0, 1, 5], false⟩, ⟨some [], [], some [4], false⟩)], [(6, ⟨some [], [], none, false⟩)], ⟨none, [], none, false⟩, false⟩),
  (20, ⟨[some .i64, some .i64, some (.sl (.sl .u8))], [some (.pair .i64 (.pair (.sl .i64) (.pair (.sl (.pair .i64 (.pair (.sl .u8) (.sl .u8)))) (.pair (.sl .i64) (.sl (.sl .u8))))))], false, false, [], [], ⟨none, [], none, false⟩, false⟩),
  (19, ⟨[some (.pair (.pair (.sl (.sl .u8)) (.pair (.sl (.sl .u8)) (.pair (.sl .u8) (.pair .i64 (.pair .i64 (.pair .i64 (.pair .i64 (.pair .bool (.pair (.pair (.sl (.sl (.sl .u8))) .i64) (.pair .i64 (.pair (.sl (.pair .i64 (.pair .i64 (.pair .i64 (.pair .i64 (.pair (.sl .u8) (.pair (.sl .u8) (.pair .bool (.sl .u8))))))))) (.pair (.pair .i64 (.pair .i64 (.pair .i64 (.pair .i64 (.pair .i64 .i64))))) (.sl (.pair (.sl .u8) .i64)))))))))))))) (.pair .bool (.pair .bool (.pair (.pair (.sl (.sl (.sl .u8))) .i64) (.pair .i64 (.pair .bool (.pair .i64 (.pair (.sl (.pair .i64 (.pair (.sl .u8) (.pair (.sl .u8) (.pair .i64 (.pair .i64 (.pair .i64 (.pair .i64 .bool)))))))) (.pair (.sl (.pair (.pair .i64 (.pair .i64 (.pair .i64 (.pair (.sl .u8) (.sl .u8))))) (.pair (.pair (.sl .u8) (.pair (.sl .u8) (.sl .u8))) .i64))) (.pair (.sl .i64) (.sl .i64))))))))))), some (.pair .i64 (.pair (.sl .i64) (.pair (.sl (.pair .i64 (.pair (.sl .u8) (.sl .u8)))) (.pair (.sl .i64) (.sl (.sl .u8))))))], [some (.pair (.pair (.sl (.sl .u8)) (.pair (.sl (.sl .u8)) (.pair (.sl .u8) (.pair .i64 (.pair .i64 (.pair .i64 (.pair .i64 (.pair .bool (.pair (.pair (.sl (.sl (.sl .u8))) .i64) (.pair .i64 (.pair (.sl (.pair .i64 (.pair .i64 (.pair .i64 (.pair .i64 (.pair (.sl .u8) (.pair (.sl .u8) (.pair .bool (.sl .u8))))))))) (.pair (.pair .i64 (.pair .i64 (.pair .i64 (.pair .i64 (.pair .i64 .i64))))) (.sl (.pair (.sl .u8) .i64)))))))))))))) (.pair .bool (.pair .bool (.pair (.pair (.sl (.sl (.sl .u8))) .i64) (.pair .i64 (.pair .bool (.pair .i64 (.pair (.sl (.pair .i64 (.pair (.sl .u8) (.pair (.sl .u8) (.pair .i64 (.pair .i64 (.pair .i64 (.pair .i64 .bool)))))))) (.pair (.sl (.pair (.pair .i64 (.pair .i64 (.pair .i64 (.pair (.sl .u8) (.sl .u8))))) (.pair (.pair (.sl .u8) (.pair (.sl .u8) (.sl .u8))) .i64))) (.pair (.sl .i64) (.sl .i64))))))))))), some (.pair .i64 (.pair (.sl .i64) (.pair (.sl (.sl .u8)) (.sl (.sl .u8)))))], false, false, [], [(1, ⟨some [], [], none, false⟩), (3, ⟨some [], [], none, false⟩), (4, ⟨some [], [], none, false⟩), (6, ⟨some [], [], none, false⟩)], ⟨none, [], none, false⟩, false⟩),
  (21, ⟨[some (.pair (.pair (.sl (.sl .u8)) (.pair (.sl (.sl .u8)) (.pair (.sl .u8) (.pair .i64 (.pair .i64 (.pair .i64 (.pair .i64 (.pair .bool (.pair (.pair (.sl (.sl (.sl .u8))) .i64) (.pair .i64 (.pair (.sl (.pair .i64 (.pair .i64 (.pair .i64 (.pair .i64 (.pair (.sl .u8) (.pair (.sl .u8) (.pair .bool (.sl .u8))))))))) (.pair (.pair .i64 (.pair .i64 (.pair .i64 (.pair .i64 (.pair .i64 .i64))))) (.sl (.pair (.sl .u8) .i64)))))))))))))) (.pair .bool (.pair .bool (.pair (.pair (.sl (.sl (.sl .u8))) .i64) (.pair .i64 (.pair .bool (.pair .i64 (.pair (.sl (.pair .i64 (.pair (.sl .u8) (.pair (.sl .u8) (.pair .i64 (.pair .i64 (.pair .i64 (.pair .i64 .bool)))))))) (.pair (.sl (.pair (.pair .i64 (.pair .i64 (.pair .i64 (.pair (.sl .u8) (.sl .u8))))) (.pair (.pair (.sl .u8) (.pair (.sl .u8) (.sl .u8))) .i64))) (.pair (.sl .i64) (.sl .i64))))))))))), some (.pair (.pair (.sl (.sl .u8)) (.pair (.sl (.sl .u8)) (.pair (.sl .u8) (.pair .i64 (.pair .i64 (.pair .i64 (.pair .i64 (.pair .bool (.pair (.pair (.sl (.sl (.sl .u8))) .i64) (.pair .i64 (.pair (.sl (.pair .i64 (.pair .i64 (.pair .i64 (.pair .i64 (.pair (.sl .u8) (.pair (.sl .u8) (.pair .bool (.sl .u8))))))))) (.pair (.pair .i64 (.pair .i64 (.pair .i64 (.pair .i64 (.pair .i64 .i64))))) (.sl (.pair (.sl .u8) .i64)))))))))))))) (.pair .bool (.pair .bool (.pair (.pair (.sl (.sl (.sl .u8))) .i64) (.pair .i64 (.pair .bool (.pair .i64 (.pair (.sl (.pair .i64 (.pair (.sl .u8) (.pair (.sl .u8) (.pair .i64 (.pair .i64 (.pair .i64 (.pair .i64 .bool)))))))) (.pair (.sl (.pair (.pair .i64 (.pair .i64 (.pair .i64 (.pair (.sl .u8) (.sl .u8))))) (.pair (.pair (.sl .u8) (.pair (.sl .u8) (.sl .u8))) .i64))) (.pair (.sl .i64) (.sl .i64)))))))))))], [some .bool], false, false, [(⟨some [], [], some [5, 6, 7], false⟩, ⟨some [], [], some [4, 5, 6], false⟩), (⟨some [], [], some [5, 6, 8], false⟩, ⟨some [], [], some [4], false⟩)], [(2, ⟨some [], [], none, false⟩), (7, ⟨some [], [], none, false⟩), (12, ⟨some [], [], none, false⟩)], ⟨none, [], none, false⟩, false⟩),
  (22, ⟨[some (.sl .u8), some (.sl .u8), some (.sl .u8)], [some .i64, some .bool], false, false, [(⟨some [13], [(13, 22, (.sl .u8))], some [0, 2, 8, 9, 10, 11, 13, 14], false⟩, ⟨some [], [], some [0, 9, 11, 13], false⟩)], [(8, ⟨some [], [], none, false⟩), (15, ⟨some [], [], none, false⟩)], ⟨none, [], none, false⟩, false⟩),
  (29, ⟨[some (.pair (.pair (.sl (.sl .u8)) (.pair (.sl (.sl .u8)) (.pair (.sl .u8) (.pair .i64 (.pair .i64 (.pair .i64 (.pair .i64 (.pair .bool (.pair (.pair (.sl (.sl (.sl .u8))) .i64) (.pair .i64 (.pair (.sl (.pair .i64 (.pair .i64 (.pair .i64 (.pair .i64 (.pair (.sl .u8) (.pair (.sl .u8) (.pair .bool (.sl .u8))))))))) (.pair (.pair .i64 (.pair .i64 (.pair .i64 (.pair .i64 (.pair .i64 .i64))))) (.sl (.pair (.sl .u8) .i64)))))))))))))) (.pair .bool (.pair .bool (.pair (.pair (.sl (.sl (.sl .u8))) .i64) (.pair .i64 (.pair .bool (.pair .i64 (.pair (.sl (.pair .i64 (.pair (.sl .u8) (.pair (.sl .u8) (.pair .i64 (.pair .i64 (.pair .i64 (.pair .i64 .bool)))))))) (.pair (.sl (.pair (.pair .i64 (.pair .i64 (.pair .i64 (.pair (.sl .u8) (.sl .u8))))) (.pair (.pair (.sl .u8) (.pair (.sl .u8) (.sl .u8))) .i64))) (.pair (.sl .i64) (.sl .i64))))))))))), some (.pair .i64 (.pair (.sl .i64) (.pair (.sl (.pair .i64 (.pair (.sl .u8) (.sl .u8)))) (.pair (.sl .i64) (.sl (.sl .u8))))))], [some (.pair (.pair (.sl (.sl .u8)) (.pair (.sl (.sl .u8)) (.pair (.sl .u8) (.pair .i64 (.pair .i64 (.pair .i64 (.pair .i64 (.pair .bool (.pair (.pair (.sl (.sl (.sl .u8))) .i64) (.pair .i64 (.pair (.sl (.pair .i64 (.pair .i64 (.pair .i64 (.pair .i64 (.pair (.sl .u8) (.pair (.sl .u8) (.pair .bool (.sl .u8))))))))) (.pair (.pair .i64 (.pair .i64 (.pair .i64 (.pair .i64 (.pair .i64 .i64))))) (.sl (.pair (.sl .u8) .i64)))))))))))))) (.pair .bool (.pair .bool (.pair (.pair (.sl (.sl (.sl .u8))) .i64) (.pair .i64 (.pair .bool (.pair .i64 (.pair (.sl (.pair .i64 (.pair (.sl .u8) (.pair (.sl .u8) (.pair .i64 (.pair .i64 (.pair .i64 (.pair .i64 .bool)))))))) (.pair (.sl (.pair (.pair .i64 (.pair .i64 (.pair .i64 (.pair (.sl .u8) (.sl .u8))))) (.pair (.pair (.sl .u8) (.pair (.sl .u8) (.sl .u8))) .i64))) (.pair (.sl .i64) (.sl .i64))))))))))), some (.pair .i64 (.pair (.sl .i64) (.pair (.sl (.sl .u8)) (.sl (.sl .u8)))))], false, false, [], [(1, ⟨some [], [], none, false⟩), (3, ⟨some [], [], none, false⟩), (4, ⟨some [], [], none, false⟩), (5, ⟨some [], [], none, false⟩), (7, ⟨some [], [], none, false⟩), (8, ⟨some [], [], none, false⟩)], ⟨none, [], none, false⟩, false⟩),
  (30, ⟨[some (.pair (.pair (.sl (.sl .u8)) (.pair (.sl (.sl .u8)) (.pair (.sl .u8) (.pair .i64 (.pair .i64 (.pair .i64 (.pair .i64 (.pair .bool (.pair (.pair (.sl (.sl (.sl .u8))) .i64) (.pair .i64 (.pair (.sl (.pair .i64 (.pair .i64 (.pair .i64 (.pair .i64 (.pair (.sl .u8) (.pair (.sl .u8) (.pair .bool (.sl .u8))))))))) (.pair (.pair .i64 (.pair .i64 (.pair .i64 (.pair .i64 (.pair .i64 .i64))))) (.sl (.pair (.sl .u8) .i64)))))))))))))) (.pair .bool (.pair .bool (.pair (.pair (.sl (.sl (.sl .u8))) .i64) (.pair .i64 (.pair .bool (.pair .i64 (.pair (.sl (.pair .i64 (.pair (.sl .u8) (.pair (.sl .u8) (.pair .i64 (.pair .i64 (.pair .i64 (.pair .i64 .bool)))))))) (.pair (.sl (.pair (.pair .i64 (.pair .i64 (.pair .i64 (.pair (.sl .u8) (.sl .u8))))) (.pair (.pair (.sl .u8) (.pair (.sl .u8) (.sl .u8))) .i64))) (.pair (.sl .i64) (.sl .i64))))))))))), some (.pair .i64 (.pair (.sl .i64) (.pair (.sl (.pair .i64 (.pair (.sl .u8) (.sl .u8)))) (.pair (.sl .i64) (.sl (.sl .u8))))))], [some (.pair (.pair (.sl (.sl .u8)) (.pair (.sl (.sl .u8)) (.pair (.sl .u8) (.pair .i64 (.pair .i64 (.pair .i64 (.pair .i64 (.pair .bool (.pair (.pair (.sl (.sl (.sl .u8))) .i64) (.pair .i64 (.pair (.sl (.pair .i64 (.pair .i64 (.pair .i64 (.pair .i64 (.pair (.sl .u8) (.pair (.sl .u8) (.pair .bool (.sl .u8))))))))) (.pair (.pair .i64 (.pair .i64 (.pair .i64 (.pair .i64 (.pair .i64 .i64))))) (.sl (.pair (.sl .u8) .i64)))))))))))))) (.pair .bool (.pair .bool (.pair (.pair (.sl (.sl (.sl .u8))) .i64) (.pair .i64 (.pair .bool (.pair .i64 (.pair (.sl (.pair .i64 (.pair (.sl .u8) (.pair (.sl .u8) (.pair .i64 (.pair .i64 (.pair .i64 (.pair .i64 .bool)))))))) (.pair (.sl (.pair (.pair .i64 (.pair .i64 (.pair .i64 (.pair (.sl .u8) (.sl .u8))))) (.pair (.pair (.sl .u8) (.pair (.sl .u8) (.sl .u8))) .i64))) (.pair (.sl .i64) (.sl .i64))))))))))), some (.pair .i64 (.pair (.sl .i64) (.pair (.sl (.sl .u8)) (.sl (.sl .u8)))))], false, false, [], [(1, ⟨some [], [], none, false⟩), (3, ⟨some [], [], none, false⟩), (4, ⟨some [], [], none, false⟩), (6, ⟨some [], [], none, false⟩), (7, ⟨some [], [], none, false⟩), (9, ⟨some [], [], none, false⟩), (10, ⟨some [], [], none, false⟩), (12, ⟨some [], [], none, false⟩), (13, ⟨some [], [], none, false⟩)], ⟨none, [], none, false⟩, false⟩),
  (31, ⟨[some (.pair (.pair (.sl (.sl .u8)) (.pair (.sl (.sl .u8)) (.pair (.sl .u8) (.pair .i64 (.pair .i64 (.pair .i64 (.pair .i64 (.pair .bool (.pair (.pair (.sl (.sl (.sl .u8))) .i64) (.pair .i64 (.pair (.sl (.pair .i64 (.pair .i64 (.pair .i64 (.pair .i64 (.pair (.sl .u8) (.pair (.sl .u8) (.pair .bool (.sl .u8))))))))) (.pair (.pair .i64 (.pair .i64 (.pair .i64 (.pair .i64 (.pair .i64 .i64))))) (.sl (.pair (.sl .u8) .i64)))))))))))))) (.pair .bool (.pair .bool (.pair (.pair (.sl (.sl (.sl .u8))) .i64) (.pair .i64 (.pair .bool (.pair .i64 (.pair (.sl (.pair .i64 (.pair (.sl .u8) (.pair (.sl .u8) (.pair .i64 (.pair .i64 (.pair .i64 (.pair .i64 .bool)))))))) (.pair (.sl (.pair (.pair .i64 (.pair .i64 (.pair .i64 (.pair (.sl .u8) (.sl .u8))))) (.pair (.pair (.sl .u8) (.pair (.sl .u8) (.sl .u8))) .i64))) (.pair (.sl .i64) (.sl .i64))))))))))), some (.pair .i64 (.pair (.sl .i64) (.pair (.sl (.pair .i64 (.pair (.sl .u8) (.sl .u8)))) (.pair (.sl .i64) (.sl (.sl .u8))))))], [some (.pair (.pair (.sl (.sl .u8)) (.pair (.sl (.sl .u8)) (.pair (.sl .u8) (.pair .i64 (.pair .i64 (.pair .i64 (.pair .i64 (.pair .bool (.pair (.pair (.sl (.sl (.sl .u8))) .i64) (.pair .i64 (.pair (.sl (.pair .i64 (.pair .i64 (.pair .i64 (.pair .i64 (.pair (.sl .u8) (.pair (.sl .u8) (.pair .bool (.sl .u8))))))))) (.pair (.pair .i64 (.pair .i64 (.pair .i64 (.pair .i64 (.pair .i64 .i64))))) (.sl (.pair (.sl .u8) .i64)))))))))))))) (.pair .bool (.pair .bool (.pair (.pair (.sl (.sl (.sl .u8))) .i64) (.pair .i64 (.pair .bool (.pair .i64 (.pair (.sl (.pair .i64 (.pair (.sl .u8) (.pair (.sl .u8) (.pair .i64 (.pair .i64 (.pair .i64 (.pair .i64 .bool)))))))) (.pair (.sl (.pair (.pair .i64 (.pair .i64 (.pair .i64 (.pair (.sl .u8) (.sl .u8))))) (.pair (.pair (.sl .u8) (.pair (.sl .u8) (.sl .u8))) .i64))) (.pair (.sl .i64) (.sl .i64))))))))))), some (.pair .i64 (.pair (.sl .i64) (.pair (.sl (.sl .u8)) (.sl (.sl .u8)))))], false, false, [], [(1, ⟨some [], [], none, false⟩), (3, ⟨some [], [], none, false⟩), (5, ⟨some [], [], none, false⟩)], ⟨none, [], none, false⟩, false⟩),
  (28, ⟨[some (.sl .u8), some (.sl .u8)], [some .bool], false, false, [(⟨some [], [], some [0, 1, 5], false⟩, ⟨some [], [], some [4], false⟩)], [], ⟨none, [], none, false⟩, false⟩),
  (25, ⟨[some (.pair (.pair (.sl (.sl .u8)) (.pair (.sl (.sl .u8)) (.pair (.sl .u8) (.pair .i64 (.pair .i64 (.pair .i64 (.pair .i64 (.pair .bool (.pair (.pair (.sl (.sl (.sl .u8))) .i64) (.pair .i64 (.pair (.sl (.pair .i64 (.pair .i64 (.pair .i64 (.pair .i64 (.pair (.sl .u8) (.pair (.sl .u8) (.pair .bool (.sl .u8))))))))) (.pair (.pair .i64 (.pair .i64 (.pair .i64 (.pair .i64 (.pair .i64 .i64))))) (.sl (.pair (.sl .u8) .i64)))))))))))))) (.pair .bool (.pair .bool (.pair (.pair (.sl (.sl (.sl .u8))) .i64) (.pair .i64 (.pair .bool (.pair .i64 (.pair (.sl (.pair .i64 (.pair (.sl .u8) (.pair (.sl .u8) (.pair .i64 (.pair .i64 (.pair .i64 (.pair .i64 .bool)))))))) (.pair (.sl (.pair (.pair .i64 (.pair .i64 (.pair .i64 (.pair (.sl .u8) (.sl .u8))))) (.pair (.pair (.sl .u8) (.pair (.sl .u8) (.sl .u8))) .i64))) (.pair (.sl .i64) (.sl .i64))))))))))), some (.pair .i64 (.pair (.sl .i64) (.pair (.sl (.pair .i64 (.pair (.sl .u8) (.sl .u8)))) (.pair (.sl .i64) (.sl (.sl .u8))))))], [some (.pair (.pair (.sl (.sl .u8)) (.pair (.sl (.sl .u8)) (.pair (.sl .u8) (.pair .i64 (.pair .i64 (.pair .i64 (.pair .i64 (.pair .bool (.pair (.pair (.sl (.sl (.sl .u8))) .i64) (.pair .i64 (.pair (.sl (.pair .i64 (.pair .i64 (.pair .i64 (.pair .i64 (.pair (.sl .u8) (.pair (.sl .u8) (.pair .bool (.sl .u8))))))))) (.pair (.pair .i64 (.pair .i64 (.pair .i64 (.pair .i64 (.pair .i64 .i64))))) (.sl (.pair (.sl .u8) .i64)))))))))))))) (.pair .bool (.pair .bool (.pair (.pair (.sl (.sl (.sl .u8))) .i64) (.pair .i64 (.pair .bool (.pair .i64 (.pair (.sl (.pair .i64 (.pair (.sl .u8) (.pair (.sl .u8) (.pair .i64 (.pair .i64 (.pair .i64 (.pair .i64 .bool)))))))) (.pair (.sl (.pair (.pair .i64 (.pair .i64 (.pair .i64 (.pair (.sl .u8) (.sl .u8))))) (.pair (.pair (.sl .u8) (.pair (.sl .u8) (.sl .u8))) .i64))) (.pair (.sl .i64) (.sl .i64))))))))))), some (.pair .i64 (.pair (.sl .i64) (.pair (.sl (.sl .u8)) (.sl (.sl .u8)))))], false, false, [], [(1, ⟨some [], [], none, false⟩), (3, ⟨some [], [], none, false⟩), (4, ⟨some [], [], none, false⟩), (5, ⟨some [], [], none, false⟩), (7, ⟨some [], [], none, false⟩), (8, ⟨some [], [], none, false⟩), (9, ⟨some [], [], none, false⟩), (11, ⟨some [], [], none, false⟩)], ⟨none, [], none, false⟩, false⟩),
  (23, ⟨[some (.sl .u8)], [some (.sl .u8)], false, false, [], [], ⟨none, [], none, false⟩, false⟩),
  (35, ⟨[some .i64], [some .i64], false, false, [], [], ⟨none, [], none, false⟩, false⟩),
  (36, ⟨[some (.sl .u8), some .i64], [some (.pair (.sl (.sl .u8)) (.pair (.sl (.sl .u8)) (.pair (.sl .u8) (.pair .i64 (.pair .i64 (.pair .i64 (.pair .i64 (.pair .bool (.pair (.pair (.sl (.sl (.sl .u8))) .i64) (.pair .i64 (.pair (.sl (.pair .i64 (.pair .i64 (.pair .i64 (.pair .i64 (.pair (.sl .u8) (.pair (.sl .u8) (.pair .bool (.sl .u8))))))))) (.pair (.pair .i64 (.pair .i64 (.pair .i64 (.pair .i64 (.pair .i64 .i64))))) (.sl (.pair (.sl .u8) .i64)))))))))))))), some .i64], false, false, [(⟨some [], [], some [0, 4, 6, 7], false⟩, ⟨some [], [], some [4, 6], false⟩)], [(3, ⟨some [], [], none, false⟩), (7, ⟨some [], [], none, false⟩)], ⟨none, [], none, false⟩, false⟩),
  (38, ⟨[some (.pair (.sl (.sl .u8)) (.pair (.sl (.sl .u8)) (.pair (.sl .u8) (.pair .i64 (.pair .i64 (.pair .i64 (.pair .i64 (.pair .bool (.pair (.pair (.sl (.sl (.sl .u8))) .i64) (.pair .i64 (.pair (.sl (.pair .i64 (.pair .i64 (.pair .i64 (.pair .i64 (.pair (.sl .u8) (.pair (.sl .u8) (.pair .bool (.sl .u8))))))))) (.pair (.pair .i64 (.pair .i64 (.pair .i64 (.pair .i64 (.pair .i64 .i64))))) (.sl (.pair (.sl .u8) .i64))))))))))))))], [some (.pair (.pair (.sl (.sl .u8)) (.pair (.sl (.sl .u8)) (.pair (.sl .u8) (.pair .i64 (.pair .i64 (.pair .i64 (.pair .i64 (.pair .bool (.pair (.pair (.sl (.sl (.sl .u8))) .i64) (.pair .i64 (.pair (.sl (.pair .i64 (.pair .i64 (.pair .i64 (.pair .i64 (.pair (.sl .u8) (.pair (.sl .u8) (.pair .bool (.sl .u8))))))))) (.pair (.pair .i64 (.pair .i64 (.pair .i64 (.pair .i64 (.pair .i64 .i64))))) (.sl (.pair (.sl .u8) .i64)))))))))))))) (.pair .bool (.pair .bool (.pair (.pair (.sl (.sl (.sl .u8))) .i64) (.pair .i64 (.pair .bool (.pair .i64 (.pair (.sl (.pair .i64 (.pair (.sl .u8) (.pair (.sl .u8) (.pair .i64 (.pair .i64 (.pair .i64 (.pair .i64 .bool)))))))) (.pair (.sl (.pair (.pair .i64 (.pair .i64 (.pair .i64 (.pair (.sl .u8) (.sl .u8))))) (.pair (.pair (.sl .u8) (.pair (.sl .u8) (.sl .u8))) .i64))) (.pair (.sl .i64) (.sl .i64)))))))))))], false, false, [], [], ⟨none, [], none, false⟩, false⟩),
  (37, ⟨[some (.pair (.pair (.sl (.sl .u8)) (.pair (.sl (.sl .u8)) (.pair (.sl .u8) (.pair .i64 (.pair .i64 (.pair .i64 (.pair .i64 (.pair .bool (.pair (.pair (.sl (.sl (.sl .u8))) .i64) (.pair .i64 (.pair (.sl (.pair .i64 (.pair .i64 (.pair .i64 (.pair .i64 (.pair (.sl .u8) (.pair (.sl .u8) (.pair .bool (.sl .u8))))))))) (.pair (.pair .i64 (.pair .i64 (.pair .i64 (.pair .i64 (.pair .i64 .i64))))) (.sl (.pair (.sl .u8) .i64)))))))))))))) (.pair .bool (.pair .bool (.pair (.pair (.sl (.sl (.sl .u8))) .i64) (.pair .i64 (.pair .bool (.pair .i64 (.pair (.sl (.pair .i64 (.pair (.sl .u8) (.pair (.sl .u8) (.pair .i64 (.pair .i64 (.pair .i64 (.pair .i64 .bool)))))))) (.pair (.sl (.pair (.pair .i64 (.pair .i64 (.pair .i64 (.pair (.sl .u8) (.sl .u8))))) (.pair (.pair (.sl .u8) (.pair (.sl .u8) (.sl .u8))) .i64))) (.pair (.sl .i64) (.sl .i64))))))))))), some .i64], [some (.pair (.pair (.sl (.sl .u8)) (.pair (.sl (.sl .u8)) (.pair (.sl .u8) (.pair .i64 (.pair .i64 (.pair .i64 (.pair .i64 (.pair .bool (.pair (.pair (.sl (.sl (.sl .u8))) .i64) (.pair .i64 (.pair (.sl (.pair .i64 (.pair .i64 (.pair .i64 (.pair .i64 (.pair (.sl .u8) (.pair (.sl .u8) (.pair .bool (.sl .u8))))))))) (.pair (.pair .i64 (.pair .i64 (.pair .i64 (.pair .i64 (.pair .i64 .i64))))) (.sl (.pair (.sl .u8) .i64)))))))))))))) (.pair .bool (.pair .bool (.pair (.pair (.sl (.sl (.sl .u8))) .i64) (.pair .i64 (.pair .bool (.pair .i64 (.pair (.sl (.pair .i64 (.pair (.sl .u8) (.pair (.sl .u8) (.pair .i64 (.pair .i64 (.pair .i64 (.pair .i64 .bool)))))))) (.pair (.sl (.pair (.pair .i64 (.pair .i64 (.pair .i64 (.pair (.sl .u8) (.sl .u8))))) (.pair (.pair (.sl .u8) (.pair (.sl .u8) (.sl .u8))) .i64))) (.pair (.sl .i64) (.sl .i64))))))))))), some .i64], false, false, [], [(10, ⟨some [], [], none, false⟩), (12, ⟨some [], [], none, false⟩), (13, ⟨some [], [], some [2, 4], true⟩)], ⟨none, [], none, false⟩, false⟩),
  (39, ⟨[some (.pair (.pair (.sl (.sl .u8)) (.pair (.sl (.sl .u8)) (.pair (.sl .u8) (.pair .i64 (.pair .i64 (.pair .i64 (.pair .i64 (.pair .bool (.pair (.pair (.sl (.sl (.sl .u8))) .i64) (.pair .i64 (.pair (.sl (.pair .i64 (.pair .i64 (.pair .i64 (.pair .i64 (.pair (.sl .u8) (.pair (.sl .u8) (.pair .bool (.sl .u8))))))))) (.pair (.pair .i64 (.pair .i64 (.pair .i64 (.pair .i64 (.pair .i64 .i64))))) (.sl (.pair (.sl .u8) .i64)))))))))))))) (.pair .bool (.pair .bool (.pair (.pair (.sl (.sl (.sl .u8))) .i64) (.pair .i64 (.pair .bool (.pair .i64 (.pair (.sl (.pair .i64 (.pair (.sl .u8) (.pair (.sl .u8) (.pair .i64 (.pair .i64 (.pair .i64 (.pair .i64 .bool)))))))) (.pair (.sl (.pair (.pair .i64 (.pair .i64 (.pair .i64 (.pair (.sl .u8) (.sl .u8))))) (.pair (.pair (.sl .u8) (.pair (.sl .u8) (.sl .u8))) .i64))) (.pair (.sl .i64) (.sl .i64))))))))))), some (.sl .u8), some (.sl .u8), some .i64], [some (.pair (.pair (.sl (.sl .u8)) (.pair (.sl (.sl .u8)) (.pair (.sl .u8) (.pair .i64 (.pair .i64 (.pair .i64 (.pair .i64 (.pair .bool (.pair (.pair (.sl (.sl (.sl .u8))) .i64) (.pair .i64 (.pair (.sl (.pair .i64 (.pair .i64 (.pair .i64 (.pair .i64 (.pair (.sl .u8) (.pair (.sl .u8) (.pair .bool (.sl .u8))))))))) (.pair (.pair .i64 (.pair .i64 (.pair .i64 (.pair .i64 (.pair .i64 .i64))))) (.sl (.pair (.sl .u8) .i64)))))))))))))) (.pair .bool (.pair .bool (.pair (.pair (.sl (.sl (.sl .u8))) .i64) (.pair .i64 (.pair .bool (.pair .i64 (.pair (.sl (.pair .i64 (.pair (.sl .u8) (.pair (.sl .u8) (.pair .i64 (.pair .i64 (.pair .i64 (.pair .i64 .bool)))))))) (.pair (.sl (.pair (.pair .i64 (.pair .i64 (.pair .i64 (.pair (.sl .u8) (.sl .u8))))) (.pair (.pair (.sl .u8) (.pair (.sl .u8) (.sl .u8))) .i64))) (.pair (.sl .i64) (.sl .i64)))))))))))], false, false, [(⟨some [], [], some [1, 2, 3, 4, 8, 9], false⟩, ⟨some [], [], some [4, 8], false⟩)], [(4, ⟨some [], [], none, false⟩), (5, ⟨some [], [], none, false⟩)], ⟨none, [], none, false⟩, false⟩),
  (40, ⟨[some (.pair .i64 (.pair (.sl .i64) (.pair (.sl (.pair .i64 (.pair (.sl .u8) (.sl .u8)))) (.pair (.sl .i64) (.sl (.sl .u8))))))], [some .i64], false, false, [], [], ⟨none, [], none, false⟩, false⟩),
  (41, ⟨[some (.pair (.pair (.sl (.sl .u8)) (.pair (.sl (.sl .u8)) (.pair (.sl .u8) (.pair .i64 (.pair .i64 (.pair .i64 (.pair .i64 (.pair .bool (.pair (.pair (.sl (.sl (.sl .u8))) .i64) (.pair .i64 (.pair (.sl (.pair .i64 (.pair .i64 (.pair .i64 (.pair .i64 (.pair (.sl .u8) (.pair (.sl .u8) (.pair .bool (.sl .u8))))))))) (.pair (.pair .i64 (.pair .i64 (.pair .i64 (.pair .i64 (.pair .i64 .i64))))) (.sl (.pair (.sl .u8) .i64)))))))))))))) (.pair .bool (.pair .bool (.pair (.pair (.sl (.sl (.sl .u8))) .i64) (.pair .i64 (.pair .bool (.pair .i64 (.pair (.sl (.pair .i64 (.pair (.sl .u8) (.pair (.sl .u8) (.pair .i64 (.pair .i64 (.pair .i64 (.pair .i64 .bool)))))))) (.pair (.sl (.pair (.pair .i64 (.pair .i64 (.pair .i64 (.pair (.sl .u8) (.sl .u8))))) (.pair (.pair (.sl .u8) (.pair (.sl .u8) (.sl .u8))) .i64))) (.pair (.sl .i64) (.sl .i64))))))))))), some .i64], [some (.pair (.pair (.sl (.sl .u8)) (.pair (.sl (.sl .u8)) (.pair (.sl .u8) (.pair .i64 (.pair .i64 (.pair .i64 (.pair .i64 (.pair .bool (.pair (.pair (.sl (.sl (.sl .u8))) .i64) (.pair .i64 (.pair (.sl (.pair .i64 (.pair .i64 (.pair .i64 (.pair .i64 (.pair (.sl .u8) (.pair (.sl .u8) (.pair .bool (.sl .u8))))))))) (.pair (.pair .i64 (.pair .i64 (.pair .i64 (.pair .i64 (.pair .i64 .i64))))) (.sl (.pair (.sl .u8) .i64)))))))))))))) (.pair .bool (.pair .bool (.pair (.pair (.sl (.sl (.sl .u8))) .i64) (.pair .i64 (.pair .bool (.pair .i64 (.pair (.sl (.pair .i64 (.pair (.sl .u8) (.pair (.sl .u8) (.pair .i64 (.pair .i64 (.pair .i64 (.pair .i64 .bool)))))))) (.pair (.sl (.pair (.pair .i64 (.pair .i64 (.pair .i64 (.pair (.sl .u8) (.sl .u8))))) (.pair (.pair (.sl .u8) (.pair (.sl .u8) (.sl .u8))) .i64))) (.pair (.sl .i64) (.sl .i64))))))))))), some (.pair .i64 (.pair (.sl .i64) (.pair (.sl (.sl .u8)) (.sl (.sl .u8)))))], false, false, [], [], ⟨none, [], none, false⟩, false⟩),
  (42, ⟨[some (.pair .i64 (.pair (.sl .i64) (.pair (.sl (.pair .i64 (.pair (.sl .u8) (.sl .u8)))) (.pair (.sl .i64) (.sl (.sl .u8))))))], [some (.pair .i64 (.pair .i64 (.pair .i64 (.pair (.sl .u8) (.sl .u8)))))], false, false, [], [(1, ⟨some [], [], none, false⟩)], ⟨none, [], none, false⟩, false⟩),
  (43, ⟨[some (.pair .i64 (.pair (.sl .i64) (.pair (.sl (.pair .i64 (.pair (.sl .u8) (.sl .u8)))) (.pair (.sl .i64) (.sl (.sl .u8)))))), some .i64], [some (.sl .u8)], false, false, [], [], ⟨none, [], none, false⟩, false⟩),
  (44, ⟨[some .i64, some (.sl (.sl .u8))], [some (.sl .u8)], false, false, [(⟨some [5], [(5, 5, .u8)], some [5, 12, 13, 14], false⟩, ⟨some [], [], some [5], false⟩)], [], ⟨none, [], none, false⟩, false⟩),
  (45, ⟨[some (.sl .u8), some .str, some (.sl .u8), some .i64], [some (.sl .u8)], false, false, [(⟨some [10], [(10, 5, .u8)], some [0, 3, 9, 10, 11], false⟩, ⟨some [], [], some [3, 10], false⟩)], [(4, ⟨some [9], [(9, 5, .u8)], none, false⟩), (9, ⟨some [10], [(10, 5, .u8)], none, false⟩)], ⟨none, [], none, false⟩, false⟩),
  (46, ⟨[some (.sl .u8), some (.pair .i64 (.pair .i64 (.pair .i64 (.pair (.sl .u8) (.sl .u8))))), some (.sl .u8), some (.sl .u8)], [some (.pair .i64 (.pair .i64 (.pair .i64 (.pair (.sl .u8) (.sl .u8))))), some (.pair (.sl .u8) (.pair (.sl .u8) (.sl .u8))), some .i64], false, false, [], [(6, ⟨some [], [], some [0, 2, 3, 8, 9, 11, 12], true⟩), (8, ⟨some [], [], none, false⟩), (10, ⟨some [], [], none, false⟩), (12, ⟨some [], [], none, false⟩), (13, ⟨some [], [], none, false⟩), (14, ⟨some [], [], none, false⟩)], ⟨none, [], none, false⟩, false⟩),
  (47, ⟨[some (.pair (.pair (.sl (.sl .u8)) (.pair (.sl (.sl .u8)) (.pair (.sl .u8) (.pair .i64 (.pair .i64 (.pair .i64 (.pair .i64 (.pair .bool (.pair (.pair (.sl (.sl (.sl .u8))) .i64) (.pair .i64 (.pair (.sl (.pair .i64 (.pair .i64 (.pair .i64 (.pair .i64 (.pair (.sl .u8) (.pair (.sl .u8) (.pair .bool (.sl .u8))))))))) (.pair (.pair .i64 (.pair .i64 (.pair .i64 (.pair .i64 (.pair .i64 .i64))))) (.sl (.pair (.sl .u8) .i64)))))))))))))) (.pair .bool (.pair .bool (.pair (.pair (.sl (.sl (.sl .u8))) .i64) (.pair .i64 (.pair .bool (.pair .i64 (.pair (.sl (.pair .i64 (.pair (.sl .u8) (.pair (.sl .u8) (.pair .i64 (.pair .i64 (.pair .i64 (.pair .i64 .bool)))))))) (.pair (.sl (.pair (.pair .i64 (.pair .i64 (.pair .i64 (.pair (.sl .u8) (.sl .u8))))) (.pair (.pair (.sl .u8) (.pair (.sl .u8) (.sl .u8))) .i64))) (.pair (.sl .i64) (.sl .i64))))))))))), some (.pair (.pair .i64 (.pair .i64 (.pair .i64 (.pair (.sl .u8) (.sl .u8))))) (.pair (.pair (.sl .u8) (.pair (.sl .u8) (.sl .u8))) .i64))], [some (.pair (.pair (.sl (.sl .u8)) (.pair (.sl (.sl .u8)) (.pair (.sl .u8) (.pair .i64 (.pair .i64 (.pair .i64 (.pair .i64 (.pair .bool (.pair (.pair (.sl (.sl (.sl .u8))) .i64) (.pair .i64 (.pair (.sl (.pair .i64 (.pair .i64 (.pair .i64 (.pair .i64 (.pair (.sl .u8) (.pair (.sl .u8) (.pair .bool (.sl .u8))))))))) (.pair (.pair .i64 (.pair .i64 (.pair .i64 (.pair .i64 (.pair .i64 .i64))))) (.sl (.pair (.sl .u8) .i64)))))))))))))) (.pair .bool (.pair .bool (.pair (.pair (.sl (.sl (.sl .u8))) .i64) (.pair .i64 (.pair .bool (.pair .i64 (.pair (.sl (.pair .i64 (.pair (.sl .u8) (.pair (.sl .u8) (.pair .i64 (.pair .i64 (.pair .i64 (.pair .i64 .bool)))))))) (.pair (.sl (.pair (.pair .i64 (.pair .i64 (.pair .i64 (.pair (.sl .u8) (.sl .u8))))) (.pair (.pair (.sl .u8) (.pair (.sl .u8) (.sl .u8))) .i64))) (.pair (.sl .i64) (.sl .i64))))))))))), some .i64, some .i64], false, false, [(⟨some [], [], some [2, 3, 4, 11, 12, 13], false⟩, ⟨some [], [], some [2, 4, 5, 6], false⟩)], [(5, ⟨some [], [], none, false⟩)], ⟨none, [], none, false⟩, false⟩),
  (48, ⟨[some (.pair .i64 (.pair .i64 (.pair .i64 (.pair (.sl .u8) (.sl .u8)))))], [some (.sl .u8)], false, false, [], [(1, ⟨some [], [], none, false⟩)], ⟨none, [], none, false⟩, false⟩),
  (49, ⟨[some (.pair .i64 (.pair .i64 (.pair .i64 (.pair (.sl .u8) (.sl .u8)))))], [some (.sl .u8)], false, false, [], [(1, ⟨some [], [], none, false⟩)], ⟨none, [], none, false⟩, false⟩),
  (50, ⟨[some (.pair .i64 (.pair (.sl .i64) (.pair (.sl (.pair .i64 (.pair (.sl .u8) (.sl .u8)))) (.pair (.sl .i64) (.sl (.sl .u8))))))], [some (.pair .i64 (.pair .i64 (.pair .i64 (.pair (.sl .u8) (.sl .u8)))))], false, false, [], [], ⟨none, [], none, false⟩, false⟩),
  (51, ⟨[some .i64, some (.sl (.sl .u8))], [some (.sl .u8)], false, false, [(⟨some [5], [(5, 5, .u8)], some [1, 5, 6], false⟩, ⟨some [], [], some [5], false⟩)], [], ⟨none, [], none, false⟩, false⟩),
  (53, ⟨[some (.sl .u8), some .str, some (.sl .u8), some .i64], [some (.sl .u8)], false, false, [(⟨some [9], [(9, 5, .u8)], some [0, 1, 2, 3, 9, 10], false⟩, ⟨some [], [], some [3, 9], false⟩)], [(7, ⟨some [9], [(9, 5, .u8)], none, false⟩), (8, ⟨some [9, 11], [(9, 5, .u8), (11, 5, .u8)], none, false⟩), (9, ⟨some [9], [(9, 5, .u8)], none, false⟩)], ⟨none, [], none, false⟩, false⟩),
  (52, ⟨[some (.sl .u8), some (.pair .i64 (.pair .i64 (.pair .i64 (.pair (.sl .u8) (.sl .u8))))), some (.sl .u8), some (.sl .u8)], [some (.pair .i64 (.pair .i64 (.pair .i64 (.pair (.sl .u8) (.sl .u8))))), some (.pair (.sl .u8) (.pair (.sl .u8) (.sl .u8))), some .i64], false, false, [], [(2, ⟨some [], [], none, false⟩), (3, ⟨some [], [], none, false⟩), (9, ⟨some [], [], some [0, 2, 3, 8, 9, 11, 12], true⟩), (11, ⟨some [], [], none, false⟩), (12, ⟨some [], [], none, false⟩)], ⟨none, [], none, false⟩, false⟩),
  (54, ⟨[some (.pair (.pair (.sl (.sl .u8)) (.pair (.sl (.sl .u8)) (.pair (.sl .u8) (.pair .i64 (.pair .i64 (.pair .i64 (.pair .i64 (.pair .bool (.pair (.pair (.sl (.sl (.sl .u8))) .i64) (.pair .i64 (.pair (.sl (.pair .i64 (.pair .i64 (.pair .i64 (.pair .i64 (.pair (.sl .u8) (.pair (.sl .u8) (.pair .bool (.sl .u8))))))))) (.pair (.pair .i64 (.pair .i64 (.pair .i64 (.pair .i64 (.pair .i64 .i64))))) (.sl (.pair (.sl .u8) .i64)))))))))))))) (.pair .bool (.pair .bool (.pair (.pair (.sl (.sl (.sl .u8))) .i64) (.pair .i64 (.pair .bool (.pair .i64 (.pair (.sl (.pair .i64 (.pair (.sl .u8) (.pair (.sl .u8) (.pair .i64 (.pair .i64 (.pair .i64 (.pair .i64 .bool)))))))) (.pair (.sl (.pair (.pair .i64 (.pair .i64 (.pair .i64 (.pair (.sl .u8) (.sl .u8))))) (.pair (.pair (.sl .u8) (.pair (.sl .u8) (.sl .u8))) .i64))) (.pair (.sl .i64) (.sl .i64))))))))))), some .i64], [some (.pair (.pair (.sl (.sl .u8)) (.pair (.sl (.sl .u8)) (.pair (.sl .u8) (.pair .i64 (.pair .i64 (.pair .i64 (.pair .i64 (.pair .bool (.pair (.pair (.sl (.sl (.sl .u8))) .i64) (.pair .i64 (.pair (.sl (.pair .i64 (.pair .i64 (.pair .i64 (.pair .i64 (.pair (.sl .u8) (.pair (.sl .u8) (.pair .bool (.sl .u8))))))))) (.pair (.pair .i64 (.pair .i64 (.pair .i64 (.pair .i64 (.pair .i64 .i64))))) (.sl (.pair (.sl .u8) .i64)))))))))))))) (.pair .bool (.pair .bool (.pair (.pair (.sl (.sl (.sl .u8))) .i64) (.pair .i64 (.pair .bool (.pair .i64 (.pair (.sl (.pair .i64 (.pair (.sl .u8) (.pair (.sl .u8) (.pair .i64 (.pair .i64 (.pair .i64 (.pair .i64 .bool)))))))) (.pair (.sl (.pair (.pair .i64 (.pair .i64 (.pair .i64 (.pair (.sl .u8) (.sl .u8))))) (.pair (.pair (.sl .u8) (.pair (.sl .u8) (.sl .u8))) .i64))) (.pair (.sl .i64) (.sl .i64))))))))))), some (.pair .i64 (.pair (.sl .i64) (.pair (.sl (.sl .u8)) (.sl (.sl .u8)))))], false, false, [], [], ⟨none, [], none, false⟩, false⟩),
  (55, ⟨[some (.pair (.pair (.sl (.sl .u8)) (.pair (.sl (.sl .u8)) (.pair (.sl .u8) (.pair .i64 (.pair .i64 (.pair .i64 (.pair .i64 (.pair .bool (.pair (.pair (.sl (.sl (.sl .u8))) .i64) (.pair .i64 (.pair (.sl (.pair .i64 (.pair .i64 (.pair .i64 (.pair .i64 (.pair (.sl .u8) (.pair (.sl .u8) (.pair .bool (.sl .u8))))))))) (.pair (.pair .i64 (.pair .i64 (.pair .i64 (.pair .i64 (.pair .i64 .i64))))) (.sl (.pair (.sl .u8) .i64)))))))))))))) (.pair .bool (.pair .bool (.pair (.pair (.sl (.sl (.sl .u8))) .i64) (.pair .i64 (.pair .bool (.pair .i64 (.pair (.sl (.pair .i64 (.pair (.sl .u8) (.pair (.sl .u8) (.pair .i64 (.pair .i64 (.pair .i64 (.pair .i64 .bool)))))))) (.pair (.sl (.pair (.pair .i64 (.pair .i64 (.pair .i64 (.pair (.sl .u8) (.sl .u8))))) (.pair (.pair (.sl .u8) (.pair (.sl .u8) (.sl .u8))) .i64))) (.pair (.sl .i64) (.sl .i64)))))))))))], [some .i64], false, false, [(⟨some [], [], some [1, 3], false⟩, ⟨some [], [], some [2], false⟩)], [], ⟨none, [], none, false⟩, false⟩),
  (56, ⟨[some (.pair (.pair (.sl (.sl .u8)) (.pair (.sl (.sl .u8)) (.pair (.sl .u8) (.pair .i64 (.pair .i64 (.pair .i64 (.pair .i64 (.pair .bool (.pair (.pair (.sl (.sl (.sl .u8))) .i64) (.pair .i64 (.pair (.sl (.pair .i64 (.pair .i64 (.pair .i64 (.pair .i64 (.pair (.sl .u8) (.pair (.sl .u8) (.pair .bool (.sl .u8))))))))) (.pair (.pair .i64 (.pair .i64 (.pair .i64 (.pair .i64 (.pair .i64 .i64))))) (.sl (.pair (.sl .u8) .i64)))))))))))))) (.pair .bool (.pair .bool (.pair (.pair (.sl (.sl (.sl .u8))) .i64) (.pair .i64 (.pair .bool (.pair .i64 (.pair (.sl (.pair .i64 (.pair (.sl .u8) (.pair (.sl .u8) (.pair .i64 (.pair .i64 (.pair .i64 (.pair .i64 .bool)))))))) (.pair (.sl (.pair (.pair .i64 (.pair .i64 (.pair .i64 (.pair (.sl .u8) (.sl .u8))))) (.pair (.pair (.sl .u8) (.pair (.sl .u8) (.sl .u8))) .i64))) (.pair (.sl .i64) (.sl .i64))))))))))), some .i64, some (.pair (.pair .i64 (.pair .i64 (.pair .i64 (.pair (.sl .u8) (.sl .u8))))) (.pair (.pair (.sl .u8) (.pair (.sl .u8) (.sl .u8))) .i64))], [some (.pair (.pair (.sl (.sl .u8)) (.pair (.sl (.sl .u8)) (.pair (.sl .u8) (.pair .i64 (.pair .i64 (.pair .i64 (.pair .i64 (.pair .bool (.pair (.pair (.sl (.sl (.sl .u8))) .i64) (.pair .i64 (.pair (.sl (.pair .i64 (.pair .i64 (.pair .i64 (.pair .i64 (.pair (.sl .u8) (.pair (.sl .u8) (.pair .bool (.sl .u8))))))))) (.pair (.pair .i64 (.pair .i64 (.pair .i64 (.pair .i64 (.pair .i64 .i64))))) (.sl (.pair (.sl .u8) .i64)))))))))))))) (.pair .bool (.pair .bool (.pair (.pair (.sl (.sl (.sl .u8))) .i64) (.pair .i64 (.pair .bool (.pair .i64 (.pair (.sl (.pair .i64 (.pair (.sl .u8) (.pair (.sl .u8) (.pair .i64 (.pair .i64 (.pair .i64 (.pair .i64 .bool)))))))) (.pair (.sl (.pair (.pair .i64 (.pair .i64 (.pair .i64 (.pair (.sl .u8) (.sl .u8))))) (.pair (.pair (.sl .u8) (.pair (.sl .u8) (.sl .u8))) .i64))) (.pair (.sl .i64) (.sl .i64)))))))))))], false, false, [], [], ⟨none, [], none, false⟩, false⟩),
  (57, ⟨[some (.pair .i64 (.pair .i64 (.pair .i64 (.pair (.sl .u8) (.sl .u8)))))], [none], true, false, [], [(1, ⟨some [], [], none, false⟩)], ⟨none, [(2, 5, .u8)], none, false⟩, false⟩),
  (58, ⟨[some (.pair .i64 (.pair .i64 (.pair .i64 (.pair (.sl .u8) (.sl .u8)))))], [some (.sl .u8)], false, false, [], [(1, ⟨some [], [], none, false⟩)], ⟨none, [], none, false⟩, false⟩),
  (59, ⟨[some (.pair (.pair (.sl (.sl .u8)) (.pair (.sl (.sl .u8)) (.pair (.sl .u8) (.pair .i64 (.pair .i64 (.pair .i64 (.pair .i64 (.pair .bool (.pair (.pair (.sl (.sl (.sl .u8))) .i64) (.pair .i64 (.pair (.sl (.pair .i64 (.pair .i64 (.pair .i64 (.pair .i64 (.pair (.sl .u8) (.pair (.sl .u8) (.pair .bool (.sl .u8))))))))) (.pair (.pair .i64 (.pair .i64 (.pair .i64 (.pair .i64 (.pair .i64 .i64))))) (.sl (.pair (.sl .u8) .i64)))))))))))))) (.pair .bool (.pair .bool (.pair (.pair (.sl (.sl (.sl .u8))) .i64) (.pair .i64 (.pair .bool (.pair .i64 (.pair (.sl (.pair .i64 (.pair (.sl .u8) (.pair (.sl .u8) (.pair .i64 (.pair .i64 (.pair .i64 (.pair .i64 .bool)))))))) (.pair (.sl (.pair (.pair .i64 (.pair .i64 (.pair .i64 (.pair (.sl .u8) (.sl .u8))))) (.pair (.pair (.sl .u8) (.pair (.sl .u8) (.sl .u8))) .i64))) (.pair (.sl .i64) (.sl .i64))))))))))), some (.pair .i64 (.pair (.sl .i64) (.pair (.sl (.pair .i64 (.pair (.sl .u8) (.sl .u8)))) (.pair (.sl .i64) (.sl (.sl .u8)))))), some .bool], [some (.pair (.pair .i64 (.pair .i64 (.pair .i64 (.pair (.sl .u8) (.sl .u8))))) (.pair (.pair (.sl .u8) (.pair (.sl .u8) (.sl .u8))) .i64)), some .i64], false, false, [], [(1, ⟨some [], [], none, false⟩), (8, ⟨some [], [], none, false⟩)], ⟨none, [], none, false⟩, false⟩),
  (60, ⟨[some (.pair (.pair (.sl (.sl .u8)) (.pair (.sl (.sl .u8)) (.pair (.sl .u8) (.pair .i64 (.pair .i64 (.pair .i64 (.pair .i64 (.pair .bool (.pair (.pair (.sl (.sl (.sl .u8))) .i64) (.pair .i64 (.pair (.sl (.pair .i64 (.pair .i64 (.pair .i64 (.pair .i64 (.pair (.sl .u8) (.pair (.sl .u8) (.pair .bool (.sl .u8))))))))) (.pair (.pair .i64 (.pair .i64 (.pair .i64 (.pair .i64 (.pair .i64 .i64))))) (.sl (.pair (.sl .u8) .i64)))))))))))))) (.pair .bool (.pair .bool (.pair (.pair (.sl (.sl (.sl .u8))) .i64) (.pair .i64 (.pair .bool (.pair .i64 (.pair (.sl (.pair .i64 (.pair (.sl .u8) (.pair (.sl .u8) (.pair .i64 (.pair .i64 (.pair .i64 (.pair .i64 .bool)))))))) (.pair (.sl (.pair (.pair .i64 (.pair .i64 (.pair .i64 (.pair (.sl .u8) (.sl .u8))))) (.pair (.pair (.sl .u8) (.pair (.sl .u8) (.sl .u8))) .i64))) (.pair (.sl .i64) (.sl .i64))))))))))), some (.pair (.pair .i64 (.pair .i64 (.pair .i64 (.pair (.sl .u8) (.sl .u8))))) (.pair (.pair (.sl .u8) (.pair (.sl .u8) (.sl .u8))) .i64)), some (.sl .u8)], [some (.pair (.pair (.sl (.sl .u8)) (.pair (.sl (.sl .u8)) (.pair (.sl .u8) (.pair .i64 (.pair .i64 (.pair .i64 (.pair .i64 (.pair .bool (.pair (.pair (.sl (.sl (.sl .u8))) .i64) (.pair .i64 (.pair (.sl (.pair .i64 (.pair .i64 (.pair .i64 (.pair .i64 (.pair (.sl .u8) (.pair (.sl .u8) (.pair .bool (.sl .u8))))))))) (.pair (.pair .i64 (.pair .i64 (.pair .i64 (.pair .i64 (.pair .i64 .i64))))) (.sl (.pair (.sl .u8) .i64)))))))))))))) (.pair .bool (.pair .bool (.pair (.pair (.sl (.sl (.sl .u8))) .i64) (.pair .i64 (.pair .bool (.pair .i64 (.pair (.sl (.pair .i64 (.pair (.sl .u8) (.pair (.sl .u8) (.pair .i64 (.pair .i64 (.pair .i64 (.pair .i64 .bool)))))))) (.pair (.sl (.pair (.pair .i64 (.pair .i64 (.pair .i64 (.pair (.sl .u8) (.sl .u8))))) (.pair (.pair (.sl .u8) (.pair (.sl .u8) (.sl .u8))) .i64))) (.pair (.sl .i64) (.sl .i64))))))))))), some (.sl .u8), some .i64], false, false, [], [(1, ⟨some [], [], none, false⟩), (4, ⟨some [], [], none, false⟩)], ⟨none, [], none, false⟩, false⟩),
  (61, ⟨[some (.pair (.sl (.sl .u8)) (.pair (.sl (.sl .u8)) (.pair (.sl .u8) (.pair .i64 (.pair .i64 (.pair .i64 (.pair .i64 (.pair .bool (.pair (.pair (.sl (.sl (.sl .u8))) .i64) (.pair .i64 (.pair (.sl (.pair .i64 (.pair .i64 (.pair .i64 (.pair .i64 (.pair (.sl .u8) (.pair (.sl .u8) (.pair .bool (.sl .u8))))))))) (.pair (.pair .i64 (.pair .i64 (.pair .i64 (.pair .i64 (.pair .i64 .i64))))) (.sl (.pair (.sl .u8) .i64)))))))))))))), some (.pair (.sl (.sl .u8)) (.pair (.sl (.sl .u8)) (.pair (.sl .u8) (.pair .i64 (.pair .i64 (.pair .i64 (.pair .i64 (.pair .bool (.pair (.pair (.sl (.sl (.sl .u8))) .i64) (.pair .i64 (.pair (.sl (.pair .i64 (.pair .i64 (.pair .i64 (.pair .i64 (.pair (.sl .u8) (.pair (.sl .u8) (.pair .bool (.sl .u8))))))))) (.pair (.pair .i64 (.pair .i64 (.pair .i64 (.pair .i64 (.pair .i64 .i64))))) (.sl (.pair (.sl .u8) .i64))))))))))))))], [some .bool], false, false, [(⟨some [], [], some [2, 3, 5], false⟩, ⟨some [], [], some [2, 3, 4], false⟩), (⟨some [], [], some [2, 3, 6], false⟩, ⟨some [], [], some [4], false⟩)], [(1, ⟨some [], [], none, false⟩), (6, ⟨some [], [], none, false⟩), (11, ⟨some [], [], none, false⟩)], ⟨none, [], none, false⟩, false⟩),
  (62, ⟨[some (.pair (.sl (.sl (.sl .u8))) .i64), some (.pair (.sl (.sl (.sl .u8))) .i64)], [some .bool], false, false, [(⟨some [], [], some [2, 3, 5], false⟩, ⟨some [], [], some [2, 3, 4], false⟩)], [(6, ⟨some [], [], none, false⟩)], ⟨none, [], none, false⟩, false⟩),
  (63, ⟨[some (.sl .i64), some (.sl .i64)], [some .bool], false, false, [(⟨some [], [], some [0, 1, 5], false⟩, ⟨some [], [], some [4], false⟩)], [], ⟨none, [], none, false⟩, false⟩),
  (64, ⟨[some (.pair .i64 (.pair (.sl .u8) (.pair (.sl .u8) (.pair .i64 (.pair .i64 (.pair .i64 (.pair .i64 .bool))))))), some (.pair .i64 (.pair (.sl .u8) (.pair (.sl .u8) (.pair .i64 (.pair .i64 (.pair .i64 (.pair .i64 .bool)))))))], [some .bool], false, false, [], [(1, ⟨some [], [], none, false⟩)], ⟨none, [], none, false⟩, false⟩),
  (65, ⟨[some (.pair .i64 (.pair .i64 (.pair .i64 (.pair (.sl .u8) (.sl .u8))))), some (.pair .i64 (.pair .i64 (.pair .i64 (.pair (.sl .u8) (.sl .u8)))))], [some .bool], false, false, [], [(1, ⟨some [], [], none, false⟩)], ⟨none, [], none, false⟩, false⟩),
  (66, ⟨[some (.pair (.sl .u8) (.pair (.sl .u8) (.sl .u8))), some (.pair (.sl .u8) (.pair (.sl .u8) (.sl .u8)))], [some .bool], false, false, [], [(1, ⟨some [], [], none, false⟩)], ⟨none, [], none, false⟩, false⟩),
  (67, ⟨[some .i64, some (.sl .u8), some (.sl .u8)], [some (.sl .u8), some .bool], false, false, [(⟨some [9], [(9, 5, .u8)], some [0, 2, 8, 9, 10], false⟩, ⟨some [], [], some [0, 9], false⟩)], [(3, ⟨some [], [], none, false⟩), (8, ⟨some [9], [(9, 5, .u8)], none, false⟩), (9, ⟨some [], [], none, false⟩)], ⟨none, [], none, false⟩, false⟩),
  (68, ⟨[some (.sl .u8), some .i64, some (.sl (.sl .u8))], [some (.sl .u8)], false, false, [(⟨some [], [], some [1, 2, 7, 8], false⟩, ⟨some [], [], some [7], false⟩)], [(3, ⟨some [], [], none, false⟩), (8, ⟨some [], [], none, false⟩), (9, ⟨some [], [], none, false⟩), (10, ⟨some [], [], some [1, 2, 7, 8], true⟩)], ⟨none, [], none, false⟩, false⟩),
  (82, ⟨[some (.pair (.pair (.sl (.sl .u8)) (.pair (.sl (.sl .u8)) (.pair (.sl .u8) (.pair .i64 (.pair .i64 (.pair .i64 (.pair .i64 (.pair .bool (.pair (.pair (.sl (.sl (.sl .u8))) .i64) (.pair .i64 (.pair (.sl (.pair .i64 (.pair .i64 (.pair .i64 (.pair .i64 (.pair (.sl .u8) (.pair (.sl .u8) (.pair .bool (.sl .u8))))))))) (.pair (.pair .i64 (.pair .i64 (.pair .i64 (.pair .i64 (.pair .i64 .i64))))) (.sl (.pair (.sl .u8) .i64)))))))))))))) (.pair .bool (.pair .bool (.pair (.pair (.sl (.sl (.sl .u8))) .i64) (.pair .i64 (.pair .bool (.pair .i64 (.pair (.sl (.pair .i64 (.pair (.sl .u8) (.pair (.sl .u8) (.pair .i64 (.pair .i64 (.pair .i64 (.pair .i64 .bool)))))))) (.pair (.sl (.pair (.pair .i64 (.pair .i64 (.pair .i64 (.pair (.sl .u8) (.sl .u8))))) (.pair (.pair (.sl .u8) (.pair (.sl .u8) (.sl .u8))) .i64))) (.pair (.sl .i64) (.sl .i64))))))))))), some (.pair .i64 (.pair (.sl .i64) (.pair (.sl (.pair .i64 (.pair (.sl .u8) (.sl .u8)))) (.pair (.sl .i64) (.sl (.sl .u8))))))], [some (.pair (.pair .i64 (.pair .i64 (.pair .i64 (.pair (.sl .u8) (.sl .u8))))) (.pair (.pair (.sl .u8) (.pair (.sl .u8) (.sl .u8))) .i64)), some .i64], false, false, [], [(1, ⟨some [], [], none, false⟩), (4, ⟨some [], [], some [4, 6, 7], true⟩)], ⟨none, [], none, false⟩, false⟩),
  (83, ⟨[some (.pair (.pair (.sl (.sl .u8)) (.pair (.sl (.sl .u8)) (.pair (.sl .u8) (.pair .i64 (.pair .i64 (.pair .i64 (.pair .i64 (.pair .bool (.pair (.pair (.sl (.sl (.sl .u8))) .i64) (.pair .i64 (.pair (.sl (.pair .i64 (.pair .i64 (.pair .i64 (.pair .i64 (.pair (.sl .u8) (.pair (.sl .u8) (.pair .bool (.sl .u8))))))))) (.pair (.pair .i64 (.pair .i64 (.pair .i64 (.pair .i64 (.pair .i64 .i64))))) (.sl (.pair (.sl .u8) .i64)))))))))))))) (.pair .bool (.pair .bool (.pair (.pair (.sl (.sl (.sl .u8))) .i64) (.pair .i64 (.pair .bool (.pair .i64 (.pair (.sl (.pair .i64 (.pair (.sl .u8) (.pair (.sl .u8) (.pair .i64 (.pair .i64 (.pair .i64 (.pair .i64 .bool)))))))) (.pair (.sl (.pair (.pair .i64 (.pair .i64 (.pair .i64 (.pair (.sl .u8) (.sl .u8))))) (.pair (.pair (.sl .u8) (.pair (.sl .u8) (.sl .u8))) .i64))) (.pair (.sl .i64) (.sl .i64))))))))))), some .i64], [some (.pair (.pair (.sl (.sl .u8)) (.pair (.sl (.sl .u8)) (.pair (.sl .u8) (.pair .i64 (.pair .i64 (.pair .i64 (.pair .i64 (.pair .bool (.pair (.pair (.sl (.sl (.sl .u8))) .i64) (.pair .i64 (.pair (.sl (.pair .i64 (.pair .i64 (.pair .i64 (.pair .i64 (.pair (.sl .u8) (.pair (.sl .u8) (.pair .bool (.sl .u8))))))))) (.pair (.pair .i64 (.pair .i64 (.pair .i64 (.pair .i64 (.pair .i64 .i64))))) (.sl (.pair (.sl .u8) .i64)))))))))))))) (.pair .bool (.pair .bool (.pair (.pair (.sl (.sl (.sl .u8))) .i64) (.pair .i64 (.pair .bool (.pair .i64 (.pair (.sl (.pair .i64 (.pair (.sl .u8) (.pair (.sl .u8) (.pair .i64 (.pair .i64 (.pair .i64 (.pair .i64 .bool)))))))) (.pair (.sl (.pair (.pair .i64 (.pair .i64 (.pair .i64 (.pair (.sl .u8) (.sl .u8))))) (.pair (.pair (.sl .u8) (.pair (.sl .u8) (.sl .u8))) .i64))) (.pair (.sl .i64) (.sl .i64))))))))))), some (.sl .u8)], false, false, [], [(1, ⟨some [], [], none, false⟩), (2, ⟨some [], [], none, false⟩)], ⟨none, [], none, false⟩, false⟩),
  (84, ⟨[some (.pair (.sl .u8) (.pair (.sl .u8) (.sl .u8))), some (.pair .i64 (.pair .i64 (.pair .i64 (.pair (.sl .u8) (.sl .u8))))), some (.pair (.sl .u8) (.pair (.sl .u8) (.sl .u8)))], [some (.sl .u8)], false, false, [], [(1, ⟨some [], [], none, false⟩), (2, ⟨some [], [], none, false⟩), (3, ⟨some [], [], none, false⟩)], ⟨none, [], none, false⟩, false⟩),
  (85, ⟨[some (.sl .u8)], [some (.pair .i64 (.pair .i64 (.pair .i64 (.pair (.sl .u8) (.sl .u8))))), some .i64], false, false, [(⟨some [], [], some [2, 4, 5, 17, 18, 19], false⟩, ⟨some [], [], some [2, 4, 5], false⟩), (⟨some [], [], some [2, 4, 5, 30, 31, 32], false⟩, ⟨some [], [], some [2, 4, 5], false⟩)], [(1, ⟨some [], [], none, false⟩), (6, ⟨some [], [], none, false⟩), (11, ⟨some [], [], none, false⟩), (13, ⟨some [], [], none, false⟩), (16, ⟨some [], [], none, false⟩)], ⟨none, [], none, false⟩, false⟩),
  (86, ⟨[some (.pair (.sl .u8) (.pair (.sl .u8) (.sl .u8))), some (.pair .i64 (.pair .i64 (.pair .i64 (.pair (.sl .u8) (.sl .u8))))), some (.sl .u8)], [some (.pair (.sl .u8) (.pair (.sl .u8) (.sl .u8))), some .i64], false, false, [], [(1, ⟨some [], [], none, false⟩), (2, ⟨some [], [], none, false⟩), (5, ⟨some [], [], none, false⟩), (7, ⟨some [], [], none, false⟩), (8, ⟨some [], [], none, false⟩), (9, ⟨some [], [], none, false⟩), (10, ⟨some [], [], none, false⟩), (13, ⟨some [], [], none, false⟩)], ⟨none, [], none, false⟩, false⟩),
  (87, ⟨[some (.pair (.pair (.sl (.sl .u8)) (.pair (.sl (.sl .u8)) (.pair (.sl .u8) (.pair .i64 (.pair .i64 (.pair .i64 (.pair .i64 (.pair .bool (.pair (.pair (.sl (.sl (.sl .u8))) .i64) (.pair .i64 (.pair (.sl (.pair .i64 (.pair .i64 (.pair .i64 (.pair .i64 (.pair (.sl .u8) (.pair (.sl .u8) (.pair .bool (.sl .u8))))))))) (.pair (.pair .i64 (.pair .i64 (.pair .i64 (.pair .i64 (.pair .i64 .i64))))) (.sl (.pair (.sl .u8) .i64)))))))))))))) (.pair .bool (.pair .bool (.pair (.pair (.sl (.sl (.sl .u8))) .i64) (.pair .i64 (.pair .bool (.pair .i64 (.pair (.sl (.pair .i64 (.pair (.sl .u8) (.pair (.sl .u8) (.pair .i64 (.pair .i64 (.pair .i64 (.pair .i64 .bool)))))))) (.pair (.sl (.pair (.pair .i64 (.pair .i64 (.pair .i64 (.pair (.sl .u8) (.sl .u8))))) (.pair (.pair (.sl .u8) (.pair (.sl .u8) (.sl .u8))) .i64))) (.pair (.sl .i64) (.sl .i64))))))))))), some .i64], [some (.pair (.pair .i64 (.pair .i64 (.pair .i64 (.pair (.sl .u8) (.sl .u8))))) (.pair (.pair (.sl .u8) (.pair (.sl .u8) (.sl .u8))) .i64)), some .i64], false, false, [], [], ⟨none, [], none, false⟩, false⟩),
  (74, ⟨[some (.pair .i64 (.pair (.sl .i64) (.pair (.sl (.pair .i64 (.pair (.sl .u8) (.sl .u8)))) (.pair (.sl .i64) (.sl (.sl .u8)))))), some .i64], [some .i64], false, false, [], [], ⟨none, [], none, false⟩, false⟩),
  (75, ⟨[some (.pair (.sl (.sl (.sl .u8))) .i64), some (.pair .i64 .i64)], [some (.sl .u8), some .i64], false, false, [(⟨some [7], [(7, 5, .u8)], some [2, 3, 6, 7, 13, 14], false⟩, ⟨some [7], [(7, 5, .u8)], some [2, 3, 4, 5, 6, 7], false⟩), (⟨some [7], [(7, 5, .u8)], some [2, 6, 7, 27, 28], false⟩, ⟨some [], [], some [4, 5, 6, 7], false⟩), (⟨some [7], [(7, 5, .u8)], some [2, 6, 7, 10, 11, 27, 28, 40], false⟩, ⟨some [7], [(7, 5, .u8)], some [2, 6, 7, 27, 28], false⟩)], [(7, ⟨some [7], [(7, 5, .u8)], none, false⟩), (12, ⟨some [7], [(7, 5, .u8)], none, false⟩), (19, ⟨some [7], [(7, 5, .u8)], some [2, 6, 7, 10, 11, 27, 28, 40], true⟩), (21, ⟨some [], [], none, false⟩)], ⟨none, [], none, false⟩, false⟩),
  (76, ⟨[some (.pair (.sl .u8) (.pair (.sl .u8) (.pair .i64 (.pair .i64 (.pair .i64 (.pair .bool (.pair .i64 (.pair (.pair .i64 .i64) (.sl .u8)))))))))], [some (.sl .u8)], false, false, [(⟨some [3], [(3, 5, .u8)], some [1, 3, 37, 38], false⟩, ⟨some [3], [(3, 5, .u8)], some [1, 3], false⟩)], [(1, ⟨some [], [], none, false⟩), (2, ⟨some [], [], none, false⟩), (3, ⟨some [], [], none, false⟩), (4, ⟨some [], [], none, false⟩), (8, ⟨some [], [], some [1, 3, 4], true⟩), (9, ⟨some [], [], none, false⟩), (13, ⟨some [], [], none, false⟩)], ⟨none, [], none, false⟩, false⟩),
  (110, ⟨[], [some (.pair .i64 (.pair .i64 (.pair .i64 (.pair .i64 (.pair .i64 .i64)))))], false, false, [], [], ⟨none, [], none, false⟩, false⟩),
  (111, ⟨[some .i64], [some (.pair (.sl (.sl (.sl .u8))) .i64)], false, false, [(⟨some [], [], some [0, 2, 3, 4], false⟩, ⟨some [], [], some [2, 3], false⟩), (⟨some [5], [(5, 22, (.sl .u8))], some [0, 2, 3, 4, 5, 6], false⟩, ⟨some [], [], some [0, 2, 3, 4, 5], false⟩)], [(11, ⟨some [5], [(5, 22, (.sl .u8))], none, false⟩)], ⟨none, [], none, false⟩, false⟩),
  (112, ⟨[some (.pair (.sl (.sl (.sl .u8))) .i64)], [some (.pair (.sl (.sl (.sl .u8))) .i64)], false, false, [(⟨some [], [], some [2, 3, 4], false⟩, ⟨some [], [], some [2, 3], false⟩), (⟨some [], [], some [2, 3, 4, 5], false⟩, ⟨some [], [], some [2, 3, 4], false⟩)], [(1, ⟨some [], [], none, false⟩), (8, ⟨some [], [], none, false⟩)], ⟨none, [], none, false⟩, false⟩),
  (114, ⟨[some (.pair (.pair (.sl (.sl .u8)) (.pair (.sl (.sl .u8)) (.pair (.sl .u8) (.pair .i64 (.pair .i64 (.pair .i64 (.pair .i64 (.pair .bool (.pair (.pair (.sl (.sl (.sl .u8))) .i64) (.pair .i64 (.pair (.sl (.pair .i64 (.pair .i64 (.pair .i64 (.pair .i64 (.pair (.sl .u8) (.pair (.sl .u8) (.pair .bool (.sl .u8))))))))) (.pair (.pair .i64 (.pair .i64 (.pair .i64 (.pair .i64 (.pair .i64 .i64))))) (.sl (.pair (.sl .u8) .i64)))))))))))))) (.pair .bool (.pair .bool (.pair (.pair (.sl (.sl (.sl .u8))) .i64) (.pair .i64 (.pair .bool (.pair .i64 (.pair (.sl (.pair .i64 (.pair (.sl .u8) (.pair (.sl .u8) (.pair .i64 (.pair .i64 (.pair .i64 (.pair .i64 .bool)))))))) (.pair (.sl (.pair (.pair .i64 (.pair .i64 (.pair .i64 (.pair (.sl .u8) (.sl .u8))))) (.pair (.pair (.sl .u8) (.pair (.sl .u8) (.sl .u8))) .i64))) (.pair (.sl .i64) (.sl .i64)))))))))))], [some (.pair (.pair (.sl (.sl .u8)) (.pair (.sl (.sl .u8)) (.pair (.sl .u8) (.pair .i64 (.pair .i64 (.pair .i64 (.pair .i64 (.pair .bool (.pair (.pair (.sl (.sl (.sl .u8))) .i64) (.pair .i64 (.pair (.sl (.pair .i64 (.pair .i64 (.pair .i64 (.pair .i64 (.pair (.sl .u8) (.pair (.sl .u8) (.pair .bool (.sl .u8))))))))) (.pair (.pair .i64 (.pair .i64 (.pair .i64 (.pair .i64 (.pair .i64 .i64))))) (.sl (.pair (.sl .u8) .i64)))))))))))))) (.pair .bool (.pair .bool (.pair (.pair (.sl (.sl (.sl .u8))) .i64) (.pair .i64 (.pair .bool (.pair .i64 (.pair (.sl (.pair .i64 (.pair (.sl .u8) (.pair (.sl .u8) (.pair .i64 (.pair .i64 (.pair .i64 (.pair .i64 .bool)))))))) (.pair (.sl (.pair (.pair .i64 (.pair .i64 (.pair .i64 (.pair (.sl .u8) (.sl .u8))))) (.pair (.pair (.sl .u8) (.pair (.sl .u8) (.sl .u8))) .i64))) (.pair (.sl .i64) (.sl .i64)))))))))))], false, false, [], [(3, ⟨some [], [], none, false⟩)], ⟨none, [], none, false⟩, false⟩),
  (115, ⟨[some .i64], [none], true, false, [], [], ⟨none, [(2, 5, .u8)], none, false⟩, false⟩),
  (116, ⟨[some (.sl .u8), some (.sl .u8)], [some (.sl .u8)], false, false, [], [(2, ⟨some [], [], none, false⟩), (3, ⟨some [], [], some [1, 2], true⟩), (4, ⟨some [], [], none, false⟩), (5, ⟨some [], [], none, false⟩)], ⟨none, [], none, false⟩, false⟩),
  (117, ⟨[some .i64], [some (.pair .i64 (.pair .i64 (.pair .i64 (.pair (.sl .u8) (.sl .u8))))), some (.pair (.sl .u8) (.pair (.sl .u8) (.sl .u8))), some .i64], false, false, [], [], ⟨none, [], none, false⟩, false⟩),
  (118, ⟨[some (.pair .i64 (.pair .i64 (.pair .i64 (.pair (.sl .u8) (.sl .u8)))))], [some .i64], false, false, [], [(11, ⟨some [], [], none, false⟩), (13, ⟨some [], [], some [], true⟩)], ⟨none, [], none, false⟩, false⟩),
  (119, ⟨[some .i64, some .i64, some (.pair (.sl .u8) (.pair (.sl .u8) (.sl .u8)))], [some (.sl .u8)], false, false, [], [(2, ⟨some [], [], none, false⟩), (3, ⟨some [], [], none, false⟩)], ⟨none, [], none, false⟩, false⟩),
  (120, ⟨[some (.sl (.pair (.pair .i64 (.pair .i64 (.pair .i64 (.pair (.sl .u8) (.sl .u8))))) (.pair (.pair (.sl .u8) (.pair (.sl .u8) (.sl .u8))) .i64)))], [none], true, false, [], [], ⟨none, [(2, 61, (.pair (.pair .i64 (.pair .i64 (.pair .i64 (.pair (.sl .u8) (.sl .u8))))) (.pair (.pair (.sl .u8) (.pair (.sl .u8) (.sl .u8))) .i64)))], none, false⟩, false⟩),
  (121, ⟨[some (.sl .u8), some (.sl .u8)], [none], true, false, [], [(2, ⟨some [], [], none, false⟩)], ⟨none, [(4, 5, .u8)], none, false⟩, false⟩),
  (122, ⟨[some .i64, some (.sl (.sl .u8))], [some (.sl .u8)], false, false, [], [(1, ⟨some [], [], none, false⟩)], ⟨none, [], none, false⟩, false⟩),
  (124, ⟨[some .i64], [none], true, false, [], [], ⟨none, [(2, 5, .u8)], none, false⟩, false⟩),
  (125, ⟨[some (.sl .u8), some (.sl .u8)], [some (.sl .u8)], false, false, [(⟨some [5, 6], [(5, 5, .u8), (6, 5, .u8)], some [0, 1, 5, 6, 7], false⟩, ⟨some [5, 6], [(5, 5, .u8), (6, 5, .u8)], some [1, 5, 6], false⟩)], [(2, ⟨some [], [], none, false⟩), (3, ⟨some [], [], some [0, 1], true⟩), (10, ⟨some [5, 6], [(5, 5, .u8), (6, 5, .u8)], some [0, 1, 5, 6, 7, 8], true⟩), (11, ⟨some [5, 6], [(5, 5, .u8), (6, 5, .u8)], none, false⟩)], ⟨none, [], none, false⟩, false⟩),
  (73, ⟨[some (.pair .i64 (.pair .i64 (.pair .i64 (.pair (.sl .u8) (.sl .u8)))))], [some .i64], false, false, [], [(5, ⟨some [], [], none, false⟩)], ⟨none, [], none, false⟩, false⟩),
  (123, ⟨[some (.pair (.sl .u8) (.pair (.sl .u8) (.sl .u8))), some .i64, some .i64], [some (.sl .u8)], false, false, [], [(2, ⟨some [], [], none, false⟩), (3, ⟨some [], [], none, false⟩)], ⟨none, [], none, false⟩, false⟩),
  (126, ⟨[some (.sl .u8), some (.sl .u8)], [none], true, false, [], [(3, ⟨some [], [], some [0, 1], true⟩)], ⟨none, [(4, 5, .u8)], none, false⟩, false⟩),
  (127, ⟨[some .i64, some (.sl (.sl .u8))], [some (.sl .u8)], false, false, [], [(1, ⟨some [], [], none, false⟩)], ⟨none, [], none, false⟩, false⟩),
  (128, ⟨[some (.pair (.pair (.sl (.sl .u8)) (.pair (.sl (.sl .u8)) (.pair (.sl .u8) (.pair .i64 (.pair .i64 (.pair .i64 (.pair .i64 (.pair .bool (.pair (.pair (.sl (.sl (.sl .u8))) .i64) (.pair .i64 (.pair (.sl (.pair .i64 (.pair .i64 (.pair .i64 (.pair .i64 (.pair (.sl .u8) (.pair (.sl .u8) (.pair .bool (.sl .u8))))))))) (.pair (.pair .i64 (.pair .i64 (.pair .i64 (.pair .i64 (.pair .i64 .i64))))) (.sl (.pair (.sl .u8) .i64)))))))))))))) (.pair .bool (.pair .bool (.pair (.pair (.sl (.sl (.sl .u8))) .i64) (.pair .i64 (.pair .bool (.pair .i64 (.pair (.sl (.pair .i64 (.pair (.sl .u8) (.pair (.sl .u8) (.pair .i64 (.pair .i64 (.pair .i64 (.pair .i64 .bool)))))))) (.pair (.sl (.pair (.pair .i64 (.pair .i64 (.pair .i64 (.pair (.sl .u8) (.sl .u8))))) (.pair (.pair (.sl .u8) (.pair (.sl .u8) (.sl .u8))) .i64))) (.pair (.sl .i64) (.sl .i64))))))))))), some (.pair (.pair .i64 (.pair .i64 (.pair .i64 (.pair (.sl .u8) (.sl .u8))))) (.pair (.pair (.sl .u8) (.pair (.sl .u8) (.sl .u8))) .i64))], [some (.pair (.pair (.sl (.sl .u8)) (.pair (.sl (.sl .u8)) (.pair (.sl .u8) (.pair .i64 (.pair .i64 (.pair .i64 (.pair .i64 (.pair .bool (.pair (.pair (.sl (.sl (.sl .u8))) .i64) (.pair .i64 (.pair (.sl (.pair .i64 (.pair .i64 (.pair .i64 (.pair .i64 (.pair (.sl .u8) (.pair (.sl .u8) (.pair .bool (.sl .u8))))))))) (.pair (.pair .i64 (.pair .i64 (.pair .i64 (.pair .i64 (.pair .i64 .i64))))) (.sl (.pair (.sl .u8) .i64)))))))))))))) (.pair .bool (.pair .bool (.pair (.pair (.sl (.sl (.sl .u8))) .i64) (.pair .i64 (.pair .bool (.pair .i64 (.pair (.sl (.pair .i64 (.pair (.sl .u8) (.pair (.sl .u8) (.pair .i64 (.pair .i64 (.pair .i64 (.pair .i64 .bool)))))))) (.pair (.sl (.pair (.pair .i64 (.pair .i64 (.pair .i64 (.pair (.sl .u8) (.sl .u8))))) (.pair (.pair (.sl .u8) (.pair (.sl .u8) (.sl .u8))) .i64))) (.pair (.sl .i64) (.sl .i64))))))))))), some .i64, some .i64], false, false, [], [(1, ⟨some [], [], none, false⟩), (2, ⟨some [7], [(7, 170, (.pair (.sl .u8) .i64))], none, false⟩), (8, ⟨some [7], [(7, 170, (.pair (.sl .u8) .i64))], some [2, 3, 4, 7, 8], true⟩)], ⟨none, [], none, false⟩, false⟩),
  (129, ⟨[some (.sl .u8), some .i64, some .i64, some (.sl .u8)], [some (.sl .u8)], false, false, [(⟨some [9], [(9, 5, .u8)], some [9, 40, 41, 42], false⟩, ⟨some [], [], some [9], false⟩)], [(1, ⟨some [], [], none, false⟩), (3, ⟨some [], [], none, false⟩), (4, ⟨some [9], [(9, 5, .u8)], none, false⟩)], ⟨none, [], none, false⟩, false⟩),
  (130, ⟨[some (.pair .i64 (.pair .i64 (.pair .i64 (.pair .i64 (.pair (.sl .u8) (.pair (.sl .u8) (.pair .bool (.sl .u8)))))))), some (.pair .i64 (.pair .i64 (.pair .i64 (.pair .i64 (.pair (.sl .u8) (.pair (.sl .u8) (.pair .bool (.sl .u8))))))))], [some .bool], false, false, [], [(1, ⟨some [], [], none, false⟩)], ⟨none, [], none, false⟩, false⟩),
  (131, ⟨[some (.pair (.sl (.sl (.sl .u8))) .i64), some .i64], [some .bool], false, false, [], [], ⟨none, [], none, false⟩, false⟩),
  (132, ⟨[some (.sl .u8)], [some (.sl .i64)], false, false, [(⟨some [4], [(4, 3, .i64)], some [3, 4, 5, 6], false⟩, ⟨some [4], [(4, 3, .i64)], some [4, 5], false⟩)], [(1, ⟨some [], [], none, false⟩)], ⟨none, [], none, false⟩, false⟩),
  (133, ⟨[some .i64, some .i64, some .i64, some .i64, some (.sl .u8)], [some (.sl .u8)], false, false, [(⟨some [], [], some [0, 1, 3, 4, 11], false⟩, ⟨some [], [], some [4], false⟩)], [(4, ⟨some [], [], none, false⟩)], ⟨none, [], none, false⟩, false⟩),
  (134, ⟨[some .i64, some (.sl .u8)], [some (.sl .u8)], false, false, [], [(1, ⟨some [], [], none, false⟩)], ⟨none, [], none, false⟩, false⟩),
  (135, ⟨[some (.sl .u8)], [none], true, false, [], [], ⟨none, [(2, 5, .u8)], none, false⟩, false⟩),
  (136, ⟨[some .i64, some .i64, some (.sl .u8), some (.sl .u8)], [some (.sl .u8)], false, false, [], [(1, ⟨some [], [], none, false⟩)], ⟨none, [], none, false⟩, false⟩),
  (139, ⟨[some (.sl .u8), some .i64, some .i64], [none], true, false, [(⟨some [7], [(7, 5, .u8)], some [2, 7, 8], false⟩, ⟨some [7], [(7, 5, .u8)], some [7], false⟩)], [], ⟨none, [(6, 5, .u8)], none, false⟩, false⟩),
  (146, ⟨[some (.pair (.sl .u8) (.pair (.sl .u8) (.sl .u8))), some (.pair .i64 (.pair .i64 (.pair .i64 (.pair (.sl .u8) (.sl .u8)))))], [some (.sl .u8), some (.sl .u8)], false, false, [], [(1, ⟨some [], [], none, false⟩), (2, ⟨some [], [], none, false⟩)], ⟨none, [], none, false⟩, false⟩),
  (147, ⟨[some (.sl .u8), some (.sl .u8), some (.sl .u8), some (.sl .u8)], [some (.sl .u8)], false, false, [], [(3, ⟨some [], [], none, false⟩), (4, ⟨some [], [], none, false⟩), (5, ⟨some [10], [(10, 5, .u8)], none, false⟩)], ⟨none, [], none, false⟩, false⟩),
  (148, ⟨[some (.sl .u8)], [none], false, false, [], [], ⟨none, [], none, false⟩, false⟩),
  (149, ⟨[none, some .i64], [some .i64], false, false, [(⟨some [], [], some [0, 1, 7, 38, 39, 40], false⟩, ⟨some [], [], some [0, 1, 7], false⟩)], [(4, ⟨some [], [], none, false⟩), (6, ⟨some [], [], none, false⟩), (8, ⟨some [], [], none, false⟩), (17, ⟨some [], [], none, false⟩)], ⟨none, [], none, false⟩, false⟩),
  (150, ⟨[none, some .i64], [some (.sl .u8)], false, false, [], [(4, ⟨some [], [], none, false⟩), (6, ⟨some [], [], none, false⟩), (10, ⟨some [], [], none, false⟩), (12, ⟨some [], [], none, false⟩), (14, ⟨some [], [], none, false⟩)], ⟨none, [], none, false⟩, false⟩),
  (151, ⟨[none], [some .i64], false, false, [], [(1, ⟨some [], [], none, false⟩)], ⟨none, [], none, false⟩, false⟩),
  (152, ⟨[some (.sl .u8), some (.sl .u8), some (.sl .u8)], [some (.sl .u8), some .i64], false, false, [], [(1, ⟨some [], [], none, false⟩), (2, ⟨some [], [], none, false⟩), (3, ⟨some [], [], none, false⟩), (4, ⟨some [], [], none, false⟩), (5, ⟨some [], [], none, false⟩), (8, ⟨some [], [], none, false⟩), (10, ⟨some [], [], none, false⟩)], ⟨none, [], none, false⟩, false⟩),
  (153, ⟨[some (.sl .u8), some (.sl .u8)], [some .bool], false, false, [(⟨some [], [], some [0, 1, 5, 13, 14], false⟩, ⟨some [], [], some [5], false⟩)], [], ⟨none, [], none, false⟩, false⟩),
  (140, ⟨[some (.pair (.sl (.sl (.sl .u8))) .i64), some .i64], [some .bool], false, false, [], [(1, ⟨some [], [], none, false⟩)], ⟨none, [], none, false⟩, false⟩),
  (173, ⟨[some .i64, some .i64], [some (.sl .u8)], false, false, [], [(2, ⟨some [], [], none, false⟩), (3, ⟨some [], [], none, false⟩)], ⟨none, [], none, false⟩, false⟩),
  (174, ⟨[some (.pair (.sl (.sl (.sl .u8))) .i64)], [some (.pair (.sl (.sl (.sl .u8))) .i64)], false, false, [(⟨some [], [], some [1, 2, 3, 4], false⟩, ⟨some [], [], some [2, 3], false⟩), (⟨some [5], [(5, 22, (.sl .u8))], some [1, 2, 3, 4, 5, 6], false⟩, ⟨some [], [], some [1, 2, 3, 4, 5], false⟩)], [(9, ⟨some [5], [(5, 22, (.sl .u8))], none, false⟩)], ⟨none, [], none, false⟩, false⟩),
  (177, ⟨[some .i64, some (.sl .u8)], [some (.sl .u8)], false, false, [(⟨some [], [], some [5, 6], false⟩, ⟨some [], [], some [5], false⟩), (⟨some [], [], some [7, 8], false⟩, ⟨some [], [], some [7], false⟩)], [(4, ⟨some [], [], none, false⟩), (7, ⟨some [], [], none, false⟩), (8, ⟨some [], [], none, false⟩), (11, ⟨some [], [], none, false⟩), (14, ⟨some [], [], none, false⟩), (15, ⟨some [], [], none, false⟩)], ⟨none, [], none, false⟩, false⟩),
  (178, ⟨[some .u8], [none], true, false, [(⟨some [4], [(4, 5, .u8)], some [0, 4, 10], false⟩, ⟨some [4], [(4, 5, .u8)], some [4], false⟩)], [], ⟨none, [(3, 5, .u8)], none, false⟩, false⟩),
  (179, ⟨[some .i64], [some .i64], false, false, [], [], ⟨none, [], none, false⟩, false⟩),
  (180, ⟨[some (.sl .u8), some .i64], [some (.sl .u8)], false, false, [], [(1, ⟨some [], [], none, false⟩), (3, ⟨some [], [], none, false⟩)], ⟨none, [], none, false⟩, false⟩),
  (181, ⟨[some (.sl .u8)], [some (.sl .u8)], false, false, [(⟨some [4], [(4, 159, .u32)], some [3, 4, 5, 6], false⟩, ⟨some [], [], some [4], false⟩), (⟨some [4, 7], [(4, 159, .u32)], some [3, 4, 5, 6, 7, 8], false⟩, ⟨some [4], [(4, 159, .u32)], some [3, 4, 5, 6, 7], false⟩), (⟨some [4], [(4, 159, .u32)], some [3, 4, 5, 6, 7, 11, 12], false⟩, ⟨some [4], [(4, 159, .u32)], some [3, 4, 5, 6, 11], false⟩), (⟨some [4], [(4, 159, .u32)], some [3, 4, 5, 6, 11, 17], false⟩, ⟨some [4], [(4, 159, .u32)], some [3, 4, 5, 6], false⟩)], [(1, ⟨some [], [], none, false⟩), (3, ⟨some [4], [(4, 159, .u32)], none, false⟩), (12, ⟨some [4, 7], [(4, 159, .u32)], none, false⟩), (13, ⟨some [4, 7], [(4, 159, .u32)], none, false⟩), (14, ⟨some [4, 7], [(4, 159, .u32)], none, false⟩), (10, ⟨some [4, 7], [(4, 159, .u32)], some [3, 4, 5, 6, 7, 8], true⟩), (21, ⟨some [4], [(4, 159, .u32)], none, false⟩), (22, ⟨some [4], [(4, 159, .u32)], none, false⟩), (28, ⟨some [], [], none, false⟩)], ⟨none, [], none, false⟩, false⟩),
  (166, ⟨[some (.sl .u8), some .i64], [none], true, false, [], [(3, ⟨some [], [], none, false⟩)], ⟨none, [(4, 5, .u8)], none, false⟩, false⟩),
  (143, ⟨[some (.sl .u8), some .i64, some .i64], [none], true, false, [(⟨some [7], [(7, 5, .u8)], some [2, 7, 8], false⟩, ⟨some [7], [(7, 5, .u8)], some [7], false⟩)], [], ⟨none, [(6, 5, .u8)], none, false⟩, false⟩),
  (182, ⟨[some (.sl (.pair (.sl .u8) .i64))], [none], true, false, [], [], ⟨none, [(2, 170, (.pair (.sl .u8) .i64))], none, false⟩, false⟩),
  (184, ⟨[some (.pair (.sl .u8) .i64)], [some .bool], false, false, [], [], ⟨none, [], none, false⟩, false⟩),
  (183, ⟨[some (.sl (.pair (.sl .u8) .i64)), none], [some .i64], false, true, [(⟨some [], [], some [0, 1, 7, 8], false⟩, ⟨some [], [], some [4], false⟩)], [(4, ⟨some [], [], none, false⟩)], ⟨none, [], none, false⟩, false⟩),
  (185, ⟨[some .i64], [some .bool], false, false, [], [], ⟨none, [], none, false⟩, false⟩),
  (187, ⟨[some (.sl .u8), some .i64], [some (.sl .u8)], false, false, [], [(1, ⟨some [], [], none, false⟩)], ⟨none, [], none, false⟩, false⟩),
  (186, ⟨[some (.sl .u8), some .i64, some (.sl .u8)], [some (.sl .u8)], false, false, [], [(1, ⟨some [], [], none, false⟩), (3, ⟨some [], [], none, false⟩), (5, ⟨some [], [], none, false⟩)], ⟨none, [], none, false⟩, false⟩),
  (189, ⟨[some (.sl .u8), some .i64], [some (.sl (.sl .u8))], false, false, [(⟨some [6], [(6, 22, (.sl .u8))], some [5, 6, 13, 14], false⟩, ⟨some [], [], some [6], false⟩)], [(1, ⟨some [], [], none, false⟩), (6, ⟨some [6], [(6, 22, (.sl .u8))], none, false⟩)], ⟨none, [], none, false⟩, false⟩),
  (188, ⟨[some .i64, some (.sl (.sl .u8))], [some (.sl (.sl .u8))], false, false, [(⟨some [6], [(6, 22, (.sl .u8))], some [0, 6, 27, 28, 29], false⟩, ⟨some [], [], some [6], false⟩)], [(1, ⟨some [], [], none, false⟩), (5, ⟨some [6], [(6, 22, (.sl .u8))], none, false⟩)], ⟨none, [], none, false⟩, false⟩),
  (195, ⟨[some (.sl .u8), some (.sl .u8), some (.sl .u8)], [some (.sl .u8)], false, false, [(⟨some [9], [(9, 5, .u8)], some [8, 9, 21, 22], false⟩, ⟨some [], [], some [9], false⟩)], [(1, ⟨some [], [], none, false⟩), (7, ⟨some [9], [(9, 5, .u8)], none, false⟩)], ⟨none, [], none, false⟩, false⟩),
  (196, ⟨[some (.sl .u8), some (.sl .u8), some (.sl .u8), some (.sl .u8)], [some (.sl .u8)], false, false, [], [(1, ⟨some [], [], none, false⟩), (2, ⟨some [], [], none, false⟩)], ⟨none, [], none, false⟩, false⟩),
  (197, ⟨[none, some .i64], [], false, false, [], [], ⟨none, [], none, false⟩, false⟩),
  (198, ⟨[none, some .i64, some .i64], [some (.sl .u8), some .i64], false, false, [], [], ⟨none, [], none, false⟩, false⟩),
  (199, ⟨[none], [some .i64], false, false, [], [], ⟨none, [], none, false⟩, false⟩),
  (200, ⟨[none, some .i64], [some (.sl .u8)], false, false, [], [(4, ⟨some [], [], none, false⟩), (6, ⟨some [], [], none, false⟩), (8, ⟨some [], [], none, false⟩)], ⟨none, [], none, false⟩, false⟩),
  (190, ⟨[some (.pair (.sl (.sl (.sl .u8))) .i64)], [some .i64], false, false, [(⟨some [], [], some [1, 3, 7, 8], false⟩, ⟨some [], [], some [3], false⟩)], [(7, ⟨some [], [], some [1, 3, 7, 8], true⟩)], ⟨none, [], none, false⟩, false⟩),
  (214, ⟨[some .i64], [some .i64], false, false, [], [], ⟨none, [], none, false⟩, false⟩),
  (213, ⟨[some .i64, some .u8], [some (.sl .u8)], false, false, [(⟨some [5], [(5, 5, .u8)], some [0, 1, 5, 6], false⟩, ⟨some [], [], some [5], false⟩)], [], ⟨none, [], none, false⟩, false⟩),
  (220, ⟨[some (.sl .u8)], [some (.sl .u8)], false, false, [(⟨some [3], [(3, 5, .u8)], some [0, 3], false⟩, ⟨some [3], [(3, 5, .u8)], some [0, 3], false⟩), (⟨some [3], [(3, 5, .u8)], some [3, 4, 5], false⟩, ⟨some [], [], some [3], false⟩)], [], ⟨none, [], none, false⟩, false⟩),
  (221, ⟨[none, some (.sl .u8)], [], false, false, [(⟨some [4], [], some [0, 1, 4, 14], false⟩, ⟨some [], [], some [0, 4], false⟩), (⟨some [], [], some [0, 4, 6, 7, 8, 9, 10, 67], false⟩, ⟨some [], [], some [0, 6, 7, 8, 9, 10], false⟩)], [(5, ⟨some [4], [], none, false⟩), (6, ⟨some [4], [], none, false⟩), (7, ⟨some [4], [], some [0, 1, 4, 14], true⟩), (21, ⟨some [], [], some [0, 4, 6, 7, 8, 9, 10, 11, 12, 13, 67], true⟩)], ⟨none, [], none, false⟩, false⟩),
  (222, ⟨[some (.sl .u32)], [some (.sl .u8)], false, false, [(⟨some [3], [(3, 5, .u8)], some [3, 10, 11, 12], false⟩, ⟨some [], [], some [3], false⟩)], [], ⟨none, [], none, false⟩, false⟩),
  (223, ⟨[none, some (.sl .u8)], [], false, false, [(⟨some [4], [], some [0, 1, 4, 17], false⟩, ⟨some [], [], some [0, 4], false⟩), (⟨some [], [], some [0, 4, 10, 70], false⟩, ⟨some [], [], some [0, 10], false⟩), (⟨some [], [], some [0, 10, 152], false⟩, ⟨some [], [], some [], false⟩)], [(5, ⟨some [4], [], none, false⟩), (7, ⟨some [4], [], none, false⟩), (8, ⟨some [4], [], none, false⟩), (10, ⟨some [4], [], some [0, 1, 4, 17], true⟩), (16, ⟨some [], [], none, false⟩), (17, ⟨some [], [], none, false⟩)], ⟨none, [], none, false⟩, false⟩),
  (224, ⟨[some (.sl (.sl .u8))], [some (.sl .u8)], false, false, [], [(1, ⟨some [], [], none, false⟩), (4, ⟨some [], [], none, false⟩)], ⟨none, [], none, false⟩, false⟩),
  (225, ⟨[], [none], false, false, [], [], ⟨none, [], none, false⟩, false⟩),
  (226, ⟨[some (.sl .u8)], [some (.sl .u8)], false, false, [(⟨some [3], [(3, 5, .u8)], some [0, 3], false⟩, ⟨some [3], [(3, 5, .u8)], some [0, 3], false⟩), (⟨some [3], [(3, 5, .u8)], some [3, 4, 5], false⟩, ⟨some [], [], some [3], false⟩)], [], ⟨none, [], none, false⟩, false⟩),
  (227, ⟨[some (.sl .u8), some .i64], [some .u32], false, false, [], [], ⟨none, [], none, false⟩, false⟩),
  (228, ⟨[some .u32, some .u64], [some .u32], false, false, [], [], ⟨none, [], none, false⟩, false⟩),
  (229, ⟨[some (.sl .u32)], [some (.sl .u8)], false, false, [(⟨some [3], [(3, 5, .u8)], some [0, 3, 4], false⟩, ⟨some [], [], some [3], false⟩)], [], ⟨none, [], none, false⟩, false⟩),
  (194, ⟨[some (.sl .u8), some .i64], [some (.sl (.sl .u8))], false, false, [(⟨some [5], [(5, 22, (.sl .u8))], some [1, 5, 6, 7], false⟩, ⟨some [], [], some [5], false⟩)], [(2, ⟨some [5], [(5, 22, (.sl .u8))], none, false⟩), (6, ⟨some [5], [(5, 22, (.sl .u8))], none, false⟩)], ⟨none, [], none, false⟩, false⟩),
  (211, ⟨[some (.sl (.sl .u8))], [some (.sl .u8)], false, false, [(⟨some [], [], some [3, 4], false⟩, ⟨some [], [], some [3], false⟩)], [(1, ⟨some [], [], none, false⟩), (7, ⟨some [], [], none, false⟩), (8, ⟨some [], [], none, false⟩)], ⟨none, [], none, false⟩, false⟩),
  (230, ⟨[some .i64], [some .bool], false, false, [], [], ⟨none, [], none, false⟩, false⟩),
  (231, ⟨[some (.sl .u8)], [some (.sl .i64)], false, false, [(⟨some [3], [(3, 3, .i64)], some [3, 4, 12, 13, 14], false⟩, ⟨some [3], [(3, 3, .i64)], some [3, 4], false⟩), (⟨some [3], [(3, 3, .i64)], some [3, 4, 12, 13, 14, 24, 25], false⟩, ⟨some [3], [(3, 3, .i64)], some [3, 4, 12, 13, 14], false⟩)], [(3, ⟨some [3], [(3, 3, .i64)], none, false⟩)], ⟨none, [], none, false⟩, false⟩),
  (232, ⟨[some .i64], [some (.sl .u8)], false, false, [], [(1, ⟨some [], [], none, false⟩)], ⟨none, [], none, false⟩, false⟩),
  (236, ⟨[some .i64], [some .i64], false, false, [], [], ⟨none, [], none, false⟩, false⟩),
  (234, ⟨[some .i64, none, none, none], [some (.sl .u8)], false, false, [(⟨some [9], [(9, 5, .u8)], some [0, 1, 2, 3, 9, 13], false⟩, ⟨some [], [], some [9], false⟩), (⟨some [9], [(9, 5, .u8)], some [0, 1, 2, 3, 9, 10, 11, 12, 13], false⟩, ⟨some [9], [(9, 5, .u8)], some [0, 1, 2, 3, 9, 11, 13], false⟩)], [(5, ⟨some [9], [(9, 5, .u8)], none, false⟩), (6, ⟨some [9], [(9, 5, .u8)], none, false⟩), (7, ⟨some [9], [(9, 5, .u8)], none, false⟩), (9, ⟨some [9], [(9, 5, .u8)], none, false⟩)], ⟨none, [], none, false⟩, true⟩),
  (235, ⟨[some .i64], [some .i64], false, false, [], [], ⟨none, [], none, false⟩, false⟩),
  (239, ⟨[some (.sl .u8), some .i64], [some (.sl .u8)], false, false, [], [(1, ⟨some [], [], none, false⟩), (4, ⟨some [], [], none, false⟩)], ⟨none, [], none, false⟩, false⟩),
  (237, ⟨[some .i64], [some .i64], false, false, [(⟨some [], [], some [0, 3], false⟩, ⟨some [], [], some [2], false⟩)], [], ⟨none, [], none, false⟩, false⟩),
  (238, ⟨[some (.sl (.sl .u8))], [some (.sl (.sl (.sl .u8)))], false, false, [(⟨some [3], [(3, 29, (.sl (.sl .u8)))], some [3, 4], false⟩, ⟨some [], [], some [3], false⟩), (⟨some [3, 5], [(3, 29, (.sl (.sl .u8))), (5, 22, (.sl .u8))], some [3, 4, 5, 6], false⟩, ⟨some [3], [(3, 29, (.sl (.sl .u8)))], some [3, 4, 5], false⟩)], [(9, ⟨some [3, 5], [(3, 29, (.sl (.sl .u8))), (5, 22, (.sl .u8))], none, false⟩)], ⟨none, [], none, false⟩, false⟩),
  (244, ⟨[some .i64], [some .u8], false, false, [], [], ⟨none, [], none, false⟩, false⟩),
  (269, ⟨[some (.sl .u8), some .i64], [some .u32], false, false, [], [], ⟨none, [], none, false⟩, false⟩),
  (270, ⟨[some .u32, some .i64], [some .u32], false, false, [], [], ⟨none, [], none, false⟩, false⟩),
  (192, ⟨[some (.sl .u8), some .i64], [some (.sl .u8)], false, false, [], [(1, ⟨some [], [], none, false⟩)], ⟨none, [], none, false⟩, false⟩),
  (243, ⟨[some (.sl .u8), some .i64], [some (.sl .u8)], false, false, [(⟨some [5], [(5, 5, .u8)], some [0, 1, 5, 6], false⟩, ⟨some [], [], some [1, 5], false⟩)], [(7, ⟨some [5], [(5, 5, .u8)], none, false⟩), (8, ⟨some [], [], none, false⟩)], ⟨none, [], none, false⟩, false⟩),
  (241, ⟨[some .i64], [some .bool], false, false, [], [], ⟨none, [], none, false⟩, false⟩),
  (242, ⟨[some .i64, some (.sl (.sl .u8))], [some (.sl (.sl .u8))], false, false, [(⟨some [5], [(5, 22, (.sl .u8))], some [0, 1, 5, 6], false⟩, ⟨some [], [], some [5], false⟩)], [(5, ⟨some [5], [(5, 22, (.sl .u8))], none, false⟩)], ⟨none, [], none, false⟩, false⟩),
  (233, ⟨[some (.sl .u8), some .i64, some .i64], [some (.sl .u8)], false, false, [], [(1, ⟨some [], [], none, false⟩)], ⟨none, [], none, false⟩, false⟩),
  (271, ⟨[some .i64, some .i64, some .i64, some (.sl .u8)], [some (.sl .u8)], false, false, [], [(1, ⟨some [], [], none, false⟩)], ⟨none, [], none, false⟩, false⟩),
  (273, ⟨[some .i64], [some (.sl .u8)], false, false, [], [(1, ⟨some [], [], none, false⟩)], ⟨none, [], none, false⟩, false⟩),
  (275, ⟨[some .i64], [some .i64], false, false, [], [], ⟨none, [], none, false⟩, false⟩),
  (276, ⟨[some .i64], [some .i64], false, false, [], [], ⟨none, [], none, false⟩, false⟩),
  (274, ⟨[some .i64, some (.sl .u8)], [some (.sl .u8)], false, false, [], [(1, ⟨some [], [], none, false⟩)], ⟨none, [], none, false⟩, false⟩),
  (272, ⟨[some .i64, some .i64, some (.sl .u8), some (.sl .u8)], [some (.sl .u8)], false, false, [], [(1, ⟨some [], [], none, false⟩)], ⟨none, [], none, false⟩, false⟩),
  (240, ⟨[some (.sl .u8), some .i64, some .i64], [some (.sl .u8)], false, false, [], [(1, ⟨some [], [], none, false⟩)], ⟨none, [], none, false⟩, false⟩)]
noncomputable def CT0 : CT := [(3, Tryz.f3), (4, Tryz.f4), (6, Tryz.f6), (7, Tryz.f7), (10, Tryz.f10), (11, Tryz.f11), (12, Tryz.f12), (13, Tryz.f13), (14, Tryz.f14), (16, Tryz.f16), (15, Tryz.f15), (17, Tryz.f17), (18, Tryz.f18), (20, Tryz.f20), (19, Tryz.f19), (21, Tryz.f21), (22, Tryz.f22), (29, Tryz.f29), (30, Tryz.f30), (31, Tryz.f31), (28, Tryz.f28), (25, Tryz.f25), (23, Tryz.f23), (35, Tryz.f35), (36, Tryz.f36), (38, Tryz.f38), (37, Tryz.f37), (39, Tryz.f39), (40, Tryz.f40), (41, Tryz.f41), (42, Tryz.f42), (43, Tryz.f43), (44, Tryz.f44), (45, Tryz.f45), (46, Tryz.f46), (47, Tryz.f47), (48, Tryz.f48), (49, Tryz.f49), (50, Tryz.f50), (51, Tryz.f51), (53, Tryz.f53), (52, Tryz.f52), (54, Tryz.f54), (55, Tryz.f55), (56, Tryz.f56), (57, Tryz.f57), (58, Tryz.f58), (59, Tryz.f59), (60, Tryz.f60), (61, Tryz.f61), (62, Tryz.f62), (63, Tryz.f63), (64, Tryz.f64), (65, Tryz.f65), (66, Tryz.f66), (67, Tryz.f67), (68, Tryz.f68), (82, Tryz.f82), (83, Tryz.f83), (84, Tryz.f84), (85, Tryz.f85), (86, Tryz.f86), (87, Tryz.f87), (74, Tryz.f74), (75, Tryz.f75), (76, Tryz.f76), (110, Tryz.f110), (111, Tryz.f111), (112, Tryz.f112), (114, Tryz.f114), (115, Tryz.f115), (116, Tryz.f116), (117, Tryz.f117), (118, Tryz.f118), (119, Tryz.f119), (120, Tryz.f120), (121, Tryz.f121), (122, Tryz.f122), (124, Tryz.f124), (125, Tryz.f125), (73, Tryz.f73), (123, Tryz.f123), (126, Tryz.f126), (127, Tryz.f127), (128, Tryz.f128), (129, Tryz.f129), (130, Tryz.f130), (131, Tryz.f131), (132, Tryz.f132), (133, Tryz.f133), (134, Tryz.f134), (135, Tryz.f135), (136, Tryz.f136), (139, Tryz.f139), (146, Tryz.f146), (147, Tryz.f147), (148, Tryz.f148), (149, Tryz.f149), (150, Tryz.f150), (151, Tryz.f151), (152, Tryz.f152), (153, Tryz.f153), (140, Tryz.f140), (173, Tryz.f173), (174, Tryz.f174), (177, Tryz.f177), (178, Tryz.f178), (179, Tryz.f179), (180, Tryz.f180), (181, Tryz.f181), (166, Tryz.f166), (143, Tryz.f143), (182, Tryz.f182), (184, Tryz.f184), (183, Tryz.f183), (185, Tryz.f185), (187, Tryz.f187), (186, Tryz.f186), (189, Tryz.f189), (188, Tryz.f188), (195, Tryz.f195), (196, Tryz.f196), (197, Tryz.f197), (198, Tryz.f198), (199, Tryz.f199), (200, Tryz.f200), (190, Tryz.f190), (214, Tryz.f214), (213, Tryz.f213), (220, Tryz.f220), (221, Tryz.f221), (222, Tryz.f222), (223, Tryz.f223), (224, Tryz.f224), (225, Tryz.f225), (226, Tryz.f226), (227, Tryz.f227), (228, Tryz.f228), (229, Tryz.f229), (194, Tryz.f194), (211, Tryz.f211), (230, Tryz.f230), (231, Tryz.f231), (232, Tryz.f232), (236, Tryz.f236), (234, Tryz.f234), (235, Tryz.f235), (239, Tryz.f239), (237, Tryz.f237), (238, Tryz.f238), (244, Tryz.f244), (269, Tryz.f269), (270, Tryz.f270), (192, Tryz.f192), (243, Tryz.f243), (241, Tryz.f241), (242, Tryz.f242), (233, Tryz.f233), (271, Tryz.f271), (273, Tryz.f273), (275, Tryz.f275), (276, Tryz.f276), (274, Tryz.f274), (272, Tryz.f272), (240, Tryz.f240)]
theorem ct0 : CTok Tryz.prog CT0 := .cons Tryz.func3 (.cons Tryz.func4 (.cons Tryz.func6 (.cons Tryz.func7 (.cons Tryz.func10 (.cons Tryz.func11 (.cons Tryz.func12 (.cons Tryz.func13 (.cons Tryz.func14 (.cons Tryz.func16 (.cons Tryz.func15 (.cons Tryz.func17 (.cons Tryz.func18 (.cons Tryz.func20 (.cons Tryz.func19 (.cons Tryz.func21 (.cons Tryz.func22 (.cons Tryz.func29 (.cons Tryz.func30 (.cons Tryz.func31 (.cons Tryz.func28 (.cons Tryz.func25 (.cons Tryz.func23 (.cons Tryz.func35 (.cons Tryz.func36 (.cons Tryz.func38 (.cons Tryz.func37 (.cons Tryz.func39 (.cons Tryz.func40 (.cons Tryz.func41 (.cons Tryz.func42 (.cons Tryz.func43 (.cons Tryz.func44 (.cons Tryz.func45 (.cons Tryz.func46 (.cons Tryz.func47 (.cons Tryz.func48 (.cons Tryz.func49 (.cons Tryz.func50 (.cons Tryz.func51 (.cons Tryz.func53 (.cons Tryz.func52 (.cons Tryz.func54 (.cons Tryz.func55 (.cons Tryz.func56 (.cons Tryz.func57 (.cons Tryz.func58 (.cons Tryz.func59 (.cons Tryz.func60 (.cons Tryz.func61 (.cons Tryz.func62 (.cons Tryz.func63 (.cons Tryz.func64 (.cons Tryz.func65 (.cons Tryz.func66 (.cons Tryz.func67 (.cons Tryz.func68 (.cons Tryz.func82 (.cons Tryz.func83 (.cons Tryz.func84 (.cons Tryz.func85 (.cons Tryz.func86 (.cons Tryz.func87 (.cons Tryz.func74 (.cons Tryz.func75 (.cons Tryz.func76 (.cons Tryz.func110 (.cons Tryz.func111 (.cons Tryz.func112 (.cons Tryz.func114 (.cons Tryz.func115 (.cons Tryz.func116 (.cons Tryz.func117 (.cons Tryz.func118 (.cons Tryz.func119 (.cons Tryz.func120 (.cons Tryz.func121 (.cons Tryz.func122 (.cons Tryz.func124 (.cons Tryz.func125 (.cons Tryz.func73 (.cons Tryz.func123 (.cons Tryz.func126 (.cons Tryz.func127 (.cons Tryz.func128 (.cons Tryz.func129 (.cons Tryz.func130 (.cons Tryz.func131 (.cons Tryz.func132 (.cons Tryz.func133 (.cons Tryz.func134 (.cons Tryz.func135 (.cons Tryz.func136 (.cons Tryz.func139 (.cons Tryz.func146 (.cons Tryz.func147 (.cons Tryz.func148 (.cons Tryz.func149 (.cons Tryz.func150 (.cons Tryz.func151 (.cons Tryz.func152 (.cons Tryz.func153 (.cons Tryz.func140 (.cons Tryz.func173 (.cons Tryz.func174 (.cons Tryz.func177 (.cons Tryz.func178 (.cons Tryz.func179 (.cons Tryz.func180 (.cons Tryz.func181 (.cons Tryz.func166 (.cons Tryz.func143 (.cons Tryz.func182 (.cons Tryz.func184 (.cons Tryz.func183 (.cons Tryz.func185 (.cons Tryz.func187 (.cons Tryz.func186 (.cons Tryz.func189 (.cons Tryz.func188 (.cons Tryz.func195 (.cons Tryz.func196 (.cons Tryz.func197 (.cons Tryz.func198 (.cons Tryz.func199 (.cons Tryz.func200 (.cons Tryz.func190 (.cons Tryz.func214 (.cons Tryz.func213 (.cons Tryz.func220 (.cons Tryz.func221 (.cons Tryz.func222 (.cons Tryz.func223 (.cons Tryz.func224 (.cons Tryz.func225 (.cons Tryz.func226 (.cons Tryz.func227 (.cons Tryz.func228 (.cons Tryz.func229 (.cons Tryz.func194 (.cons Tryz.func211 (.cons Tryz.func230 (.cons Tryz.func231 (.cons Tryz.func232 (.cons Tryz.func236 (.cons Tryz.func234 (.cons Tryz.func235 (.cons Tryz.func239 (.cons Tryz.func237 (.cons Tryz.func238 (.cons Tryz.func244 (.cons Tryz.func269 (.cons Tryz.func270 (.cons Tryz.func192 (.cons Tryz.func243 (.cons Tryz.func241 (.cons Tryz.func242 (.cons Tryz.func233 (.cons Tryz.func271 (.cons Tryz.func273 (.cons Tryz.func275 (.cons Tryz.func276 (.cons Tryz.func274 (.cons Tryz.func272 (.cons Tryz.func240 (.nil)))))))))))))))))))))))))))))))))))))))))))))))))))))))))))))))))))))))))))))))))))))))))))))))))))))))))))))))))))))))))))))))))))))))))))))))))))))))))))))))))))))
theorem ft0 : FTok Tryz.prog FT0 := FTok_of (.cons (Ent.mk Tryz.func3 (by kernel_rfl) rfl) (.cons (Ent.mk Tryz.func4 (by kernel_rfl) rfl) (.cons (Ent.mk Tryz.func6 (by kernel_rfl) rfl) (.cons (Ent.mk Tryz.func7 (by kernel_rfl) rfl) (.cons (Ent.mk Tryz.func10 (by kernel_rfl) rfl) (.cons (Ent.mk Tryz.func11 (by kernel_rfl) rfl) (.cons (Ent.mk Tryz.func12 (by kernel_rfl) rfl) (.cons (Ent.mk Tryz.func13 (by kernel_rfl) rfl) (.cons (Ent.mk Tryz.func14 (by kernel_rfl) rfl) (.cons (Ent.mk Tryz.func16 (by kernel_rfl) rfl) (.cons (Ent.mk Tryz.func15 (by kernel_rfl) rfl) (.cons (Ent.mk Tryz.func17 (by kernel_rfl) rfl) (.cons (Ent.mk Tryz.func18 (by kernel_rfl) rfl) (.cons (Ent.mk Tryz.func20 (by kernel_rfl) rfl) (.cons (Ent.mk Tryz.func19 (by kernel_rfl) rfl) (.cons (Ent.mk Tryz.func21 (by kernel_rfl) rfl) (.cons (Ent.mk Tryz.func22 (by kernel_rfl) rfl) (.cons (Ent.mk Tryz.func29 (by kernel_rfl) rfl) (.cons (Ent.mk Tryz.func30 (by kernel_rfl) rfl) (.cons (Ent.mk Tryz.func31 (by kernel_rfl) rfl) (.cons (Ent.mk Tryz.func28 (by kernel_rfl) rfl) (.cons (Ent.mk Tryz.func25 (by kernel_rfl) rfl) (.cons (Ent.mk Tryz.func23 (by kernel_rfl) rfl) (.cons (Ent.mk Tryz.func35 (by kernel_rfl) rfl) (.cons (Ent.mk Tryz.func36 (by kernel_rfl) rfl) (.cons (Ent.mk Tryz.func38 (by kernel_rfl) rfl) (.cons (Ent.mk Tryz.func37 (by kernel_rfl) rfl) (.cons (Ent.mk Tryz.func39 (by kernel_rfl) rfl) (.cons (Ent.mk Tryz.func40 (by kernel_rfl) rfl) (.cons (Ent.mk Tryz.func41 (by kernel_rfl) rfl) (.cons (Ent.mk Tryz.func42 (by kernel_rfl) rfl) (.cons (Ent.mk Tryz.func43 (by kernel_rfl) rfl) (.cons (Ent.mk Tryz.func44 (by kernel_rfl) rfl) (.cons (Ent.mk Tryz.func45 (by kernel_rfl) rfl) (.cons (Ent.mk Tryz.func46 (by kernel_rfl) rfl) (.cons (Ent.mk Tryz.func47 (by kernel_rfl) rfl) (.cons (Ent.mk Tryz.func48 (by kernel_rfl) rfl) (.cons (Ent.mk Tryz.func49 (by kernel_rfl) rfl) (.cons (Ent.mk Tryz.func50 (by kernel_rfl) rfl) (.cons (Ent.mk Tryz.func51 (by kernel_rfl) rfl) (.cons (Ent.mk Tryz.func53 (by kernel_rfl) rfl) (.cons (Ent.mk Tryz.func52 (by kernel_rfl) rfl) (.cons (Ent.mk Tryz.func54 (by kernel_rfl) rfl) (.cons (Ent.mk Tryz.func55 (by kernel_rfl) rfl) (.cons (Ent.mk Tryz.func56 (by kernel_rfl) rfl) (.cons (Ent.mk Tryz.func57 (by kernel_rfl) rfl) (.cons (Ent.mk Tryz.func58 (by kernel_rfl) rfl) (.cons (Ent.mk Tryz.func59 (by kernel_rfl) rfl) (.cons (Ent.mk Tryz.func60 (by kernel_rfl) rfl) (.cons (Ent.mk Tryz.func61 (by kernel_rfl) rfl) (.cons (Ent.mk Tryz.func62 (by kernel_rfl) rfl) (.cons (Ent.mk Tryz.func63 (by kernel_rfl) rfl) (.cons (Ent.mk Tryz.func64 (by kernel_rfl) rfl) (.cons (Ent.mk Tryz.func65 (by kernel_rfl) rfl) (.cons (Ent.mk Tryz.func66 (by kernel_rfl) rfl) (.cons (Ent.mk Tryz.func67 (by kernel_rfl) rfl) (.cons (Ent.mk Tryz.func68 (by kernel_rfl) rfl) (.cons (Ent.mk Tryz.func82 (by kernel_rfl) rfl) (.cons (Ent.mk Tryz.func83 (by kernel_rfl) rfl) (.cons (Ent.mk Tryz.func84 (by kernel_rfl) rfl) (.cons (Ent.mk Tryz.func85 (by kernel_rfl) rfl) (.cons (Ent.mk Tryz.func86 (by kernel_rfl) rfl) (.cons (Ent.mk Tryz.func87 (by kernel_rfl) rfl) (.cons (Ent.mk Tryz.func74 (by kernel_rfl) rfl) (.cons (Ent.mk Tryz.func75 (by kernel_rfl) rfl) (.cons (Ent.mk Tryz.func76 (by kernel_rfl) rfl) (.cons (Ent.mk Tryz.func110 (by kernel_rfl) rfl) (.cons (Ent.mk Tryz.func111 (by kernel_rfl) rfl) (.cons (Ent.mk Tryz.func112 (by kernel_rfl) rfl) (.cons (Ent.mk Tryz.func114 (by kernel_rfl) rfl) (.cons (Ent.mk Tryz.func115 (by kernel_rfl) rfl) (.cons (Ent.mk Tryz.func116 (by kernel_rfl) rfl) (.cons (Ent.mk Tryz.func117 (by kernel_rfl) rfl) (.cons (Ent.mk Tryz.func118 (by kernel_rfl) rfl) (.cons (Ent.mk Tryz.func119 (by kernel_rfl) rfl) (.cons (Ent.mk Tryz.func120 (by kernel_rfl) rfl) (.cons (Ent.mk Tryz.func121 (by kernel_rfl) rfl) (.cons (Ent.mk Tryz.func122 (by kernel_rfl) rfl) (.cons (Ent.mk Tryz.func124 (by kernel_rfl) rfl) (.cons (Ent.mk Tryz.func125 (by kernel_rfl) rfl) (.cons (Ent.mk Tryz.func73 (by kernel_rfl) rfl) (.cons (Ent.mk Tryz.func123 (by kernel_rfl) rfl) (.cons (Ent.mk Tryz.func126 (by kernel_rfl) rfl) (.cons (Ent.mk Tryz.func127 (by kernel_rfl) rfl) (.cons (Ent.mk Tryz.func128 (by kernel_rfl) rfl) (.cons (Ent.mk Tryz.func129 (by kernel_rfl) rfl) (.cons (Ent.mk Tryz.func130 (by kernel_rfl) rfl) (.cons (Ent.mk Tryz.func131 (by kernel_rfl) rfl) (.cons (Ent.mk Tryz.func132 (by kernel_rfl) rfl) (.cons (Ent.mk Tryz.func133 (by kernel_rfl) rfl) (.cons (Ent.mk Tryz.func134 (by kernel_rfl) rfl) (.cons (Ent.mk Tryz.func135 (by kernel_rfl) rfl) (.cons (Ent.mk Tryz.func136 (by kernel_rfl) rfl) (.cons (Ent.mk Tryz.func139 (by kernel_rfl) rfl) (.cons (Ent.mk Tryz.func146 (by kernel_rfl) rfl) (.cons (Ent.mk Tryz.func147 (by kernel_rfl) rfl) (.cons (Ent.mk Tryz.func148 (by kernel_rfl) rfl) (.cons (Ent.mk Tryz.func149 (by kernel_rfl) rfl) (.cons (Ent.mk Tryz.func150 (by kernel_rfl) rfl) (.cons (Ent.mk Tryz.func151 (by kernel_rfl) rfl) (.cons (Ent.mk Tryz.func152 (by kernel_rfl) rfl) (.cons (Ent.mk Tryz.func153 (by kernel_rfl) rfl) (.cons (Ent.mk Tryz.func140 (by kernel_rfl) rfl) (.cons (Ent.mk Tryz.func173 (by kernel_rfl) rfl) (.cons (Ent.mk Tryz.func174 (by kernel_rfl) rfl) (.cons (Ent.mk Tryz.func177 (by kernel_rfl) rfl) (.cons (Ent.mk Tryz.func178 (by kernel_rfl) rfl) (.cons (Ent.mk Tryz.func179 (by kernel_rfl) rfl) (.cons (Ent.mk Tryz.func180 (by kernel_rfl) rfl) (.cons (Ent.mk Tryz.func181 (by kernel_rfl) rfl) (.cons (Ent.mk Tryz.func166 (by kernel_rfl) rfl) (.cons (Ent.mk Tryz.func143 (by kernel_rfl) rfl) (.cons (Ent.mk Tryz.func182 (by kernel_rfl) rfl) (.cons (Ent.mk Tryz.func184 (by kernel_rfl) rfl) (.cons (Ent.mk Tryz.func183 (by kernel_rfl) rfl) (.cons (Ent.mk Tryz.func185 (by kernel_rfl) rfl) (.cons (Ent.mk Tryz.func187 (by kernel_rfl) rfl) (.cons (Ent.mk Tryz.func186 (by kernel_rfl) rfl) (.cons (Ent.mk Tryz.func189 (by kernel_rfl) rfl) (.cons (Ent.mk Tryz.func188 (by kernel_rfl) rfl) (.cons (Ent.mk Tryz.func195 (by kernel_rfl) rfl) (.cons (Ent.mk Tryz.func196 (by kernel_rfl) rfl) (.cons (Ent.mk Tryz.func197 (by kernel_rfl) rfl) (.cons (Ent.mk Tryz.func198 (by kernel_rfl) rfl) (.cons (Ent.mk Tryz.func199 (by kernel_rfl) rfl) (.cons (Ent.mk Tryz.func200 (by kernel_rfl) rfl) (.cons (Ent.mk Tryz.func190 (by kernel_rfl) rfl) (.cons (Ent.mk Tryz.func214 (by kernel_rfl) rfl) (.cons (Ent.mk Tryz.func213 (by kernel_rfl) rfl) (.cons (Ent.mk Tryz.func220 (by kernel_rfl) rfl) (.cons (Ent.mk Tryz.func221 (by kernel_rfl) rfl) (.cons (Ent.mk Tryz.func222 (by kernel_rfl) rfl) (.cons (Ent.mk Tryz.func223 (by kernel_rfl) rfl) (.cons (Ent.mk Tryz.func224 (by kernel_rfl) rfl) (.cons (Ent.mk Tryz.func225 (by kernel_rfl) rfl) (.cons (Ent.mk Tryz.func226 (by kernel_rfl) rfl) (.cons (Ent.mk Tryz.func227 (by kernel_rfl) rfl) (.cons (Ent.mk Tryz.func228 (by kernel_rfl) rfl) (.cons (Ent.mk Tryz.func229 (by kernel_rfl) rfl) (.cons (Ent.mk Tryz.func194 (by kernel_rfl) rfl) (.cons (Ent.mk Tryz.func211 (by kernel_rfl) rfl) (.cons (Ent.mk Tryz.func230 (by kernel_rfl) rfl) (.cons (Ent.mk Tryz.func231 (by kernel_rfl) rfl) (.cons (Ent.mk Tryz.func232 (by kernel_rfl) rfl) (.cons (Ent.mk Tryz.func236 (by kernel_rfl) rfl) (.cons (Ent.mk Tryz.func234 (by kernel_rfl) rfl) (.cons (Ent.mk Tryz.func235 (by kernel_rfl) rfl) (.cons (Ent.mk Tryz.func239 (by kernel_rfl) rfl) (.cons (Ent.mk Tryz.func237 (by kernel_rfl) rfl) (.cons (Ent.mk Tryz.func238 (by kernel_rfl) rfl) (.cons (Ent.mk Tryz.func244 (by kernel_rfl) rfl) (.cons (Ent.mk Tryz.func269 (by kernel_rfl) rfl) (.cons (Ent.mk Tryz.func270 (by kernel_rfl) rfl) (.cons (Ent.mk Tryz.func192 (by kernel_rfl) rfl) (.cons (Ent.mk Tryz.func243 (by kernel_rfl) rfl) (.cons (Ent.mk Tryz.func241 (by kernel_rfl) rfl) (.cons (Ent.mk Tryz.func242 (by kernel_rfl) rfl) (.cons (Ent.mk Tryz.func233 (by kernel_rfl) rfl) (.cons (Ent.mk Tryz.func271 (by kernel_rfl) rfl) (.cons (Ent.mk Tryz.func273 (by kernel_rfl) rfl) (.cons (Ent.mk Tryz.func275 (by kernel_rfl) rfl) (.cons (Ent.mk Tryz.func276 (by kernel_rfl) rfl) (.cons (Ent.mk Tryz.func274 (by kernel_rfl) rfl) (.cons (Ent.mk Tryz.func272 (by kernel_rfl) rfl) (.cons (Ent.mk Tryz.func240 (by kernel_rfl) rfl) (.nil))))))))))))))))))))))))))))))))))))))))))))))))))))))))))))))))))))))))))))))))))))))))))))))))))))))))))))))))))))))))))))))))))))))))))))))))))))))))))))))))))))))
theorem tt0 : TTok Tryz.prog TT0 := ttB_ok (by kernel_rfl)
end Go.Proofs.YtfjcmolccckhhaaGreatDoor

namespace Go.Proofs.YtfjcmolccckhhaaGreatDoor
open Go Go.Ax Go.Eng Go.RowKit
set_option linter.unusedVariables false
set_option linter.unusedSimpArgs false
attribute [local irreducible] iadd isub imul iquo irem ibit ineg ieq ine ilt ile ishl ishr beq' bnot and' seq' u8op u8rem u32op u64op u8shr u8shl u64shr u64shl u32shr u32shl i64w u8i u64i iu8 iu32 iu64 u8u64 u64u8 u32u8 u64cmp u8cmp u32cmp llen lget linb lset lcut lrep lapp lcpy lemp fits fitn ieqs sealed drawChk fpSame
theorem semC_sl {P : Program} {I : World → Prop} {f : FuncId} {t : Ty} {l : List (El t)} {s : AV} {H : List (Option Rs)} (h1 : l = [] → SemC P I f [.nil] [] s H) (h2 : SemC P I f [.sn t l] [] s H) : SemC P I f [.sl t l] [] s H := by
  intro ν O w args hG hR hP
  simp only [Reps, Rep] at hR
  obtain ⟨u, _, rfl, hu, rfl⟩ := hR
  obtain ⟨cs, hc, a, cap, rfl, h3, h4, h5, h6, h7⟩ := hu w (Stp.refl _ _)
  cases a with
  | none =>
    obtain ⟨e1, e2⟩ := h6 rfl
    exact h1 (List.length_eq_zero_iff.1 e1) ν O w _ hG (by simp only [Reps, Rep]; exact ⟨_, _, rfl, by rw [e1, e2], rfl⟩) hP
  | some p => exact h2 ν O w _ hG (by simp only [Reps, Rep]; exact ⟨_, _, rfl, ⟨⟨p, _, _, rfl⟩, hu⟩, rfl⟩) hP
noncomputable def E00 : Env := ⟨TT0, FT0, CT0, fun _ => none⟩
theorem clo_nil : Y E00 (.call 120 [.nil] []) = some (.ret (.nm 0) [some (.row 61 objT [])]) := by
  rw [Y_go]; conv => lhs; whnf
theorem clo_sn (l : List (El objT)) (h : l.length ≤ 4294967296) : Y E00 (.call 120 [.sn objT l] []) = some (.ret (.nm 0) [some (.row 61 objT l)]) := by
  rw [Y_go]; conv => lhs; whnf
  rw [fits_t (by (simp only [LL] at * <;> omega))]
  conv => lhs; whnf
  simp only [NO]; try with_reducible rfl
theorem cll_nil : Y E00 (.call 182 [.nil] []) = some (.ret (.nm 0) [some (.row 170 lvT [])]) := by
  rw [Y_go]; conv => lhs; whnf
theorem cll_sn (l : List (El lvT)) (h : l.length ≤ 4294967296) : Y E00 (.call 182 [.sn lvT l] []) = some (.ret (.nm 0) [some (.row 170 lvT l)]) := by
  rw [Y_go]; conv => lhs; whnf
  rw [fits_t (by (simp only [LL] at * <;> omega))]
  conv => lhs; whnf
  simp only [NO]; try with_reducible rfl
theorem fits_cl {α : Type} {l : List α} (h : fits l 32768 = true) : l.length ≤ 4294967296 := by
  simp only [fits_d, fits0, decide_eq_true_eq] at h; omega
noncomputable def ovC : Orc := fun q => match q with
  | .call f [.sl t l] [] => bif Nat.beq f 120 && decide (t = objT) && fits l 32768 then some (.ret (.nm 0) [some (.row 61 t l)])
    else bif Nat.beq f 182 && decide (t = lvT) && fits l 32768 then some (.ret (.nm 0) [some (.row 170 t l)])
    else none
  | _ => none
theorem ovC_ok {I : World → Prop} {E : Env} : ∀ q r, ovC q = some r → SemQ Tryz.prog I E q r := by
  have e00 : EnvOK Tryz.prog I E00 := ⟨tt0, ft0, ct0.get, by kernel_rfl, fun _ _ h => by cases h⟩
  intro q r h
  unfold ovC at h
  split at h
  · rename_i f t l
    cases hb : (Nat.beq f 120 && decide (t = objT) && fits l 32768) with
    | true =>
      rw [hb, cond_true] at h
      simp only [Bool.and_eq_true, decide_eq_true_eq] at hb
      obtain ⟨⟨h1, rfl⟩, h3⟩ := hb
      obtain rfl := Nat.eq_of_beq_eq_true h1
      obtain rfl := Option.some.inj h
      exact semC_sl (fun e => by subst e; exact Y_call e00 clo_nil) (Y_call e00 (clo_sn l (fits_cl h3)))
    | false =>
      rw [hb, cond_false] at h
      cases hb2 : (Nat.beq f 182 && decide (t = lvT) && fits l 32768) with
      | true =>
        rw [hb2, cond_true] at h
        simp only [Bool.and_eq_true, decide_eq_true_eq] at hb2
        obtain ⟨⟨h1, rfl⟩, h3⟩ := hb2
        obtain rfl := Nat.eq_of_beq_eq_true h1
        obtain rfl := Option.some.inj h
        exact semC_sl (fun e => by subst e; exact Y_call e00 cll_nil) (Y_call e00 (cll_sn l (fits_cl h3)))
      | false => rw [hb2] at h; cases h
  · cases h
end Go.Proofs.YtfjcmolccckhhaaGreatDoor

namespace Go.Proofs.YtfjcmolccckhhaaGreatDoor
open Go Go.RowKit Go.Eng
set_option linter.unusedVariables false
attribute [local irreducible] FW RL OP DR thn blk endp endg Calls
theorem rot_any (x : UInt32) (k : Int) (s : Nat) (w : World) (h0 : 0 < s ∧ s < 32) (hk : bop64 .and (UInt64.ofInt k) (UInt64.ofNat 31) = UInt64.ofNat s) :
    Calls Tryz.prog 270 #[wordV x, .int .i64 k] w (Ret fun v w' => v = wordV (rol x s) ∧ w = w') := by
  refine calls_of_FW [.u32 x, .v (.int .i64 k)] Tryz.func270 rfl Tryz.ntmps270 rfl rfl ?_
  have hs : (UInt64.ofNat s).toNat = s := by rw [UInt64.toNat_ofNat']; exact Nat.mod_eq_of_lt (by omega)
  have h32 : (bop64 .sub (UInt64.ofNat 32) (UInt64.ofNat s)).toNat = 32 - s := by
    simp only [bop64]
    rw [UInt64.toNat_sub_of_le]
    · rw [hs]; rfl
    · rw [UInt64.le_iff_toNat_le, hs]; show s ≤ 32; omega
  repeat (first | (first | refine FW_seq ?_ | refine FW_region ?_ | refine RL_nil ?_ | refine E_thn_n ?_ | refine FW_skip ?_ | refine FW_block ?_ | refine FW_exit ?_ | refine FW_ret ?_ | refine E_thn_x ?_ | refine E_thn_r ?_ | refine E_blk_n ?_ | refine E_blk_x ?_ | refine E_blk_o rfl ?_ | refine E_blk_r ?_) | (refine st ?_ rfl; (first | refine OP_move rfl ?_ | refine OP_assign rfl ?_ | refine OP_b64 rfl rfl rfl ?_ | refine OP_c64 (src := 3) (dst := 63) Tryz.underlying3 Tryz.underlying63 rfl ?_ )))
  rw [hk]
  refine st (OP_shl32 rfl rfl rfl (by omega) ?_) rfl
  repeat (first | (first | refine FW_seq ?_ | refine FW_region ?_ | refine RL_nil ?_ | refine E_thn_n ?_ | refine FW_skip ?_ | refine FW_block ?_ | refine FW_exit ?_ | refine FW_ret ?_ | refine E_thn_x ?_ | refine E_thn_r ?_ | refine E_blk_n ?_ | refine E_blk_x ?_ | refine E_blk_o rfl ?_ | refine E_blk_r ?_) | (refine st ?_ rfl; (first | refine OP_move rfl ?_ | refine OP_b64 rfl rfl rfl ?_ )))
  refine st (OP_shr32 rfl rfl rfl (Nat.lt_of_le_of_lt (Nat.le_of_eq h32) (by omega)) ?_) rfl
  repeat (first | (first | refine FW_seq ?_ | refine FW_region ?_ | refine RL_nil ?_ | refine E_thn_n ?_ | refine FW_skip ?_ | refine FW_block ?_ | refine FW_exit ?_ | refine FW_ret ?_ | refine E_thn_x ?_ | refine E_thn_r ?_ | refine E_blk_n ?_ | refine E_blk_x ?_ | refine E_blk_o rfl ?_ | refine E_blk_r ?_) | (refine st ?_ rfl; (first | refine OP_assign rfl ?_ | refine OP_b32 rfl rfl rfl ?_ )))
  refine E_end_r rfl ⟨?_, rfl⟩
  rw [hs, h32]
  rfl
theorem ref_rotr (x : UInt32) (m : UInt64) (w : World) (h0 : 0 < m.toNat ∧ m.toNat < 32) :
    Calls Tryz.prog 228 #[wordV x, longV m] w (Ret fun v w' => v = wordV (ror x m.toNat) ∧ w = w') := by
  refine calls_of_FW [.u32 x, .u64 m] Tryz.func228 rfl Tryz.ntmps228 rfl rfl ?_
  have h32 : (bop64 .sub (UInt64.ofNat 32) m).toNat = 32 - m.toNat := by
    simp only [bop64]
    rw [UInt64.toNat_sub_of_le]
    · rfl
    · rw [UInt64.le_iff_toNat_le]; show m.toNat ≤ 32; omega
  repeat (first | (first | refine FW_seq ?_ | refine FW_region ?_ | refine RL_nil ?_ | refine E_thn_n ?_ | refine FW_skip ?_ | refine FW_block ?_ | refine FW_exit ?_ | refine FW_ret ?_ | refine E_thn_x ?_ | refine E_thn_r ?_ | refine E_blk_n ?_ | refine E_blk_x ?_ | refine E_blk_o rfl ?_ | refine E_blk_r ?_) | (refine st ?_ rfl; (first | refine OP_move rfl ?_ | refine OP_assign rfl ?_ )))
  refine st (OP_shr32 rfl rfl rfl (by omega) ?_) rfl
  repeat (first | (first | refine FW_seq ?_ | refine FW_region ?_ | refine RL_nil ?_ | refine E_thn_n ?_ | refine FW_skip ?_ | refine FW_block ?_ | refine FW_exit ?_ | refine FW_ret ?_ | refine E_thn_x ?_ | refine E_thn_r ?_ | refine E_blk_n ?_ | refine E_blk_x ?_ | refine E_blk_o rfl ?_ | refine E_blk_r ?_) | (refine st ?_ rfl; (first | refine OP_move rfl ?_ | refine OP_b64 rfl rfl rfl ?_ )))
  refine st (OP_shl32 rfl rfl rfl (Nat.lt_of_le_of_lt (Nat.le_of_eq h32) (by omega)) ?_) rfl
  repeat (first | (first | refine FW_seq ?_ | refine FW_region ?_ | refine RL_nil ?_ | refine E_thn_n ?_ | refine FW_skip ?_ | refine FW_block ?_ | refine FW_exit ?_ | refine FW_ret ?_ | refine E_thn_x ?_ | refine E_thn_r ?_ | refine E_blk_n ?_ | refine E_blk_x ?_ | refine E_blk_o rfl ?_ | refine E_blk_r ?_) | (refine st ?_ rfl; (first | refine OP_assign rfl ?_ | refine OP_b32 rfl rfl rfl ?_ )))
  refine E_end_r rfl ⟨?_, rfl⟩
  rw [h32]
  rfl
theorem ts8 : SliceT Tryz.prog 22 5 (.int .u8 0) 1 1 := ⟨Tryz.underlying22, by kernel_rfl, rfl, by decide⟩
theorem mixed : Tryz.prog.follows .mixedOrders = true := by kernel_rfl
theorem bytes_at {w : World} {p : Addr} {l : List UInt8} (h : Cs w p (l.map byteV)) {w' : World} (he : Ext w w') (j : Nat) (hj : j < l.length) : w'.cell? (p.add j) = some (byteV (l.getD j 0)) := by
  refine h.ext he j _ ?_
  rw [List.getElem?_map, List.getElem?_eq_getElem hj]
  simp [List.getD, hj]
theorem dig_word (w : World) (v : Value) (l : List UInt8) (i : Int) (hB : Bytes w v l) (hi : 0 ≤ i ∧ 4 * i + 3 < l.length) :
    Calls Tryz.prog 269 #[v, .int .i64 i] w (Ret fun r w' => r = wordV (be32 l (4 * i).toNat) ∧ Ext w w') := by
  obtain ⟨a, cap, rfl, hl, h3, h4, h5, h6⟩ := hB
  have hmax : (l.length : Int) ≤ 9223372036854775807 := by unfold maxLen at h4; omega
  cases a with
  | none => have := (h5 rfl).1; omega
  | some p =>
    have hcs := h6 p rfl
    refine calls_of_FW [.v (.slice (some p) l.length cap), .v (.int .i64 i)] Tryz.func269 rfl Tryz.ntmps269 rfl rfl ?_
    repeat (first | (first | refine FW_seq ?_ | refine FW_region ?_ | refine RL_nil ?_ | refine E_thn_n ?_ | refine FW_skip ?_ | refine FW_block ?_ | refine FW_exit ?_ | refine FW_ret ?_ | refine E_thn_x ?_ | refine E_thn_r ?_ | refine E_blk_n ?_ | refine E_blk_x ?_ | refine E_blk_o rfl ?_ | refine E_blk_r ?_) | (refine st ?_ rfl; (first | refine OP_assign rfl ?_ )))
    refine FW_draw mixed 34 (by kernel_rfl) ?_
    repeat (first | refine dr rfl (fun w_ he_ => OP_move rfl ⟨Ext.refl _, rfl⟩) ?_ | refine dr rfl (fun w_ he_ => OP_assign rfl ⟨Ext.refl _, rfl⟩) ?_ | refine dr rfl (fun w_ he_ => OP_add rfl rfl (by omega) ⟨Ext.refl _, rfl⟩) ?_ | refine dr rfl (fun w_ he_ => OP_mul rfl rfl (by omega) ⟨Ext.refl _, rfl⟩) ?_ | refine dr rfl (fun w_ he_ => OP_b32 rfl rfl rfl ⟨Ext.refl _, rfl⟩) ?_ | refine dr rfl (fun w_ he_ => OP_shl32 rfl rfl rfl (by decide) ⟨Ext.refl _, rfl⟩) ?_ | refine dr rfl (fun w_ he_ => OP_c8_32 (src := 5) (dst := 159) Tryz.underlying5 Tryz.underlying159 rfl ⟨Ext.refl _, rfl⟩) ?_ | refine dr rfl (fun w_ he_ => OP_ixk ts8 rfl rfl rfl (by omega) ⟨Ext.refl _, rfl⟩) ?_ | refine dr rfl (fun w_ he_ => OP_load (s := .u8 _) Tryz.underlying5 rfl rfl (bytes_at (by assumption) he_ _ (by omega)) rfl ⟨Ext.refl _, rfl⟩) ?_ )
    refine dr_end fun w' he => ?_
    repeat (first | (first | refine FW_seq ?_ | refine FW_region ?_ | refine RL_nil ?_ | refine E_thn_n ?_ | refine FW_skip ?_ | refine FW_block ?_ | refine FW_exit ?_ | refine FW_ret ?_ | refine E_thn_x ?_ | refine E_thn_r ?_ | refine E_blk_n ?_ | refine E_blk_x ?_ | refine E_blk_o rfl ?_ | refine E_blk_r ?_) | (refine st ?_ rfl; (first | fail )))
    refine E_end_r rfl ⟨?_, he⟩
    have e1 : (4 * i + 1).toNat = (4 * i).toNat + 1 := by omega
    have e2 : (4 * i + 2).toNat = (4 * i).toNat + 2 := by omega
    have e3 : (4 * i + 3).toNat = (4 * i).toNat + 3 := by omega
    rw [e1, e2, e3]
    simp only [Nat.mul_one]
    rfl
theorem ref_word (w : World) (v : Value) (l : List UInt8) (i : Int) (hB : Bytes w v l) (hi : 0 ≤ i ∧ 4 * i + 3 < l.length) :
    Calls Tryz.prog 227 #[v, .int .i64 i] w (Ret fun r w' => r = wordV (be32 l (4 * i).toNat) ∧ Ext w w') := by
  obtain ⟨a, cap, rfl, hl, h3, h4, h5, h6⟩ := hB
  have hmax : (l.length : Int) ≤ 9223372036854775807 := by unfold maxLen at h4; omega
  cases a with
  | none => have := (h5 rfl).1; omega
  | some p =>
    have hcs := h6 p rfl
    refine calls_of_FW [.v (.slice (some p) l.length cap), .v (.int .i64 i)] Tryz.func227 rfl Tryz.ntmps227 rfl rfl ?_
    repeat (first | (first | refine FW_seq ?_ | refine FW_region ?_ | refine RL_nil ?_ | refine E_thn_n ?_ | refine FW_skip ?_ | refine FW_block ?_ | refine FW_exit ?_ | refine FW_ret ?_ | refine E_thn_x ?_ | refine E_thn_r ?_ | refine E_blk_n ?_ | refine E_blk_x ?_ | refine E_blk_o rfl ?_ | refine E_blk_r ?_) | (refine st ?_ rfl; (first | refine OP_assign rfl ?_ )))
    refine FW_draw mixed 34 (by kernel_rfl) ?_
    repeat (first | refine dr rfl (fun w_ he_ => OP_move rfl ⟨Ext.refl _, rfl⟩) ?_ | refine dr rfl (fun w_ he_ => OP_assign rfl ⟨Ext.refl _, rfl⟩) ?_ | refine dr rfl (fun w_ he_ => OP_add rfl rfl (by omega) ⟨Ext.refl _, rfl⟩) ?_ | refine dr rfl (fun w_ he_ => OP_mul rfl rfl (by omega) ⟨Ext.refl _, rfl⟩) ?_ | refine dr rfl (fun w_ he_ => OP_b32 rfl rfl rfl ⟨Ext.refl _, rfl⟩) ?_ | refine dr rfl (fun w_ he_ => OP_shl32 rfl rfl rfl (by decide) ⟨Ext.refl _, rfl⟩) ?_ | refine dr rfl (fun w_ he_ => OP_c8_32 (src := 5) (dst := 159) Tryz.underlying5 Tryz.underlying159 rfl ⟨Ext.refl _, rfl⟩) ?_ | refine dr rfl (fun w_ he_ => OP_ixk ts8 rfl rfl rfl (by omega) ⟨Ext.refl _, rfl⟩) ?_ | refine dr rfl (fun w_ he_ => OP_load (s := .u8 _) Tryz.underlying5 rfl rfl (bytes_at (by assumption) he_ _ (by omega)) rfl ⟨Ext.refl _, rfl⟩) ?_ )
    refine dr_end fun w' he => ?_
    repeat (first | (first | refine FW_seq ?_ | refine FW_region ?_ | refine RL_nil ?_ | refine E_thn_n ?_ | refine FW_skip ?_ | refine FW_block ?_ | refine FW_exit ?_ | refine FW_ret ?_ | refine E_thn_x ?_ | refine E_thn_r ?_ | refine E_blk_n ?_ | refine E_blk_x ?_ | refine E_blk_o rfl ?_ | refine E_blk_r ?_) | (refine st ?_ rfl; (first | fail )))
    refine E_end_r rfl ⟨?_, he⟩
    have e1 : (4 * i + 1).toNat = (4 * i).toNat + 1 := by omega
    have e2 : (4 * i + 2).toNat = (4 * i).toNat + 2 := by omega
    have e3 : (4 * i + 3).toNat = (4 * i).toNat + 3 := by omega
    rw [e1, e2, e3]
    simp only [Nat.mul_one]
    rfl
end Go.Proofs.YtfjcmolccckhhaaGreatDoor

namespace Go.Proofs.YtfjcmolccckhhaaGreatDoor
open Go Go.RowKit Go.Eng
set_option linter.unusedVariables false
attribute [local irreducible] FW RL OP DR thn blk endp endg Calls
abbrev OwnB (base : Nat) (w : World) (v : Value) (l : List UInt8) : Prop := Own byteV 5 base w v l
theorem sv_int {a b : Int} (h : a = b) : some (SV.v (.int .i64 a)) = some (SV.v (.int .i64 b)) := by rw [h]
theorem dig_pad (w : World) (v : Value) (l : List UInt8) (hB : Bytes w v l) (hl : l.length ≤ 4294967296) :
    Calls Tryz.prog 220 #[v] w (Ret fun r w' => OwnB w.heap.size w' r (padB l) ∧ Ext w w') := by
  refine calls_of_FW [.v v] Tryz.func220 rfl Tryz.ntmps220 rfl rfl ?_
  repeat (first | (first | refine FW_seq ?_ | refine FW_region ?_ | refine RL_nil ?_ | refine E_thn_n ?_ | refine FW_skip ?_ | refine FW_block ?_ | refine FW_exit ?_ | refine FW_ret ?_ | refine E_thn_x ?_ | refine E_thn_r ?_ | refine E_blk_n ?_ | refine E_blk_x ?_ | refine E_blk_o rfl ?_ | refine E_blk_r ?_) | (refine st ?_ rfl; (first | refine OP_move rfl ?_ | refine OP_assign rfl ?_ | refine OP_add rfl rfl (by omega) ?_ | refine OP_len (t := 22) Tryz.underlying22 rfl (by assumption) ?_ )))
  refine st (OP_mk0 UInt8 byteV ts8 rfl rfl (n := l.length + 72) (by omega) (Nat.le_refl _) fun v1 w1 ho1 he1 => ?_) rfl
  repeat (first | (first | refine FW_seq ?_ | refine FW_region ?_ | refine RL_nil ?_ | refine E_thn_n ?_ | refine FW_skip ?_ | refine FW_block ?_ | refine FW_exit ?_ | refine FW_ret ?_ | refine E_thn_x ?_ | refine E_thn_r ?_ | refine E_blk_n ?_ | refine E_blk_x ?_ | refine E_blk_o rfl ?_ | refine E_blk_r ?_) | (refine st ?_ rfl; (first | refine OP_move rfl ?_ )))
  refine st (OP_app ts8 byteV_1 rfl rfl ho1 (hB.ext he1) (by simp; omega) he1.size fun v2 w2 ho2 hb2 hg2 => ?_) rfl
  have he2 : Ext w w2 := he1.below hb2 (Nat.le_refl _)
  refine st (OP_li byte_ok byteV_1 ts8 rfl rfl rfl (base := w2.heap.size) (Nat.le_refl _) fun v3 w3 ho3 _ _ he3 => ?_) rfl
  refine st (OP_app ts8 byteV_1 rfl rfl (ho2.ext he3) ho3.hold (by simp; omega) (Nat.le_trans he2.size he3.size) fun v4 w4 ho4 hb4 hg4 => ?_) rfl
  have he4 : Ext w w4 := (he2.trans he3).below hb4 (Nat.le_refl _)
  repeat (first | (first | refine FW_seq ?_ | refine FW_region ?_ | refine RL_nil ?_ | refine E_thn_n ?_ | refine FW_skip ?_ | refine FW_block ?_ | refine FW_exit ?_ | refine FW_ret ?_ | refine E_thn_x ?_ | refine E_thn_r ?_ | refine E_blk_n ?_ | refine E_blk_x ?_ | refine E_blk_o rfl ?_ | refine E_blk_r ?_) | (refine st ?_ rfl; (first | refine OP_assign rfl ?_ )))
  refine FW_loop2 (fun (j : Nat) (p : Value) => [(3, .v p), (0, .v v)]) (fun j p w' => j ≤ zerosN l.length ∧ OwnB w.heap.size w' p (l ++ [128] ++ List.replicate j 0) ∧ Ext w w') (fun j _ => zerosN l.length - j) 0 v4
    ⟨rfl, rfl, trivial⟩ ⟨Nat.zero_le _, by simpa using ho4, he4⟩ ?_
  rintro j p wr ⟨hj, ho, he⟩
  have hlen : (l ++ [128] ++ List.replicate j 0).length = l.length + 1 + j := by simp; omega
  have hh := ho.hold
  have hz : zerosN l.length = (119 - l.length % 64) % 64 := rfl
  repeat (first | (first | refine FW_seq ?_ | refine FW_region ?_ | refine RL_nil ?_ | refine E_thn_n ?_ | refine FW_skip ?_ | refine FW_block ?_ | refine FW_exit ?_ | refine FW_ret ?_ | refine E_thn_x ?_ | refine E_thn_r ?_ | refine E_blk_n ?_ | refine E_blk_x ?_ | refine E_blk_o rfl ?_ | refine E_blk_r ?_) | (refine st ?_ rfl; (first | refine OP_move rfl ?_ | refine OP_cmp rfl rfl rfl rfl rfl ?_ | refine OP_rem rfl rfl (by omega) ?_ | refine OP_len (t := 22) Tryz.underlying22 rfl (by assumption) ?_ )))
  rw [hlen]
  repeat (first | (first | refine FW_seq ?_ | refine FW_region ?_ | refine RL_nil ?_ | refine E_thn_n ?_ | refine FW_skip ?_ | refine FW_block ?_ | refine FW_exit ?_ | refine FW_ret ?_ | refine E_thn_x ?_ | refine E_thn_r ?_ | refine E_blk_n ?_ | refine E_blk_x ?_ | refine E_blk_o rfl ?_ | refine E_blk_r ?_) | (refine st ?_ rfl; (first | fail )))
  refine FW_cond rfl (fun hc => ?_) (fun hc => ?_)
  · simp only [cmpB, bne_iff_ne, ne_eq] at hc
    repeat (first | (first | refine FW_seq ?_ | refine FW_region ?_ | refine RL_nil ?_ | refine E_thn_n ?_ | refine FW_skip ?_ | refine FW_block ?_ | refine FW_exit ?_ | refine FW_ret ?_ | refine E_thn_x ?_ | refine E_thn_r ?_ | refine E_blk_n ?_ | refine E_blk_x ?_ | refine E_blk_o rfl ?_ | refine E_blk_r ?_) | (refine st ?_ rfl; (first | refine OP_move rfl ?_ )))
    refine st (OP_li byte_ok byteV_1 ts8 rfl rfl rfl (base := wr.heap.size) (Nat.le_refl _) fun v3 w3 ho3 _ _ he3 => ?_) rfl
    refine st (OP_app ts8 byteV_1 rfl rfl (ho.ext he3) ho3.hold (by rw [hlen]; simp; omega) (Nat.le_trans he.size he3.size) fun v4 w4 ho4 hb4 hg4 => ?_) rfl
    repeat (first | (first | refine FW_seq ?_ | refine FW_region ?_ | refine RL_nil ?_ | refine E_thn_n ?_ | refine FW_skip ?_ | refine FW_block ?_ | refine FW_exit ?_ | refine FW_ret ?_ | refine E_thn_x ?_ | refine E_thn_r ?_ | refine E_blk_n ?_ | refine E_blk_x ?_ | refine E_blk_o rfl ?_ | refine E_blk_r ?_) | (refine st ?_ rfl; (first | refine OP_assign rfl ?_ )))
    refine ⟨j + 1, v4, ⟨rfl, rfl, trivial⟩, ⟨by omega, ?_, (he.trans he3).below hb4 (Nat.le_refl _)⟩, by omega⟩
    rw [List.append_assoc] at ho4
    simp only [List.replicate_succ']
    simpa using ho4
  · simp only [cmpB, bne_eq_false_iff_eq] at hc
    have hjz : j = zerosN l.length := by omega
    have hB' := hB.ext he
    repeat (first | (first | refine FW_seq ?_ | refine FW_region ?_ | refine RL_nil ?_ | refine E_thn_n ?_ | refine FW_skip ?_ | refine FW_block ?_ | refine FW_exit ?_ | refine FW_ret ?_ | refine E_thn_x ?_ | refine E_thn_r ?_ | refine E_blk_n ?_ | refine E_blk_x ?_ | refine E_blk_o rfl ?_ | refine E_blk_r ?_) | (refine st ?_ rfl; (first | refine OP_move rfl ?_ | refine OP_assign rfl ?_ | refine OP_b64 rfl rfl rfl ?_ | refine OP_c64 (src := 3) (dst := 179) Tryz.underlying3 Tryz.underlying179 rfl ?_ | refine OP_len (t := 22) Tryz.underlying22 rfl (by assumption) ?_ )))
    refine FW_loop2 (fun (m : Nat) (p : Value) => [(3, .v p), (4, .u64 (UInt64.ofInt (l.length : Int) * 8)), (5, .v (.int .i64 (56 - 8 * (m : Int))))])
      (fun m p w' => m ≤ 8 ∧ OwnB w.heap.size w' p (l ++ [128] ++ List.replicate (zerosN l.length) 0 ++ (be64 (UInt64.ofInt (l.length : Int) * 8)).take m) ∧ Ext w w') (fun m _ => 8 - m) 0 p
      ⟨rfl, rfl, rfl, trivial⟩ ⟨by omega, by rw [← hjz]; simpa using ho, he⟩ ?_
    clear hj ho he hlen hh hc hjz hB' j p wr
    rintro m p wr ⟨hm, ho, he⟩
    repeat (first | (first | refine FW_seq ?_ | refine FW_region ?_ | refine RL_nil ?_ | refine E_thn_n ?_ | refine FW_skip ?_ | refine FW_block ?_ | refine FW_exit ?_ | refine FW_ret ?_ | refine E_thn_x ?_ | refine E_thn_r ?_ | refine E_blk_n ?_ | refine E_blk_x ?_ | refine E_blk_o rfl ?_ | refine E_blk_r ?_) | (refine st ?_ rfl; (first | refine OP_move rfl ?_ | refine OP_cmp rfl rfl rfl rfl rfl ?_ )))
    refine FW_cond rfl (fun hc => ?_) (fun hc => ?_)
    · simp only [cmpB, decide_eq_true_eq] at hc
      repeat (first | (first | refine FW_seq ?_ | refine FW_region ?_ | refine RL_nil ?_ | refine E_thn_n ?_ | refine FW_skip ?_ | refine FW_block ?_ | refine FW_exit ?_ | refine FW_ret ?_ | refine E_thn_x ?_ | refine E_thn_r ?_ | refine E_blk_n ?_ | refine E_blk_x ?_ | refine E_blk_o rfl ?_ | refine E_blk_r ?_) | (refine st ?_ rfl; (first | refine OP_move rfl ?_ | refine OP_shr64i rfl rfl rfl (by omega) ?_ | refine OP_cnt (src := 3) (dst := 63) Tryz.underlying3 Tryz.underlying63 rfl (by omega) ?_ | refine OP_c64_8 (src := 179) (dst := 5) Tryz.underlying179 Tryz.underlying5 rfl ?_ )))
      refine st (OP_li byte_ok byteV_1 ts8 rfl rfl rfl (base := wr.heap.size) (Nat.le_refl _) fun v3 w3 ho3 _ _ he3 => ?_) rfl
      refine st (OP_app ts8 byteV_1 rfl rfl (ho.ext he3) ho3.hold (by simp [be64, zerosN]; omega) (Nat.le_trans he.size he3.size) fun v4 w4 ho4 hb4 hg4 => ?_) rfl
      repeat (first | (first | refine FW_seq ?_ | refine FW_region ?_ | refine RL_nil ?_ | refine E_thn_n ?_ | refine FW_skip ?_ | refine FW_block ?_ | refine FW_exit ?_ | refine FW_ret ?_ | refine E_thn_x ?_ | refine E_thn_r ?_ | refine E_blk_n ?_ | refine E_blk_x ?_ | refine E_blk_o rfl ?_ | refine E_blk_r ?_) | (refine st ?_ rfl; (first | refine OP_move rfl ?_ | refine OP_assign rfl ?_ | refine OP_sub rfl rfl (by omega) ?_ )))
      refine ⟨m + 1, v4, ⟨rfl, rfl, sv_int (by omega), trivial⟩, ⟨by omega, ?_, (he.trans he3).below hb4 (Nat.le_refl _)⟩, by omega⟩
      · rw [be64_take _ _ (by omega), ← List.append_assoc]
        have e : (56 - 8 * (m : Int)).toNat = 56 - 8 * m := by omega
        rw [e] at ho4
        exact ho4
    · simp only [cmpB, decide_eq_false_iff_not] at hc
      have hm8 : m = 8 := by omega
      subst hm8
      rw [be64_take8] at ho
      repeat (first | (first | refine FW_seq ?_ | refine FW_region ?_ | refine RL_nil ?_ | refine E_thn_n ?_ | refine FW_skip ?_ | refine FW_block ?_ | refine FW_exit ?_ | refine FW_ret ?_ | refine E_thn_x ?_ | refine E_thn_r ?_ | refine E_blk_n ?_ | refine E_blk_x ?_ | refine E_blk_o rfl ?_ | refine E_blk_r ?_) | (refine st ?_ rfl; (first | refine OP_move rfl ?_ | refine OP_assign rfl ?_ )))
      exact E_end_r rfl ⟨ho, he⟩
theorem ref_pad (w : World) (v : Value) (l : List UInt8) (hB : Bytes w v l) (hl : l.length ≤ 4294967296) :
    Calls Tryz.prog 226 #[v] w (Ret fun r w' => OwnB w.heap.size w' r (padB l) ∧ Ext w w') := by
  refine calls_of_FW [.v v] Tryz.func226 rfl Tryz.ntmps226 rfl rfl ?_
  repeat (first | (first | refine FW_seq ?_ | refine FW_region ?_ | refine RL_nil ?_ | refine E_thn_n ?_ | refine FW_skip ?_ | refine FW_block ?_ | refine FW_exit ?_ | refine FW_ret ?_ | refine E_thn_x ?_ | refine E_thn_r ?_ | refine E_blk_n ?_ | refine E_blk_x ?_ | refine E_blk_o rfl ?_ | refine E_blk_r ?_) | (refine st ?_ rfl; (first | refine OP_assign rfl ?_ )))
  refine st (OP_li byte_ok byteV_1 ts8 rfl rfl rfl (base := w.heap.size) (Nat.le_refl _) fun v1 w1 ho1 _ _ he1 => ?_) rfl
  repeat (first | (first | refine FW_seq ?_ | refine FW_region ?_ | refine RL_nil ?_ | refine E_thn_n ?_ | refine FW_skip ?_ | refine FW_block ?_ | refine FW_exit ?_ | refine FW_ret ?_ | refine E_thn_x ?_ | refine E_thn_r ?_ | refine E_blk_n ?_ | refine E_blk_x ?_ | refine E_blk_o rfl ?_ | refine E_blk_r ?_) | (refine st ?_ rfl; (first | refine OP_move rfl ?_ )))
  refine st (OP_app ts8 byteV_1 rfl rfl ho1 (hB.ext he1) (by simp; omega) he1.size fun v2 w2 ho2 hb2 hg2 => ?_) rfl
  have he2 : Ext w w2 := he1.below hb2 (Nat.le_refl _)
  refine st (OP_li byte_ok byteV_1 ts8 rfl rfl rfl (base := w2.heap.size) (Nat.le_refl _) fun v3 w3 ho3 _ _ he3 => ?_) rfl
  refine st (OP_app ts8 byteV_1 rfl rfl (ho2.ext he3) ho3.hold (by simp; omega) (Nat.le_trans he2.size he3.size) fun v4 w4 ho4 hb4 hg4 => ?_) rfl
  have he4 : Ext w w4 := (he2.trans he3).below hb4 (Nat.le_refl _)
  repeat (first | (first | refine FW_seq ?_ | refine FW_region ?_ | refine RL_nil ?_ | refine E_thn_n ?_ | refine FW_skip ?_ | refine FW_block ?_ | refine FW_exit ?_ | refine FW_ret ?_ | refine E_thn_x ?_ | refine E_thn_r ?_ | refine E_blk_n ?_ | refine E_blk_x ?_ | refine E_blk_o rfl ?_ | refine E_blk_r ?_) | (refine st ?_ rfl; (first | refine OP_assign rfl ?_ )))
  refine FW_loop2 (fun (j : Nat) (p : Value) => [(3, .v p), (0, .v v)]) (fun j p w' => j ≤ zerosN l.length ∧ OwnB w.heap.size w' p (l ++ [128] ++ List.replicate j 0) ∧ Ext w w') (fun j _ => zerosN l.length - j) 0 v4
    ⟨rfl, rfl, trivial⟩ ⟨Nat.zero_le _, by simpa using ho4, he4⟩ ?_
  rintro j p wr ⟨hj, ho, he⟩
  have hlen : (l ++ [128] ++ List.replicate j 0).length = l.length + 1 + j := by simp; omega
  have hh := ho.hold
  have hz : zerosN l.length = (119 - l.length % 64) % 64 := rfl
  repeat (first | (first | refine FW_seq ?_ | refine FW_region ?_ | refine RL_nil ?_ | refine E_thn_n ?_ | refine FW_skip ?_ | refine FW_block ?_ | refine FW_exit ?_ | refine FW_ret ?_ | refine E_thn_x ?_ | refine E_thn_r ?_ | refine E_blk_n ?_ | refine E_blk_x ?_ | refine E_blk_o rfl ?_ | refine E_blk_r ?_) | (refine st ?_ rfl; (first | refine OP_move rfl ?_ | refine OP_cmp rfl rfl rfl rfl rfl ?_ | refine OP_rem rfl rfl (by omega) ?_ | refine OP_len (t := 22) Tryz.underlying22 rfl (by assumption) ?_ )))
  rw [hlen]
  repeat (first | (first | refine FW_seq ?_ | refine FW_region ?_ | refine RL_nil ?_ | refine E_thn_n ?_ | refine FW_skip ?_ | refine FW_block ?_ | refine FW_exit ?_ | refine FW_ret ?_ | refine E_thn_x ?_ | refine E_thn_r ?_ | refine E_blk_n ?_ | refine E_blk_x ?_ | refine E_blk_o rfl ?_ | refine E_blk_r ?_) | (refine st ?_ rfl; (first | fail )))
  refine FW_cond rfl (fun hc => ?_) (fun hc => ?_)
  · simp only [cmpB, bne_iff_ne, ne_eq] at hc
    repeat (first | (first | refine FW_seq ?_ | refine FW_region ?_ | refine RL_nil ?_ | refine E_thn_n ?_ | refine FW_skip ?_ | refine FW_block ?_ | refine FW_exit ?_ | refine FW_ret ?_ | refine E_thn_x ?_ | refine E_thn_r ?_ | refine E_blk_n ?_ | refine E_blk_x ?_ | refine E_blk_o rfl ?_ | refine E_blk_r ?_) | (refine st ?_ rfl; (first | refine OP_move rfl ?_ )))
    refine st (OP_li byte_ok byteV_1 ts8 rfl rfl rfl (base := wr.heap.size) (Nat.le_refl _) fun v3 w3 ho3 _ _ he3 => ?_) rfl
    refine st (OP_app ts8 byteV_1 rfl rfl (ho.ext he3) ho3.hold (by rw [hlen]; simp; omega) (Nat.le_trans he.size he3.size) fun v4 w4 ho4 hb4 hg4 => ?_) rfl
    repeat (first | (first | refine FW_seq ?_ | refine FW_region ?_ | refine RL_nil ?_ | refine E_thn_n ?_ | refine FW_skip ?_ | refine FW_block ?_ | refine FW_exit ?_ | refine FW_ret ?_ | refine E_thn_x ?_ | refine E_thn_r ?_ | refine E_blk_n ?_ | refine E_blk_x ?_ | refine E_blk_o rfl ?_ | refine E_blk_r ?_) | (refine st ?_ rfl; (first | refine OP_assign rfl ?_ )))
    refine ⟨j + 1, v4, ⟨rfl, rfl, trivial⟩, ⟨by omega, ?_, (he.trans he3).below hb4 (Nat.le_refl _)⟩, by omega⟩
    rw [List.append_assoc] at ho4
    simp only [List.replicate_succ']
    simpa using ho4
  · simp only [cmpB, bne_eq_false_iff_eq] at hc
    have hjz : j = zerosN l.length := by omega
    have hB' := hB.ext he
    repeat (first | (first | refine FW_seq ?_ | refine FW_region ?_ | refine RL_nil ?_ | refine E_thn_n ?_ | refine FW_skip ?_ | refine FW_block ?_ | refine FW_exit ?_ | refine FW_ret ?_ | refine E_thn_x ?_ | refine E_thn_r ?_ | refine E_blk_n ?_ | refine E_blk_x ?_ | refine E_blk_o rfl ?_ | refine E_blk_r ?_) | (refine st ?_ rfl; (first | refine OP_move rfl ?_ | refine OP_assign rfl ?_ | refine OP_b64 rfl rfl rfl ?_ | refine OP_c64 (src := 3) (dst := 179) Tryz.underlying3 Tryz.underlying179 rfl ?_ | refine OP_len (t := 22) Tryz.underlying22 rfl (by assumption) ?_ )))
    refine FW_loop2 (fun (m : Nat) (p : Value) => [(3, .v p), (4, .u64 (UInt64.ofInt (l.length : Int) * 8)), (5, .v (.int .i64 (7 - (m : Int))))])
      (fun m p w' => m ≤ 8 ∧ OwnB w.heap.size w' p (l ++ [128] ++ List.replicate (zerosN l.length) 0 ++ (be64 (UInt64.ofInt (l.length : Int) * 8)).take m) ∧ Ext w w') (fun m _ => 8 - m) 0 p
      ⟨rfl, rfl, rfl, trivial⟩ ⟨by omega, by rw [← hjz]; simpa using ho, he⟩ ?_
    clear hj ho he hlen hh hc hjz hB' j p wr
    rintro m p wr ⟨hm, ho, he⟩
    repeat (first | (first | refine FW_seq ?_ | refine FW_region ?_ | refine RL_nil ?_ | refine E_thn_n ?_ | refine FW_skip ?_ | refine FW_block ?_ | refine FW_exit ?_ | refine FW_ret ?_ | refine E_thn_x ?_ | refine E_thn_r ?_ | refine E_blk_n ?_ | refine E_blk_x ?_ | refine E_blk_o rfl ?_ | refine E_blk_r ?_) | (refine st ?_ rfl; (first | refine OP_move rfl ?_ | refine OP_cmp rfl rfl rfl rfl rfl ?_ )))
    refine FW_cond rfl (fun hc => ?_) (fun hc => ?_)
    · simp only [cmpB, decide_eq_true_eq] at hc
      repeat (first | (first | refine FW_seq ?_ | refine FW_region ?_ | refine RL_nil ?_ | refine E_thn_n ?_ | refine FW_skip ?_ | refine FW_block ?_ | refine FW_exit ?_ | refine FW_ret ?_ | refine E_thn_x ?_ | refine E_thn_r ?_ | refine E_blk_n ?_ | refine E_blk_x ?_ | refine E_blk_o rfl ?_ | refine E_blk_r ?_) | (refine st ?_ rfl; (first | refine OP_move rfl ?_ | refine OP_cnt (src := 3) (dst := 63) Tryz.underlying3 Tryz.underlying63 rfl (by omega) ?_ )))
      refine st (OP_umul (a := 8) rfl rfl rfl rfl (by omega) ?_) rfl
      repeat (first | (first | refine FW_seq ?_ | refine FW_region ?_ | refine RL_nil ?_ | refine E_thn_n ?_ | refine FW_skip ?_ | refine FW_block ?_ | refine FW_exit ?_ | refine FW_ret ?_ | refine E_thn_x ?_ | refine E_thn_r ?_ | refine E_blk_n ?_ | refine E_blk_x ?_ | refine E_blk_o rfl ?_ | refine E_blk_r ?_) | (refine st ?_ rfl; (first | refine OP_shr64i rfl rfl rfl (by omega) ?_ | refine OP_c64_8 (src := 179) (dst := 5) Tryz.underlying179 Tryz.underlying5 rfl ?_ )))
      refine st (OP_li byte_ok byteV_1 ts8 rfl rfl rfl (base := wr.heap.size) (Nat.le_refl _) fun v3 w3 ho3 _ _ he3 => ?_) rfl
      refine st (OP_app ts8 byteV_1 rfl rfl (ho.ext he3) ho3.hold (by simp [be64, zerosN]; omega) (Nat.le_trans he.size he3.size) fun v4 w4 ho4 hb4 hg4 => ?_) rfl
      repeat (first | (first | refine FW_seq ?_ | refine FW_region ?_ | refine RL_nil ?_ | refine E_thn_n ?_ | refine FW_skip ?_ | refine FW_block ?_ | refine FW_exit ?_ | refine FW_ret ?_ | refine E_thn_x ?_ | refine E_thn_r ?_ | refine E_blk_n ?_ | refine E_blk_x ?_ | refine E_blk_o rfl ?_ | refine E_blk_r ?_) | (refine st ?_ rfl; (first | refine OP_move rfl ?_ | refine OP_assign rfl ?_ | refine OP_sub rfl rfl (by omega) ?_ )))
      refine ⟨m + 1, v4, ⟨rfl, rfl, sv_int (by omega), trivial⟩, ⟨by omega, ?_, (he.trans he3).below hb4 (Nat.le_refl _)⟩, by omega⟩
      · rw [be64_take _ _ (by omega), ← List.append_assoc]
        have e : (8 * (7 - (m : Int))).toNat = 56 - 8 * m := by omega
        rw [e] at ho4
        exact ho4
    · simp only [cmpB, decide_eq_false_iff_not] at hc
      have hm8 : m = 8 := by omega
      subst hm8
      rw [be64_take8] at ho
      repeat (first | (first | refine FW_seq ?_ | refine FW_region ?_ | refine RL_nil ?_ | refine E_thn_n ?_ | refine FW_skip ?_ | refine FW_block ?_ | refine FW_exit ?_ | refine FW_ret ?_ | refine E_thn_x ?_ | refine E_thn_r ?_ | refine E_blk_n ?_ | refine E_blk_x ?_ | refine E_blk_o rfl ?_ | refine E_blk_r ?_) | (refine st ?_ rfl; (first | refine OP_move rfl ?_ | refine OP_assign rfl ?_ )))
      exact E_end_r rfl ⟨ho, he⟩
theorem ts32 : SliceT Tryz.prog 240 159 (.int .u32 0) 1 4 := ⟨Tryz.underlying240, by kernel_rfl, rfl, by decide⟩
theorem spread_snoc (ws : List UInt32) (k : Nat) (x : UInt32) (hx : ws[k]? = some x) : spreadB (ws.take (k + 1)) = spreadB (ws.take k) ++ wb x := by
  have hk : k < ws.length := (List.getElem?_eq_some_iff.1 hx).1
  have he : ws[k] = x := (List.getElem?_eq_some_iff.1 hx).2
  rw [List.take_succ_eq_append_getElem hk, he]
  simp [spreadB]
theorem dig_spread (w : World) (v : Value) (ws : List UInt32) (hB : Words w v ws) (hl : ws.length ≤ 4294967296) :
    Calls Tryz.prog 222 #[v] w (Ret fun r w' => OwnB w.heap.size w' r (spreadB ws) ∧ Ext w w') := by
  refine calls_of_FW [.v v] Tryz.func222 rfl Tryz.ntmps222 rfl rfl ?_
  repeat (first | (first | refine FW_seq ?_ | refine FW_region ?_ | refine RL_nil ?_ | refine E_thn_n ?_ | refine FW_skip ?_ | refine FW_block ?_ | refine FW_exit ?_ | refine FW_ret ?_ | refine E_thn_x ?_ | refine E_thn_r ?_ | refine E_blk_n ?_ | refine E_blk_x ?_ | refine E_blk_o rfl ?_ | refine E_blk_r ?_) | (refine st ?_ rfl; (first | refine OP_move rfl ?_ | refine OP_assign rfl ?_ | refine OP_mul rfl rfl (by omega) ?_ | refine OP_len (t := 240) Tryz.underlying240 rfl (by assumption) ?_ )))
  refine st (OP_mk0 UInt8 byteV ts8 rfl rfl (n := 4 * ws.length) (by omega) (Nat.le_refl _) fun v1 w1 ho1 he1 => ?_) rfl
  have hB1 := hB.ext he1
  repeat (first | (first | refine FW_seq ?_ | refine FW_region ?_ | refine RL_nil ?_ | refine E_thn_n ?_ | refine FW_skip ?_ | refine FW_block ?_ | refine FW_exit ?_ | refine FW_ret ?_ | refine E_thn_x ?_ | refine E_thn_r ?_ | refine E_blk_n ?_ | refine E_blk_x ?_ | refine E_blk_o rfl ?_ | refine E_blk_r ?_) | (refine st ?_ rfl; (first | refine OP_move rfl ?_ | refine OP_assign rfl ?_ | refine OP_len (t := 240) Tryz.underlying240 rfl (by assumption) ?_ )))
  refine FW_loop2 (fun (j : Nat) (p : Value) => [(3, .v p), (10, .v v), (11, .v (.int .i64 (ws.length : Int))), (12, .v (.int .i64 (j : Int)))]) (fun j p w' => j ≤ ws.length ∧ OwnB w.heap.size w' p (spreadB (ws.take j)) ∧ Ext w w') (fun j _ => ws.length - j) 0 v1
    ⟨rfl, rfl, rfl, rfl, trivial⟩ ⟨Nat.zero_le _, ho1, he1⟩ ?_
  rintro j p wr ⟨hj, ho, he⟩
  have hBr := hB.ext he
  repeat (first | (first | refine FW_seq ?_ | refine FW_region ?_ | refine RL_nil ?_ | refine E_thn_n ?_ | refine FW_skip ?_ | refine FW_block ?_ | refine FW_exit ?_ | refine FW_ret ?_ | refine E_thn_x ?_ | refine E_thn_r ?_ | refine E_blk_n ?_ | refine E_blk_x ?_ | refine E_blk_o rfl ?_ | refine E_blk_r ?_) | (refine st ?_ rfl; (first | refine OP_cmp rfl rfl rfl rfl rfl ?_ )))
  refine FW_cond rfl (fun hc => ?_) (fun hc => ?_)
  · simp only [cmpB, decide_eq_true_eq] at hc
    repeat (first | (first | refine FW_seq ?_ | refine FW_region ?_ | refine RL_nil ?_ | refine E_thn_n ?_ | refine FW_skip ?_ | refine FW_block ?_ | refine FW_exit ?_ | refine FW_ret ?_ | refine E_thn_x ?_ | refine E_thn_r ?_ | refine E_blk_n ?_ | refine E_blk_x ?_ | refine E_blk_o rfl ?_ | refine E_blk_r ?_) | (refine st ?_ rfl; (first | fail )))
    refine st (OP_el ts32 rfl hBr rfl rfl (by omega) fun q x hx hq => ?_) rfl
    refine st (OP_load (s := .u32 x) Tryz.underlying159 rfl rfl hq rfl ?_) rfl
    repeat (first | (first | refine FW_seq ?_ | refine FW_region ?_ | refine RL_nil ?_ | refine E_thn_n ?_ | refine FW_skip ?_ | refine FW_block ?_ | refine FW_exit ?_ | refine FW_ret ?_ | refine E_thn_x ?_ | refine E_thn_r ?_ | refine E_blk_n ?_ | refine E_blk_x ?_ | refine E_blk_o rfl ?_ | refine E_blk_r ?_) | (refine st ?_ rfl; (first | refine OP_move rfl ?_ | refine OP_assign rfl ?_ | refine OP_shr32 rfl rfl rfl (by decide) ?_ | refine OP_c32_8 (src := 159) (dst := 5) Tryz.underlying159 Tryz.underlying5 rfl ?_ )))
    refine st (OP_li byte_ok byteV_1 ts8 rfl rfl rfl (base := wr.heap.size) (Nat.le_refl _) fun v3 w3 ho3 _ _ he3 => ?_) rfl
    refine st (OP_app ts8 byteV_1 rfl rfl (ho.ext he3) ho3.hold (by rw [spreadB_len]; simp; omega) (Nat.le_trans he.size he3.size) fun v4 w4 ho4 hb4 hg4 => ?_) rfl
    repeat (first | (first | refine FW_seq ?_ | refine FW_region ?_ | refine RL_nil ?_ | refine E_thn_n ?_ | refine FW_skip ?_ | refine FW_block ?_ | refine FW_exit ?_ | refine FW_ret ?_ | refine E_thn_x ?_ | refine E_thn_r ?_ | refine E_blk_n ?_ | refine E_blk_x ?_ | refine E_blk_o rfl ?_ | refine E_blk_r ?_) | (refine st ?_ rfl; (first | refine OP_move rfl ?_ | refine OP_assign rfl ?_ | refine OP_add rfl rfl (by omega) ?_ )))
    refine ⟨j + 1, v4, ⟨rfl, rfl, rfl, rfl, trivial⟩, ⟨by omega, ?_, (he.trans he3).below hb4 (Nat.le_refl _)⟩, by omega⟩
    rw [spread_snoc ws j x (by simpa using hx)]
    exact ho4
  · simp only [cmpB, decide_eq_false_iff_not] at hc
    have : j = ws.length := by omega
    subst this
    rw [List.take_length] at ho
    repeat (first | (first | refine FW_seq ?_ | refine FW_region ?_ | refine RL_nil ?_ | refine E_thn_n ?_ | refine FW_skip ?_ | refine FW_block ?_ | refine FW_exit ?_ | refine FW_ret ?_ | refine E_thn_x ?_ | refine E_thn_r ?_ | refine E_blk_n ?_ | refine E_blk_x ?_ | refine E_blk_o rfl ?_ | refine E_blk_r ?_) | (refine st ?_ rfl; (first | refine OP_move rfl ?_ | refine OP_assign rfl ?_ )))
    exact E_end_r rfl ⟨ho, he⟩
theorem words_at {w : World} {p : Addr} {l : List UInt32} (h : Cs w p (l.map wordV)) {w' : World} (he : Ext w w') (j : Nat) (hj : j < l.length) : w'.cell? (p.add j) = some (wordV (l.getD j 0)) := by
  refine h.ext he j _ ?_
  rw [List.getElem?_map, List.getElem?_eq_getElem hj]
  simp [List.getD, hj]
theorem ref_bytes (w : World) (v : Value) (ws : List UInt32) (hB : Words w v ws) (hl : ws.length ≤ 4294967296) :
    Calls Tryz.prog 229 #[v] w (Ret fun r w' => OwnB w.heap.size w' r (spreadB ws) ∧ Ext w w') := by
  have hB0 := hB
  obtain ⟨a, cap, rfl, hlen, h3, h4, h5, h6⟩ := hB
  refine calls_of_FW [.v (.slice a ws.length cap)] Tryz.func229 rfl Tryz.ntmps229 rfl rfl ?_
  repeat (first | (first | refine FW_seq ?_ | refine FW_region ?_ | refine RL_nil ?_ | refine E_thn_n ?_ | refine FW_skip ?_ | refine FW_block ?_ | refine FW_exit ?_ | refine FW_ret ?_ | refine E_thn_x ?_ | refine E_thn_r ?_ | refine E_blk_n ?_ | refine E_blk_x ?_ | refine E_blk_o rfl ?_ | refine E_blk_r ?_) | (refine st ?_ rfl; (first | refine OP_assign rfl ?_ )))
  refine FW_loop2 (fun (j : Nat) (p : Value) => [(3, .v p), (0, .v (.slice a ws.length cap)), (4, .v (.int .i64 (j : Int)))]) (fun j p w' => j ≤ ws.length ∧ OwnB w.heap.size w' p (spreadB (ws.take j)) ∧ Ext w w') (fun j _ => ws.length - j) 0 (.slice none 0 0)
    ⟨rfl, rfl, rfl, trivial⟩ ⟨Nat.zero_le _, Own.nil _ _ _ _, Ext.refl _⟩ ?_
  rintro j p wr ⟨hj, ho, he⟩
  have hBr := hB0.ext he
  repeat (first | (first | refine FW_seq ?_ | refine FW_region ?_ | refine RL_nil ?_ | refine E_thn_n ?_ | refine FW_skip ?_ | refine FW_block ?_ | refine FW_exit ?_ | refine FW_ret ?_ | refine E_thn_x ?_ | refine E_thn_r ?_ | refine E_blk_n ?_ | refine E_blk_x ?_ | refine E_blk_o rfl ?_ | refine E_blk_r ?_) | (refine st ?_ rfl; (first | refine OP_move rfl ?_ | refine OP_cmp rfl rfl rfl rfl rfl ?_ | refine OP_len (t := 240) Tryz.underlying240 rfl (by assumption) ?_ )))
  refine FW_cond rfl (fun hc => ?_) (fun hc => ?_)
  · simp only [cmpB, decide_eq_true_eq] at hc
    cases a with
    | none => have := h5 rfl; omega
    | some q =>
      have hcs := (h6 q rfl).ext he
      repeat (first | (first | refine FW_seq ?_ | refine FW_region ?_ | refine RL_nil ?_ | refine E_thn_n ?_ | refine FW_skip ?_ | refine FW_block ?_ | refine FW_exit ?_ | refine FW_ret ?_ | refine E_thn_x ?_ | refine E_thn_r ?_ | refine E_blk_n ?_ | refine E_blk_x ?_ | refine E_blk_o rfl ?_ | refine E_blk_r ?_) | (refine st ?_ rfl; (first | fail )))
      refine FW_draw mixed 25 (by kernel_rfl) ?_
      repeat (first | refine dr rfl (fun w_ he_ => OP_move rfl ⟨Ext.refl _, rfl⟩) ?_ | refine dr rfl (fun w_ he_ => OP_shr32 rfl rfl rfl (by decide) ⟨Ext.refl _, rfl⟩) ?_ | refine dr rfl (fun w_ he_ => OP_c32_8 (src := 159) (dst := 5) Tryz.underlying159 Tryz.underlying5 rfl ⟨Ext.refl _, rfl⟩) ?_ | refine dr rfl (fun w_ he_ => OP_ixk ts32 rfl rfl rfl (by omega) ⟨Ext.refl _, rfl⟩) ?_ | refine dr rfl (fun w_ he_ => OP_load (s := .u32 _) Tryz.underlying159 rfl rfl (words_at (by assumption) he_ _ (by omega)) rfl ⟨Ext.refl _, rfl⟩) ?_ )
      refine drR (fun v w => Hold byteV w v _) (fun v w w' h he => Sl.ext h he) rfl (fun w_ he_ => OP_li byte_ok byteV_1 ts8 rfl rfl rfl (Nat.le_refl _) fun v' w' ho _ _ he => ⟨he, ho.hold⟩) ?_
      refine dr_end1 fun w3 he3 v3 ho3 => ?_
      refine st (OP_app ts8 byteV_1 rfl rfl (ho.ext he3) ho3 (by rw [spreadB_len]; simp; omega) (Nat.le_trans he.size he3.size) fun v4 w4 ho4 hb4 hg4 => ?_) rfl
      repeat (first | (first | refine FW_seq ?_ | refine FW_region ?_ | refine RL_nil ?_ | refine E_thn_n ?_ | refine FW_skip ?_ | refine FW_block ?_ | refine FW_exit ?_ | refine FW_ret ?_ | refine E_thn_x ?_ | refine E_thn_r ?_ | refine E_blk_n ?_ | refine E_blk_x ?_ | refine E_blk_o rfl ?_ | refine E_blk_r ?_) | (refine st ?_ rfl; (first | refine OP_move rfl ?_ | refine OP_assign rfl ?_ | refine OP_add rfl rfl (by omega) ?_ )))
      refine ⟨j + 1, v4, ⟨rfl, rfl, rfl, trivial⟩, ⟨by omega, ?_, (he.trans he3).below hb4 (Nat.le_refl _)⟩, by omega⟩
      have hx : ws[j]? = some (ws.getD j 0) := by rw [List.getD, List.getElem?_eq_getElem (by omega)]; rfl
      rw [spread_snoc ws j _ hx]
      simp only [Int.toNat_natCast, Nat.mul_one] at ho4
      exact ho4
  · simp only [cmpB, decide_eq_false_iff_not] at hc
    have : j = ws.length := by omega
    subst this
    rw [List.take_length] at ho
    repeat (first | (first | refine FW_seq ?_ | refine FW_region ?_ | refine RL_nil ?_ | refine E_thn_n ?_ | refine FW_skip ?_ | refine FW_block ?_ | refine FW_exit ?_ | refine FW_ret ?_ | refine E_thn_x ?_ | refine E_thn_r ?_ | refine E_blk_n ?_ | refine E_blk_x ?_ | refine E_blk_o rfl ?_ | refine E_blk_r ?_) | (refine st ?_ rfl; (first | refine OP_move rfl ?_ | refine OP_assign rfl ?_ )))
    exact E_end_r rfl ⟨ho, he⟩
end Go.Proofs.YtfjcmolccckhhaaGreatDoor

namespace Go.Proofs.YtfjcmolccckhhaaGreatDoor
open Go Go.RowKit Go.Eng
set_option linter.unusedVariables false
attribute [local irreducible] FW RL OP DR thn blk endp endg Calls
def KT (w : World) : Prop := ∀ j, j < 64 → w.cell? ⟨0, 0 + j, none⟩ = some (wordV (k256.getD j 0))
theorem KT.ext {w w' : World} (h : KT w) (he : Ext w w') : KT w' := fun j hj => cell_ext (h j hj) he
theorem KT.grown {w w' : World} {b : Nat} (h : KT w) (hg : w.grownBy w' (some b)) (hb : b ≠ 0) : KT w' := fun j hj => cell_grown (h j hj) hg (fun e => hb (Option.some.inj e))
theorem KT.lt {w : World} (h : KT w) : 0 < w.heap.size := World.block_lt_of_cell? w _ (h 0 (by omega))
theorem at64 : ArrT Tryz.prog 245 64 159 := ⟨Tryz.underlying245, by kernel_rfl⟩
theorem at80 : ArrT Tryz.prog 263 80 159 := ⟨Tryz.underlying263, by kernel_rfl⟩
theorem at8 : ArrT Tryz.prog 241 8 159 := ⟨Tryz.underlying241, by kernel_rfl⟩
theorem at5 : ArrT Tryz.prog 236 5 159 := ⟨Tryz.underlying236, by kernel_rfl⟩
theorem s32 : (Tryz.prog.info? 159).map (·.size) = some 1 := by kernel_rfl
theorem z64 : (Tryz.prog.info? 245).map (·.zero) = some (some (.agg (Array.replicate 64 (.int .u32 0)))) := by kernel_rfl
theorem z80 : (Tryz.prog.info? 263).map (·.zero) = some (some (.agg (Array.replicate 80 (.int .u32 0)))) := by kernel_rfl
theorem z8 : (Tryz.prog.info? 241).map (·.zero) = some (some (.agg (Array.replicate 8 (.int .u32 0)))) := by kernel_rfl
theorem z5 : (Tryz.prog.info? 236).map (·.zero) = some (some (.agg (Array.replicate 5 (.int .u32 0)))) := by kernel_rfl
theorem n64 : (Tryz.prog.info? 245).map (·.size) = some 64 := by kernel_rfl
theorem n8 : (Tryz.prog.info? 241).map (·.size) = some 8 := by kernel_rfl
theorem n5 : (Tryz.prog.info? 236).map (·.size) = some 5 := by kernel_rfl
theorem zero_words {w : World} {b n : Nat} (h : Blk w b (Value.agg (Array.replicate n (.int .u32 0))).cells.toList) : BlkW w b (List.replicate n 0) := by
  unfold BlkW; rw [List.map_replicate, show wordV 0 = .int .u32 0 from rfl]; simpa [Value.cells] using h
theorem ent_rot : Ent Tryz.prog 270 := Ent.mk Tryz.func270 (by kernel_rfl) rfl
theorem ent_rotr : Ent Tryz.prog 228 := Ent.mk Tryz.func228 (by kernel_rfl) rfl
theorem ent_word : Ent Tryz.prog 269 := Ent.mk Tryz.func269 (by kernel_rfl) rfl
theorem ent_rword : Ent Tryz.prog 227 := Ent.mk Tryz.func227 (by kernel_rfl) rfl
theorem rm7 (x : UInt32) (w : World) : Calls Tryz.prog 270 #[wordV x, .int .i64 (-7)] w (Ret fun v w' => v = wordV (ror x 7) ∧ w = w') := by rw [← rol_ror x 25 7 (by decide)]; exact rot_any x (-7) 25 w (by decide) rfl
theorem rm18 (x : UInt32) (w : World) : Calls Tryz.prog 270 #[wordV x, .int .i64 (-18)] w (Ret fun v w' => v = wordV (ror x 18) ∧ w = w') := by rw [← rol_ror x 14 18 (by decide)]; exact rot_any x (-18) 14 w (by decide) rfl
theorem rm17 (x : UInt32) (w : World) : Calls Tryz.prog 270 #[wordV x, .int .i64 (-17)] w (Ret fun v w' => v = wordV (ror x 17) ∧ w = w') := by rw [← rol_ror x 15 17 (by decide)]; exact rot_any x (-17) 15 w (by decide) rfl
theorem rm19 (x : UInt32) (w : World) : Calls Tryz.prog 270 #[wordV x, .int .i64 (-19)] w (Ret fun v w' => v = wordV (ror x 19) ∧ w = w') := by rw [← rol_ror x 13 19 (by decide)]; exact rot_any x (-19) 13 w (by decide) rfl
theorem rm6 (x : UInt32) (w : World) : Calls Tryz.prog 270 #[wordV x, .int .i64 (-6)] w (Ret fun v w' => v = wordV (ror x 6) ∧ w = w') := by rw [← rol_ror x 26 6 (by decide)]; exact rot_any x (-6) 26 w (by decide) rfl
theorem rm11 (x : UInt32) (w : World) : Calls Tryz.prog 270 #[wordV x, .int .i64 (-11)] w (Ret fun v w' => v = wordV (ror x 11) ∧ w = w') := by rw [← rol_ror x 21 11 (by decide)]; exact rot_any x (-11) 21 w (by decide) rfl
theorem rm25 (x : UInt32) (w : World) : Calls Tryz.prog 270 #[wordV x, .int .i64 (-25)] w (Ret fun v w' => v = wordV (ror x 25) ∧ w = w') := by rw [← rol_ror x 7 25 (by decide)]; exact rot_any x (-25) 7 w (by decide) rfl
theorem rm2 (x : UInt32) (w : World) : Calls Tryz.prog 270 #[wordV x, .int .i64 (-2)] w (Ret fun v w' => v = wordV (ror x 2) ∧ w = w') := by rw [← rol_ror x 30 2 (by decide)]; exact rot_any x (-2) 30 w (by decide) rfl
theorem rm13 (x : UInt32) (w : World) : Calls Tryz.prog 270 #[wordV x, .int .i64 (-13)] w (Ret fun v w' => v = wordV (ror x 13) ∧ w = w') := by rw [← rol_ror x 19 13 (by decide)]; exact rot_any x (-13) 19 w (by decide) rfl
theorem rm22 (x : UInt32) (w : World) : Calls Tryz.prog 270 #[wordV x, .int .i64 (-22)] w (Ret fun v w' => v = wordV (ror x 22) ∧ w = w') := by rw [← rol_ror x 10 22 (by decide)]; exact rot_any x (-22) 10 w (by decide) rfl
theorem rp1 (x : UInt32) (w : World) : Calls Tryz.prog 270 #[wordV x, .int .i64 1] w (Ret fun v w' => v = wordV (rol x 1) ∧ w = w') := rot_any x 1 1 w (by decide) rfl
theorem rp5 (x : UInt32) (w : World) : Calls Tryz.prog 270 #[wordV x, .int .i64 5] w (Ret fun v w' => v = wordV (rol x 5) ∧ w = w') := rot_any x 5 5 w (by decide) rfl
theorem rp30 (x : UInt32) (w : World) : Calls Tryz.prog 270 #[wordV x, .int .i64 30] w (Ret fun v w' => v = wordV (rol x 30) ∧ w = w') := rot_any x 30 30 w (by decide) rfl
theorem rr7 (x : UInt32) (w : World) : Calls Tryz.prog 228 #[wordV x, .int .u64 7] w (Ret fun v w' => v = wordV (ror x 7) ∧ w = w') := ref_rotr x 7 w (by decide)
theorem rr18 (x : UInt32) (w : World) : Calls Tryz.prog 228 #[wordV x, .int .u64 18] w (Ret fun v w' => v = wordV (ror x 18) ∧ w = w') := ref_rotr x 18 w (by decide)
theorem rr17 (x : UInt32) (w : World) : Calls Tryz.prog 228 #[wordV x, .int .u64 17] w (Ret fun v w' => v = wordV (ror x 17) ∧ w = w') := ref_rotr x 17 w (by decide)
theorem rr19 (x : UInt32) (w : World) : Calls Tryz.prog 228 #[wordV x, .int .u64 19] w (Ret fun v w' => v = wordV (ror x 19) ∧ w = w') := ref_rotr x 19 w (by decide)
theorem rr6 (x : UInt32) (w : World) : Calls Tryz.prog 228 #[wordV x, .int .u64 6] w (Ret fun v w' => v = wordV (ror x 6) ∧ w = w') := ref_rotr x 6 w (by decide)
theorem rr11 (x : UInt32) (w : World) : Calls Tryz.prog 228 #[wordV x, .int .u64 11] w (Ret fun v w' => v = wordV (ror x 11) ∧ w = w') := ref_rotr x 11 w (by decide)
theorem rr25 (x : UInt32) (w : World) : Calls Tryz.prog 228 #[wordV x, .int .u64 25] w (Ret fun v w' => v = wordV (ror x 25) ∧ w = w') := ref_rotr x 25 w (by decide)
theorem rr2 (x : UInt32) (w : World) : Calls Tryz.prog 228 #[wordV x, .int .u64 2] w (Ret fun v w' => v = wordV (ror x 2) ∧ w = w') := ref_rotr x 2 w (by decide)
theorem rr13 (x : UInt32) (w : World) : Calls Tryz.prog 228 #[wordV x, .int .u64 13] w (Ret fun v w' => v = wordV (ror x 13) ∧ w = w') := ref_rotr x 13 w (by decide)
theorem rr22 (x : UInt32) (w : World) : Calls Tryz.prog 228 #[wordV x, .int .u64 22] w (Ret fun v w' => v = wordV (ror x 22) ∧ w = w') := ref_rotr x 22 w (by decide)
set_option maxHeartbeats 8000000 in
theorem dig_comp256 (w : World) (b : Nat) (h : List UInt32) (v : Value) (l : List UInt8) (hK : KT w) (hb : BlkW w b h) (hh : h.length = 8) (hne : b ≠ 0) (hB : Bytes w v l) (hl : l.length = 64) (hvb : ∀ g, v.ownBlock = some g → g ≠ b) :
    Calls Tryz.prog 223 #[.pointer (some ⟨b, 0, none⟩), v] w (Ret fun r w' => BlkW w' b (comp256 h l) ∧ w.grownBy w' (some b)) := by
  refine calls_of_FW [.v (.pointer (some ⟨b, 0, none⟩)), .v v] Tryz.func223 rfl Tryz.ntmps223 rfl rfl ?_
  repeat (first | (first | refine FW_seq ?_ | refine FW_region ?_ | refine RL_nil ?_ | refine E_thn_n ?_ | refine FW_skip ?_ | refine FW_block ?_ | refine FW_exit ?_ | refine FW_ret ?_ | refine E_thn_x ?_ | refine E_thn_r ?_ | refine E_blk_n ?_ | refine E_blk_x ?_ | refine E_blk_o rfl ?_ | refine E_blk_r ?_) | (refine st ?_ rfl; (first | fail )))
  refine st (OP_alloc z64 fun bw w1 hw1 hbw he1 => ?_) rfl
  have hw1 := zero_words hw1
  repeat (first | (first | refine FW_seq ?_ | refine FW_region ?_ | refine RL_nil ?_ | refine E_thn_n ?_ | refine FW_skip ?_ | refine FW_block ?_ | refine FW_exit ?_ | refine FW_ret ?_ | refine E_thn_x ?_ | refine E_thn_r ?_ | refine E_blk_n ?_ | refine E_blk_x ?_ | refine E_blk_o rfl ?_ | refine E_blk_r ?_) | (refine st ?_ rfl; (first | refine OP_move rfl ?_ )))
  have e2 : w.heap.size ≤ w1.heap.size := he1.size
  -- the schedule
  refine FW_loop2 (fun (t : Nat) (_ : Unit) => [(0, .v (.pointer (some ⟨b, 0, none⟩))), (1, .v v), (4, .v (.pointer (some ⟨bw, 0, none⟩))), (17, .v (.int .i64 (t : Int)))])
    (fun t _ w' => t ≤ 64 ∧ BlkW w' bw (sch256 l t ++ List.replicate (64 - t) 0) ∧ Ext w w') (fun t _ => 64 - t) 0 () ⟨rfl, rfl, rfl, rfl, trivial⟩ ⟨by omega, hw1, he1⟩ ?_
  rintro t _ wr ⟨ht, hw, he⟩
  repeat (first | (first | refine FW_seq ?_ | refine FW_region ?_ | refine RL_nil ?_ | refine E_thn_n ?_ | refine FW_skip ?_ | refine FW_block ?_ | refine FW_exit ?_ | refine FW_ret ?_ | refine E_thn_x ?_ | refine E_thn_r ?_ | refine E_blk_n ?_ | refine E_blk_x ?_ | refine E_blk_o rfl ?_ | refine E_blk_r ?_) | (refine st ?_ rfl; (first | refine OP_cmp rfl rfl rfl rfl rfl ?_ )))
  refine FW_cond rfl (fun hc => ?_) (fun hc => ?_)
  · simp only [cmpB, decide_eq_true_eq] at hc
    have hlen : (sch256 l t).length = t := sch256_len l t
    obtain ⟨ws, hws⟩ : ∃ ws, ws = sch256 l t ++ List.replicate (64 - t) 0 := ⟨_, rfl⟩
    have hwl : ws.length = 64 := by rw [hws]; simp [hlen]; omega
    rw [← hws] at hw
    repeat (first | (first | refine FW_seq ?_ | refine FW_region ?_ | refine RL_nil ?_ | refine E_thn_n ?_ | refine FW_skip ?_ | refine FW_block ?_ | refine FW_exit ?_ | refine FW_ret ?_ | refine E_thn_x ?_ | refine E_thn_r ?_ | refine E_blk_n ?_ | refine E_blk_x ?_ | refine E_blk_o rfl ?_ | refine E_blk_r ?_) | (refine st ?_ rfl; (first | refine OP_move rfl ?_ | refine OP_assign rfl ?_ | refine OP_cmp rfl rfl rfl rfl rfl ?_ )))
    refine FW_cond rfl (fun hc2 => ?_) (fun hc2 => ?_)
    · simp only [cmpB, decide_eq_true_eq] at hc2
      repeat (first | (first | refine FW_seq ?_ | refine FW_region ?_ | refine RL_nil ?_ | refine E_thn_n ?_ | refine FW_skip ?_ | refine FW_block ?_ | refine FW_exit ?_ | refine FW_ret ?_ | refine E_thn_x ?_ | refine E_thn_r ?_ | refine E_blk_n ?_ | refine E_blk_x ?_ | refine E_blk_o rfl ?_ | refine E_blk_r ?_) | (refine st ?_ rfl; (first | refine OP_move rfl ?_ )))
      refine st (OP_call32 ent_word rfl (dig_word wr v l _ (hB.ext he) (by omega)) fun w2 he2 => ?_) rfl
      have hw2 := hw.ext he2
      refine st (OP_ixa at64 rfl rfl rfl (by omega) ?_) rfl
      refine st0 (OP_stw s32 rfl rfl hw2 (by omega) fun _ w3 hw3 hg3 => ?_)
      repeat (first | (first | refine FW_seq ?_ | refine FW_region ?_ | refine RL_nil ?_ | refine E_thn_n ?_ | refine FW_skip ?_ | refine FW_block ?_ | refine FW_exit ?_ | refine FW_ret ?_ | refine E_thn_x ?_ | refine E_thn_r ?_ | refine E_blk_n ?_ | refine E_blk_x ?_ | refine E_blk_o rfl ?_ | refine E_blk_r ?_) | (refine st ?_ rfl; (first | refine OP_move rfl ?_ | refine OP_add rfl rfl (by omega) ?_ )))
      refine ⟨t + 1, (), ⟨rfl, rfl, rfl, rfl, trivial⟩, ⟨by omega, ?_, ((he.trans he2).grown hg3 (fun k hk => by obtain rfl := Option.some.inj hk; exact hbw))⟩, by omega⟩
      have e : ((4 * (t : Int)).toNat) = 4 * t := by omega
      rw [hws, e, Int.toNat_natCast] at hw3
      have := set_snoc (sch256 l t) (64 - t) 0 (be32 l (4 * t)) (by omega)
      rw [hlen] at this
      rw [this] at hw3
      rw [sch256, next256, if_pos (by omega)]
      exact hw3
    · simp only [cmpB, decide_eq_false_iff_not] at hc2
      repeat (first | (first | refine FW_seq ?_ | refine FW_region ?_ | refine RL_nil ?_ | refine E_thn_n ?_ | refine FW_skip ?_ | refine FW_block ?_ | refine FW_exit ?_ | refine FW_ret ?_ | refine E_thn_x ?_ | refine E_thn_r ?_ | refine E_blk_n ?_ | refine E_blk_x ?_ | refine E_blk_o rfl ?_ | refine E_blk_r ?_) | (refine st ?_ rfl; (first | fail )))
      refine FW_draw mixed 10 (by kernel_rfl) ?_
      repeat (first | refine dr rfl (fun w_ he_ => OP_move rfl ⟨Ext.refl _, rfl⟩) ?_ | refine dr rfl (fun w_ he_ => OP_assign rfl ⟨Ext.refl _, rfl⟩) ?_ | refine dr rfl (fun w_ he_ => OP_sub rfl rfl (by omega) ⟨Ext.refl _, rfl⟩) ?_ | refine dr rfl (fun w_ he_ => OP_ixa (t := 245) at64 rfl rfl rfl (by omega) ⟨Ext.refl _, rfl⟩) ?_ | refine dr rfl (fun w_ he_ => OP_load (s := .u32 _) Tryz.underlying159 rfl rfl (BlkW.at (by assumption) he_ _ (by omega)) rfl ⟨Ext.refl _, rfl⟩) ?_ )
      refine dr_end fun w2 he2 => ?_
      have hw2 := hw.ext he2
      repeat (first | (first | (first | refine FW_seq ?_ | refine FW_region ?_ | refine RL_nil ?_ | refine E_thn_n ?_ | refine FW_skip ?_ | refine FW_block ?_ | refine FW_exit ?_ | refine FW_ret ?_ | refine E_thn_x ?_ | refine E_thn_r ?_ | refine E_blk_n ?_ | refine E_blk_x ?_ | refine E_blk_o rfl ?_ | refine E_blk_r ?_) | (refine st ?_ rfl; (first | refine OP_move rfl ?_ | refine OP_assign rfl ?_ | refine OP_b32 rfl rfl rfl ?_ | refine OP_shr32 rfl rfl rfl (by decide) ?_ ))) | (refine st ?_ rfl; (first | refine OP_call32s ent_rot rfl (rm7 _ _) ?_ | refine OP_call32s ent_rot rfl (rm18 _ _) ?_ | refine OP_call32s ent_rot rfl (rm17 _ _) ?_ | refine OP_call32s ent_rot rfl (rm19 _ _) ?_ )))
      refine FW_draw mixed 15 (by kernel_rfl) ?_
      repeat (first | refine dr rfl (fun w_ he_ => OP_move rfl ⟨Ext.refl _, rfl⟩) ?_ | refine dr rfl (fun w_ he_ => OP_sub rfl rfl (by omega) ⟨Ext.refl _, rfl⟩) ?_ | refine dr rfl (fun w_ he_ => OP_b32 rfl rfl rfl ⟨Ext.refl _, rfl⟩) ?_ | refine dr rfl (fun w_ he_ => OP_ixa (t := 245) at64 rfl rfl rfl (by omega) ⟨Ext.refl _, rfl⟩) ?_ | refine dr rfl (fun w_ he_ => OP_load (s := .u32 _) Tryz.underlying159 rfl rfl (BlkW.at (by assumption) he_ _ (by omega)) rfl ⟨Ext.refl _, rfl⟩) ?_ )
      refine dr_end fun w3 he3 => ?_
      have hw3 := hw2.ext he3
      refine st0 (OP_stw s32 rfl rfl hw3 (by omega) fun _ w4 hw4 hg4 => ?_)
      repeat (first | (first | refine FW_seq ?_ | refine FW_region ?_ | refine RL_nil ?_ | refine E_thn_n ?_ | refine FW_skip ?_ | refine FW_block ?_ | refine FW_exit ?_ | refine FW_ret ?_ | refine E_thn_x ?_ | refine E_thn_r ?_ | refine E_blk_n ?_ | refine E_blk_x ?_ | refine E_blk_o rfl ?_ | refine E_blk_r ?_) | (refine st ?_ rfl; (first | refine OP_move rfl ?_ | refine OP_add rfl rfl (by omega) ?_ )))
      refine ⟨t + 1, (), ⟨rfl, rfl, rfl, rfl, trivial⟩, ⟨by omega, ?_, (((he.trans he2).trans he3).grown hg4 (fun k hk => by obtain rfl := Option.some.inj hk; exact hbw))⟩, by omega⟩
      have g2 : ws.getD ((t : Int) - 2).toNat 0 = (sch256 l t).getD (t - 2) 0 := by rw [hws, show ((t : Int) - 2).toNat = t - 2 from by omega]; exact getD_left _ _ _ _ (by omega)
      have g7 : ws.getD ((t : Int) - 7).toNat 0 = (sch256 l t).getD (t - 7) 0 := by rw [hws, show ((t : Int) - 7).toNat = t - 7 from by omega]; exact getD_left _ _ _ _ (by omega)
      have g15 : ws.getD ((t : Int) - 15).toNat 0 = (sch256 l t).getD (t - 15) 0 := by rw [hws, show ((t : Int) - 15).toNat = t - 15 from by omega]; exact getD_left _ _ _ _ (by omega)
      have g16 : ws.getD ((t : Int) - 16).toNat 0 = (sch256 l t).getD (t - 16) 0 := by rw [hws, show ((t : Int) - 16).toNat = t - 16 from by omega]; exact getD_left _ _ _ _ (by omega)
      rw [g2, g7, g15, g16, hws, Int.toNat_natCast] at hw4
      have hsn := set_snoc (sch256 l t) (64 - t) 0 (next256 l (sch256 l t) t) (by omega)
      rw [hlen] at hsn
      rw [next256, if_neg (by omega)] at hsn
      rw [sch256, next256, if_neg (by omega), show 64 - (t + 1) = 64 - t - 1 from by omega, ← hsn]
      exact hw4
  · simp only [cmpB, decide_eq_false_iff_not] at hc
    have ht64 : t = 64 := by omega
    subst ht64
    simp only [Nat.sub_self, List.replicate_zero, List.append_nil] at hw
    clear hw1 hc ht e2
    have hbr := hb.ext he
    have hKr := hK.ext he
    repeat (first | (first | refine FW_seq ?_ | refine FW_region ?_ | refine RL_nil ?_ | refine E_thn_n ?_ | refine FW_skip ?_ | refine FW_block ?_ | refine FW_exit ?_ | refine FW_ret ?_ | refine E_thn_x ?_ | refine E_thn_r ?_ | refine E_blk_n ?_ | refine E_blk_x ?_ | refine E_blk_o rfl ?_ | refine E_blk_r ?_) | (refine st ?_ rfl; (first | refine OP_move rfl ?_ | refine OP_nilCheck rfl ?_ )))
    refine st (OP_loada (t := 241) Tryz.underlying241 rfl n8 rfl hbr (by simp [hh]) ?_) rfl
    refine st (OP_alloc z8 fun bs w2 hs2 hbs he2 => ?_) rfl
    have hs2 := zero_words hs2
    refine st0 (OP_storea (d := .bool) n8 rfl rfl (Hold.one wordV_1 h) hs2 (by simp) (by simp [hh]) fun _ w3 hs3 hg3 => ?_)
    have he3 : Ext w w3 := (he.trans he2).grown hg3 (fun k hk => by obtain rfl := Option.some.inj hk; exact Nat.le_trans he.size hbs)
    have hbsw : w.heap.size ≤ bs := Nat.le_trans he.size hbs
    have hne2 : bw ≠ bs := by have := hw.lt; omega
    have hw3 : BlkW w3 bw (sch256 l 64) := (hw.ext he2).grown hg3 (fun e => hne2 (Option.some.inj e).symm)
    repeat (first | (first | refine FW_seq ?_ | refine FW_region ?_ | refine RL_nil ?_ | refine E_thn_n ?_ | refine FW_skip ?_ | refine FW_block ?_ | refine FW_exit ?_ | refine FW_ret ?_ | refine E_thn_x ?_ | refine E_thn_r ?_ | refine E_blk_n ?_ | refine E_blk_x ?_ | refine E_blk_o rfl ?_ | refine E_blk_r ?_) | (refine st ?_ rfl; (first | refine OP_move rfl ?_ )))
    refine FW_loop2 (fun (t : Nat) (_ : Unit) => [(0, .v (.pointer (some ⟨b, 0, none⟩))), (4, .v (.pointer (some ⟨bw, 0, none⟩))), (10, .v (.pointer (some ⟨bs, 0, none⟩))), (70, .v (.int .i64 (t : Int)))])
      (fun t _ w' => t ≤ 64 ∧ BlkW w' bw (sch256 l 64) ∧ BlkW w' bs (rnds256 (sch256 l 64) h t) ∧ Ext w w') (fun t _ => 64 - t) 0 () ⟨rfl, rfl, rfl, rfl, trivial⟩ ⟨by omega, hw3, hs3, he3⟩ ?_
    clear hw hbr hKr he hw3 hs3 he3 hg3 hs2 he2
    rintro t _ wr ⟨ht, hw, hs, he⟩
    have hKr := hK.ext he
    have hwl : (sch256 l 64).length = 64 := sch256_len l 64
    obtain ⟨ws, hws⟩ : ∃ ws, ws = sch256 l 64 := ⟨_, rfl⟩
    rw [← hws] at hw hs hwl ⊢
    have hsl : (rnds256 ws h t).length = 8 := rnds256_len ws h hh t
    obtain ⟨s, hsd⟩ : ∃ s, s = rnds256 ws h t := ⟨_, rfl⟩
    rw [← hsd] at hs hsl
    repeat (first | (first | refine FW_seq ?_ | refine FW_region ?_ | refine RL_nil ?_ | refine E_thn_n ?_ | refine FW_skip ?_ | refine FW_block ?_ | refine FW_exit ?_ | refine FW_ret ?_ | refine E_thn_x ?_ | refine E_thn_r ?_ | refine E_blk_n ?_ | refine E_blk_x ?_ | refine E_blk_o rfl ?_ | refine E_blk_r ?_) | (refine st ?_ rfl; (first | refine OP_cmp rfl rfl rfl rfl rfl ?_ )))
    refine FW_cond rfl (fun hc => ?_) (fun hc => ?_)
    · simp only [cmpB, decide_eq_true_eq] at hc
      repeat (first | (first | refine FW_seq ?_ | refine FW_region ?_ | refine RL_nil ?_ | refine E_thn_n ?_ | refine FW_skip ?_ | refine FW_block ?_ | refine FW_exit ?_ | refine FW_ret ?_ | refine E_thn_x ?_ | refine E_thn_r ?_ | refine E_blk_n ?_ | refine E_blk_x ?_ | refine E_blk_o rfl ?_ | refine E_blk_r ?_) | (refine st ?_ rfl; (first | refine OP_move rfl ?_ | refine OP_assign rfl ?_ )))
      refine FW_draw mixed 6 (by kernel_rfl) ?_
      repeat (first | refine dr rfl (fun w_ he_ => OP_assign rfl ⟨Ext.refl _, rfl⟩) ?_ | refine dr rfl (fun w_ he_ => OP_ixa (t := 241) at8 rfl rfl rfl (by omega) ⟨Ext.refl _, rfl⟩) ?_ | refine dr rfl (fun w_ he_ => OP_load (s := .u32 _) Tryz.underlying159 rfl rfl (BlkW.at (by assumption) he_ _ (by omega)) rfl ⟨Ext.refl _, rfl⟩) ?_ )
      refine dr_end fun w2 he2 => ?_
      have hw2 := hw.ext he2
      have hs2 := hs.ext he2
      have hK2 := hKr.ext he2
      repeat (first | (first | refine FW_seq ?_ | refine FW_region ?_ | refine RL_nil ?_ | refine E_thn_n ?_ | refine FW_skip ?_ | refine FW_block ?_ | refine FW_exit ?_ | refine FW_ret ?_ | refine E_thn_x ?_ | refine E_thn_r ?_ | refine E_blk_n ?_ | refine E_blk_x ?_ | refine E_blk_o rfl ?_ | refine E_blk_r ?_) | (refine st ?_ rfl; (first | fail )))
      clear hw hs hKr
      refine FW_draw mixed 31 (by kernel_rfl) ?_
      repeat (first | (first | refine dr rfl (fun w_ he_ => OP_move rfl ⟨Ext.refl _, rfl⟩) ?_ | refine dr rfl (fun w_ he_ => OP_assign rfl ⟨Ext.refl _, rfl⟩) ?_ | refine dr rfl (fun w_ he_ => OP_b32 rfl rfl rfl ⟨Ext.refl _, rfl⟩) ?_ | refine dr rfl (fun w_ he_ => OP_xor32 rfl ⟨Ext.refl _, rfl⟩) ?_ | refine dr rfl (fun w_ he_ => OP_ixa (t := 245) at64 rfl rfl rfl (by omega) ⟨Ext.refl _, rfl⟩) ?_ | refine dr rfl (fun w_ he_ => OP_ixa (t := 241) at8 rfl rfl rfl (by omega) ⟨Ext.refl _, rfl⟩) ?_ | refine dr rfl (fun w_ he_ => OP_load (s := .u32 _) Tryz.underlying159 rfl rfl (BlkW.at (by assumption) he_ _ (by omega)) rfl ⟨Ext.refl _, rfl⟩) ?_ | refine dr rfl (fun w_ he_ => OP_load (s := .u32 _) Tryz.underlying159 rfl rfl (KT.ext (by assumption) he_ _ (by omega)) rfl ⟨Ext.refl _, rfl⟩) ?_ ) | refine dr rfl (fun w_ he_ => OP_call32s ent_rot rfl (rm6 _ _) ⟨Ext.refl _, rfl⟩) ?_ | refine dr rfl (fun w_ he_ => OP_call32s ent_rot rfl (rm11 _ _) ⟨Ext.refl _, rfl⟩) ?_ | refine dr rfl (fun w_ he_ => OP_call32s ent_rot rfl (rm25 _ _) ⟨Ext.refl _, rfl⟩) ?_ )
      refine dr_end fun w3 he3 => ?_
      have hw3 := hw2.ext he3
      have hs3 := hs2.ext he3
      clear hw2 hs2 hK2
      repeat (first | (first | refine FW_seq ?_ | refine FW_region ?_ | refine RL_nil ?_ | refine E_thn_n ?_ | refine FW_skip ?_ | refine FW_block ?_ | refine FW_exit ?_ | refine FW_ret ?_ | refine E_thn_x ?_ | refine E_thn_r ?_ | refine E_blk_n ?_ | refine E_blk_x ?_ | refine E_blk_o rfl ?_ | refine E_blk_r ?_) | (refine st ?_ rfl; (first | fail )))
      refine FW_draw mixed 25 (by kernel_rfl) ?_
      repeat (first | (first | refine dr rfl (fun w_ he_ => OP_move rfl ⟨Ext.refl _, rfl⟩) ?_ | refine dr rfl (fun w_ he_ => OP_assign rfl ⟨Ext.refl _, rfl⟩) ?_ | refine dr rfl (fun w_ he_ => OP_b32 rfl rfl rfl ⟨Ext.refl _, rfl⟩) ?_ | refine dr rfl (fun w_ he_ => OP_ixa (t := 241) at8 rfl rfl rfl (by omega) ⟨Ext.refl _, rfl⟩) ?_ | refine dr rfl (fun w_ he_ => OP_load (s := .u32 _) Tryz.underlying159 rfl rfl (BlkW.at (by assumption) he_ _ (by omega)) rfl ⟨Ext.refl _, rfl⟩) ?_ ) | refine dr rfl (fun w_ he_ => OP_call32s ent_rot rfl (rm2 _ _) ⟨Ext.refl _, rfl⟩) ?_ | refine dr rfl (fun w_ he_ => OP_call32s ent_rot rfl (rm13 _ _) ⟨Ext.refl _, rfl⟩) ?_ | refine dr rfl (fun w_ he_ => OP_call32s ent_rot rfl (rm22 _ _) ⟨Ext.refl _, rfl⟩) ?_ )
      refine dr_end fun w4 he4 => ?_
      have hw4 := hw3.ext he4
      have hs4 := hs3.ext he4
      clear hw3 hs3
      repeat (first | (first | refine FW_seq ?_ | refine FW_region ?_ | refine RL_nil ?_ | refine E_thn_n ?_ | refine FW_skip ?_ | refine FW_block ?_ | refine FW_exit ?_ | refine FW_ret ?_ | refine E_thn_x ?_ | refine E_thn_r ?_ | refine E_blk_n ?_ | refine E_blk_x ?_ | refine E_blk_o rfl ?_ | refine E_blk_r ?_) | (refine st ?_ rfl; (first | refine OP_move rfl ?_ | refine OP_b32 rfl rfl rfl ?_ | refine OP_load (s := .u32 _) (t := 159) Tryz.underlying159 rfl rfl (BlkW.at (by assumption) (Ext.refl _) _ (by omega)) rfl ?_ | refine OP_ixa (t := 241) at8 rfl rfl rfl (by omega) ?_ )))
      refine st (OP_bw at8 z8 rfl rfl rfl ?_) rfl
      refine st0 (OP_stws n8 rfl rfl hs4 hsl rfl fun _ w5 hs5 hg5 => ?_)
      repeat (first | (first | refine FW_seq ?_ | refine FW_region ?_ | refine RL_nil ?_ | refine E_thn_n ?_ | refine FW_skip ?_ | refine FW_block ?_ | refine FW_exit ?_ | refine FW_ret ?_ | refine E_thn_x ?_ | refine E_thn_r ?_ | refine E_blk_n ?_ | refine E_blk_x ?_ | refine E_blk_o rfl ?_ | refine E_blk_r ?_) | (refine st ?_ rfl; (first | refine OP_move rfl ?_ | refine OP_add rfl rfl (by omega) ?_ )))
      refine ⟨t + 1, (), ⟨rfl, rfl, rfl, rfl, trivial⟩, ⟨by omega, Blk.grown hw4 hg5 (fun e => hne2 (Option.some.inj e).symm), ?_, ((((he.trans he2).trans he3).trans he4).grown hg5 (fun k hk => by obtain rfl := Option.some.inj hk; exact hbsw))⟩, by omega⟩
      show BlkW w5 bs (rnd256 (k256.getD t 0) (ws.getD t 0) (rnds256 ws h t))
      rw [← hsd]
      exact hs5
    · simp only [cmpB, decide_eq_false_iff_not] at hc
      have ht64 : t = 64 := by omega
      subst ht64
      clear hc ht hw hKr hwl
      have hbr := hb.ext he
      have hbl := hb.lt
      repeat (first | (first | refine FW_seq ?_ | refine FW_region ?_ | refine RL_nil ?_ | refine E_thn_n ?_ | refine FW_skip ?_ | refine FW_block ?_ | refine FW_exit ?_ | refine FW_ret ?_ | refine E_thn_x ?_ | refine E_thn_r ?_ | refine E_blk_n ?_ | refine E_blk_x ?_ | refine E_blk_o rfl ?_ | refine E_blk_r ?_) | (refine st ?_ rfl; (first | refine OP_move rfl ?_ )))
      -- the sum
      refine FW_loop2 (fun (i : Nat) (_ : Unit) => [(0, .v (.pointer (some ⟨b, 0, none⟩))), (10, .v (.pointer (some ⟨bs, 0, none⟩))), (152, .v (.int .i64 (i : Int)))])
        (fun i _ w' => i ≤ 8 ∧ BlkW w' b (addl h s i) ∧ BlkW w' bs s ∧ w.grownBy w' (some b)) (fun i _ => 8 - i) 0 () ⟨rfl, rfl, rfl, trivial⟩ ⟨by omega, by simpa [addl] using hbr, hs, grownBy.of_ext he _⟩ ?_
      clear hs he hbr wr
      rintro i _ wr ⟨hi, ha, hs, hg⟩
      repeat (first | (first | refine FW_seq ?_ | refine FW_region ?_ | refine RL_nil ?_ | refine E_thn_n ?_ | refine FW_skip ?_ | refine FW_block ?_ | refine FW_exit ?_ | refine FW_ret ?_ | refine E_thn_x ?_ | refine E_thn_r ?_ | refine E_blk_n ?_ | refine E_blk_x ?_ | refine E_blk_o rfl ?_ | refine E_blk_r ?_) | (refine st ?_ rfl; (first | refine OP_cmp rfl rfl rfl rfl rfl ?_ )))
      refine FW_cond rfl (fun hc => ?_) (fun hc => ?_)
      · simp only [cmpB, decide_eq_true_eq] at hc
        have hal : (addl h s i).length = 8 := by rw [addl_len h s i (by omega) (by omega)]; exact hh
        have hag := addl_get h s i (by omega) (by omega)
        have has := addl_set h s i (by omega) (by omega)
        obtain ⟨q, hq⟩ : ∃ q, q = addl h s i := ⟨_, rfl⟩
        rw [← hq] at ha hal hag has
        repeat (first | (first | refine FW_seq ?_ | refine FW_region ?_ | refine RL_nil ?_ | refine E_thn_n ?_ | refine FW_skip ?_ | refine FW_block ?_ | refine FW_exit ?_ | refine FW_ret ?_ | refine E_thn_x ?_ | refine E_thn_r ?_ | refine E_blk_n ?_ | refine E_blk_x ?_ | refine E_blk_o rfl ?_ | refine E_blk_r ?_) | (refine st ?_ rfl; (first | refine OP_move rfl ?_ | refine OP_assign rfl ?_ )))
        refine FW_draw mixed 11 (by kernel_rfl) ?_
        repeat (first | refine dr rfl (fun w_ he_ => OP_move rfl ⟨Ext.refl _, rfl⟩) ?_ | refine dr rfl (fun w_ he_ => OP_b32 rfl rfl rfl ⟨Ext.refl _, rfl⟩) ?_ | refine dr rfl (fun w_ he_ => OP_nilCheck rfl ⟨Ext.refl _, rfl⟩) ?_ | refine dr rfl (fun w_ he_ => OP_ixa (t := 241) at8 rfl rfl rfl (by omega) ⟨Ext.refl _, rfl⟩) ?_ | refine dr rfl (fun w_ he_ => OP_load (s := .u32 _) Tryz.underlying159 rfl rfl (BlkW.at (by assumption) he_ _ (by omega)) rfl ⟨Ext.refl _, rfl⟩) ?_ )
        refine dr_end fun w2 he2 => ?_
        have ha2 := Blk.ext ha he2
        refine st0 (OP_stw s32 rfl rfl ha2 (by omega) fun _ w3 ha3 hg3 => ?_)
        repeat (first | (first | refine FW_seq ?_ | refine FW_region ?_ | refine RL_nil ?_ | refine E_thn_n ?_ | refine FW_skip ?_ | refine FW_block ?_ | refine FW_exit ?_ | refine FW_ret ?_ | refine E_thn_x ?_ | refine E_thn_r ?_ | refine E_blk_n ?_ | refine E_blk_x ?_ | refine E_blk_o rfl ?_ | refine E_blk_r ?_) | (refine st ?_ rfl; (first | refine OP_move rfl ?_ | refine OP_add rfl rfl (by omega) ?_ )))
        refine ⟨i + 1, (), ⟨rfl, rfl, rfl, trivial⟩, ⟨by omega, ?_, (hs.ext he2).grown hg3 (fun e => by have := Option.some.inj e; omega), Go.Eng.grownBy.trans (Go.Eng.grownBy.ext hg he2) hg3⟩, by omega⟩
        rw [← has]
        rw [Int.toNat_natCast, hag] at ha3
        exact ha3
      · simp only [cmpB, decide_eq_false_iff_not] at hc
        have : i = 8 := by omega
        subst this
        repeat (first | (first | refine FW_seq ?_ | refine FW_region ?_ | refine RL_nil ?_ | refine E_thn_n ?_ | refine FW_skip ?_ | refine FW_block ?_ | refine FW_exit ?_ | refine FW_ret ?_ | refine E_thn_x ?_ | refine E_thn_r ?_ | refine E_blk_n ?_ | refine E_blk_x ?_ | refine E_blk_o rfl ?_ | refine E_blk_r ?_) | (refine st ?_ rfl; (first | fail )))
        refine E_end_n rfl ⟨?_, hg⟩
        rw [comp256, ← hws, ← hsd]
        exact ha
end Go.Proofs.YtfjcmolccckhhaaGreatDoor

namespace Go.Proofs.YtfjcmolccckhhaaGreatDoor
open Go Go.RowKit Go.Eng
set_option linter.unusedVariables false
attribute [local irreducible] FW RL OP DR thn blk endp endg Calls
theorem sv32 {a b : UInt32} (h : a = b) : some (SV.u32 a) = some (SV.u32 b) := by rw [h]
theorem five (h : List UInt32) (hh : h.length = 5) : ∃ x0 x1 x2 x3 x4, h = [x0, x1, x2, x3, x4] := by
  match h, hh with
  | [x0, x1, x2, x3, x4], _ => exact ⟨x0, x1, x2, x3, x4, rfl⟩
set_option maxHeartbeats 8000000 in
theorem dig_comp1 (w : World) (b : Nat) (h : List UInt32) (v : Value) (l : List UInt8) (hb : BlkW w b h) (hh : h.length = 5) (hB : Bytes w v l) (hl : l.length = 64) :
    Calls Tryz.prog 221 #[.pointer (some ⟨b, 0, none⟩), v] w (Ret fun r w' => BlkW w' b (comp1 h l) ∧ w.grownBy w' (some b)) := by
  refine calls_of_FW [.v (.pointer (some ⟨b, 0, none⟩)), .v v] Tryz.func221 rfl Tryz.ntmps221 rfl rfl ?_
  repeat (first | (first | refine FW_seq ?_ | refine FW_region ?_ | refine RL_nil ?_ | refine E_thn_n ?_ | refine FW_skip ?_ | refine FW_block ?_ | refine FW_exit ?_ | refine FW_ret ?_ | refine E_thn_x ?_ | refine E_thn_r ?_ | refine E_blk_n ?_ | refine E_blk_x ?_ | refine E_blk_o rfl ?_ | refine E_blk_r ?_) | (refine st ?_ rfl; (first | fail )))
  refine st (OP_alloc z80 fun bw w1 hw1 hbw he1 => ?_) rfl
  have hw1 := zero_words hw1
  repeat (first | (first | refine FW_seq ?_ | refine FW_region ?_ | refine RL_nil ?_ | refine E_thn_n ?_ | refine FW_skip ?_ | refine FW_block ?_ | refine FW_exit ?_ | refine FW_ret ?_ | refine E_thn_x ?_ | refine E_thn_r ?_ | refine E_blk_n ?_ | refine E_blk_x ?_ | refine E_blk_o rfl ?_ | refine E_blk_r ?_) | (refine st ?_ rfl; (first | refine OP_move rfl ?_ )))
  refine FW_loop2 (fun (t : Nat) (_ : Unit) => [(0, .v (.pointer (some ⟨b, 0, none⟩))), (1, .v v), (4, .v (.pointer (some ⟨bw, 0, none⟩))), (14, .v (.int .i64 (t : Int)))])
    (fun t _ w' => t ≤ 80 ∧ BlkW w' bw (sch1 l t ++ List.replicate (80 - t) 0) ∧ Ext w w') (fun t _ => 80 - t) 0 () ⟨rfl, rfl, rfl, rfl, trivial⟩ ⟨by omega, hw1, he1⟩ ?_
  rintro t _ wr ⟨ht, hw, he⟩
  repeat (first | (first | refine FW_seq ?_ | refine FW_region ?_ | refine RL_nil ?_ | refine E_thn_n ?_ | refine FW_skip ?_ | refine FW_block ?_ | refine FW_exit ?_ | refine FW_ret ?_ | refine E_thn_x ?_ | refine E_thn_r ?_ | refine E_blk_n ?_ | refine E_blk_x ?_ | refine E_blk_o rfl ?_ | refine E_blk_r ?_) | (refine st ?_ rfl; (first | refine OP_cmp rfl rfl rfl rfl rfl ?_ )))
  refine FW_cond rfl (fun hc => ?_) (fun hc => ?_)
  · simp only [cmpB, decide_eq_true_eq] at hc
    have hlen : (sch1 l t).length = t := sch1_len l t
    obtain ⟨ws, hws⟩ : ∃ ws, ws = sch1 l t ++ List.replicate (80 - t) 0 := ⟨_, rfl⟩
    have hwl : ws.length = 80 := by rw [hws]; simp [hlen]; omega
    rw [← hws] at hw
    repeat (first | (first | refine FW_seq ?_ | refine FW_region ?_ | refine RL_nil ?_ | refine E_thn_n ?_ | refine FW_skip ?_ | refine FW_block ?_ | refine FW_exit ?_ | refine FW_ret ?_ | refine E_thn_x ?_ | refine E_thn_r ?_ | refine E_blk_n ?_ | refine E_blk_x ?_ | refine E_blk_o rfl ?_ | refine E_blk_r ?_) | (refine st ?_ rfl; (first | refine OP_move rfl ?_ | refine OP_assign rfl ?_ | refine OP_cmp rfl rfl rfl rfl rfl ?_ )))
    refine FW_cond rfl (fun hc2 => ?_) (fun hc2 => ?_)
    · simp only [cmpB, decide_eq_true_eq] at hc2
      repeat (first | (first | refine FW_seq ?_ | refine FW_region ?_ | refine RL_nil ?_ | refine E_thn_n ?_ | refine FW_skip ?_ | refine FW_block ?_ | refine FW_exit ?_ | refine FW_ret ?_ | refine E_thn_x ?_ | refine E_thn_r ?_ | refine E_blk_n ?_ | refine E_blk_x ?_ | refine E_blk_o rfl ?_ | refine E_blk_r ?_) | (refine st ?_ rfl; (first | refine OP_move rfl ?_ )))
      refine st (OP_call32 ent_word rfl (dig_word wr v l _ (hB.ext he) (by omega)) fun w2 he2 => ?_) rfl
      have hw2 := hw.ext he2
      refine st (OP_ixa at80 rfl rfl rfl (by omega) ?_) rfl
      refine st0 (OP_stw s32 rfl rfl hw2 (by omega) fun _ w3 hw3 hg3 => ?_)
      repeat (first | (first | refine FW_seq ?_ | refine FW_region ?_ | refine RL_nil ?_ | refine E_thn_n ?_ | refine FW_skip ?_ | refine FW_block ?_ | refine FW_exit ?_ | refine FW_ret ?_ | refine E_thn_x ?_ | refine E_thn_r ?_ | refine E_blk_n ?_ | refine E_blk_x ?_ | refine E_blk_o rfl ?_ | refine E_blk_r ?_) | (refine st ?_ rfl; (first | refine OP_move rfl ?_ | refine OP_add rfl rfl (by omega) ?_ )))
      refine ⟨t + 1, (), ⟨rfl, rfl, rfl, rfl, trivial⟩, ⟨by omega, ?_, ((he.trans he2).grown hg3 (fun k hk => by obtain rfl := Option.some.inj hk; exact hbw))⟩, by omega⟩
      have e : ((4 * (t : Int)).toNat) = 4 * t := by omega
      rw [hws, e, Int.toNat_natCast] at hw3
      have := set_snoc (sch1 l t) (80 - t) 0 (be32 l (4 * t)) (by omega)
      rw [hlen] at this
      rw [this] at hw3
      rw [sch1, next1, if_pos (by omega)]
      exact hw3
    · simp only [cmpB, decide_eq_false_iff_not] at hc2
      repeat (first | (first | refine FW_seq ?_ | refine FW_region ?_ | refine RL_nil ?_ | refine E_thn_n ?_ | refine FW_skip ?_ | refine FW_block ?_ | refine FW_exit ?_ | refine FW_ret ?_ | refine E_thn_x ?_ | refine E_thn_r ?_ | refine E_blk_n ?_ | refine E_blk_x ?_ | refine E_blk_o rfl ?_ | refine E_blk_r ?_) | (refine st ?_ rfl; (first | fail )))
      refine FW_draw mixed 22 (by kernel_rfl) ?_
      repeat (first | (first | refine dr rfl (fun w_ he_ => OP_move rfl ⟨Ext.refl _, rfl⟩) ?_ | refine dr rfl (fun w_ he_ => OP_sub rfl rfl (by omega) ⟨Ext.refl _, rfl⟩) ?_ | refine dr rfl (fun w_ he_ => OP_b32 rfl rfl rfl ⟨Ext.refl _, rfl⟩) ?_ | refine dr rfl (fun w_ he_ => OP_ixa (t := 263) at80 rfl rfl rfl (by omega) ⟨Ext.refl _, rfl⟩) ?_ | refine dr rfl (fun w_ he_ => OP_load (s := .u32 _) Tryz.underlying159 rfl rfl (BlkW.at (by assumption) he_ _ (by omega)) rfl ⟨Ext.refl _, rfl⟩) ?_ ) | refine dr rfl (fun w_ he_ => OP_call32s ent_rot rfl (rp1 _ _) ⟨Ext.refl _, rfl⟩) ?_ )
      refine dr_end fun w2 he2 => ?_
      have hw2 := hw.ext he2
      refine st0 (OP_stw s32 rfl rfl hw2 (by omega) fun _ w4 hw4 hg4 => ?_)
      repeat (first | (first | refine FW_seq ?_ | refine FW_region ?_ | refine RL_nil ?_ | refine E_thn_n ?_ | refine FW_skip ?_ | refine FW_block ?_ | refine FW_exit ?_ | refine FW_ret ?_ | refine E_thn_x ?_ | refine E_thn_r ?_ | refine E_blk_n ?_ | refine E_blk_x ?_ | refine E_blk_o rfl ?_ | refine E_blk_r ?_) | (refine st ?_ rfl; (first | refine OP_move rfl ?_ | refine OP_add rfl rfl (by omega) ?_ )))
      refine ⟨t + 1, (), ⟨rfl, rfl, rfl, rfl, trivial⟩, ⟨by omega, ?_, ((he.trans he2).grown hg4 (fun k hk => by obtain rfl := Option.some.inj hk; exact hbw))⟩, by omega⟩
      have g3 : ws.getD ((t : Int) - 3).toNat 0 = (sch1 l t).getD (t - 3) 0 := by rw [hws, show ((t : Int) - 3).toNat = t - 3 from by omega]; exact getD_left _ _ _ _ (by omega)
      have g8 : ws.getD ((t : Int) - 8).toNat 0 = (sch1 l t).getD (t - 8) 0 := by rw [hws, show ((t : Int) - 8).toNat = t - 8 from by omega]; exact getD_left _ _ _ _ (by omega)
      have g14 : ws.getD ((t : Int) - 14).toNat 0 = (sch1 l t).getD (t - 14) 0 := by rw [hws, show ((t : Int) - 14).toNat = t - 14 from by omega]; exact getD_left _ _ _ _ (by omega)
      have g16 : ws.getD ((t : Int) - 16).toNat 0 = (sch1 l t).getD (t - 16) 0 := by rw [hws, show ((t : Int) - 16).toNat = t - 16 from by omega]; exact getD_left _ _ _ _ (by omega)
      rw [g3, g8, g14, g16, hws, Int.toNat_natCast] at hw4
      have hsn := set_snoc (sch1 l t) (80 - t) 0 (next1 l (sch1 l t) t) (by omega)
      rw [hlen] at hsn
      rw [next1, if_neg (by omega)] at hsn
      rw [sch1, next1, if_neg (by omega), show 80 - (t + 1) = 80 - t - 1 from by omega, ← hsn]
      exact hw4
  · simp only [cmpB, decide_eq_false_iff_not] at hc
    have ht80 : t = 80 := by omega
    subst ht80
    simp only [Nat.sub_self, List.replicate_zero, List.append_nil] at hw
    clear hw1 hc ht
    have hbr := hb.ext he
    repeat (first | (first | refine FW_seq ?_ | refine FW_region ?_ | refine RL_nil ?_ | refine E_thn_n ?_ | refine FW_skip ?_ | refine FW_block ?_ | refine FW_exit ?_ | refine FW_ret ?_ | refine E_thn_x ?_ | refine E_thn_r ?_ | refine E_blk_n ?_ | refine E_blk_x ?_ | refine E_blk_o rfl ?_ | refine E_blk_r ?_) | (refine st ?_ rfl; (first | fail )))
    refine FW_draw mixed 25 (by kernel_rfl) ?_
    repeat (first | refine dr rfl (fun w_ he_ => OP_move rfl ⟨Ext.refl _, rfl⟩) ?_ | refine dr rfl (fun w_ he_ => OP_assign rfl ⟨Ext.refl _, rfl⟩) ?_ | refine dr rfl (fun w_ he_ => OP_nilCheck rfl ⟨Ext.refl _, rfl⟩) ?_ | refine dr rfl (fun w_ he_ => OP_ixa (t := 236) at5 rfl rfl rfl (by omega) ⟨Ext.refl _, rfl⟩) ?_ | refine dr rfl (fun w_ he_ => OP_load (s := .u32 _) Tryz.underlying159 rfl rfl (BlkW.at (by assumption) he_ _ (by omega)) rfl ⟨Ext.refl _, rfl⟩) ?_ )
    refine dr_end fun w2 he2 => ?_
    have hw2 := hw.ext he2
    have he2 := he.trans he2
    repeat (first | (first | refine FW_seq ?_ | refine FW_region ?_ | refine RL_nil ?_ | refine E_thn_n ?_ | refine FW_skip ?_ | refine FW_block ?_ | refine FW_exit ?_ | refine FW_ret ?_ | refine E_thn_x ?_ | refine E_thn_r ?_ | refine E_blk_n ?_ | refine E_blk_x ?_ | refine E_blk_o rfl ?_ | refine E_blk_r ?_) | (refine st ?_ rfl; (first | refine OP_move rfl ?_ )))
    refine FW_loop2 (fun (t : Nat) (_ : Unit) => [(0, .v (.pointer (some ⟨b, 0, none⟩))), (4, .v (.pointer (some ⟨bw, 0, none⟩))),
        (6, .u32 (rnds1 (sch1 l 80) ⟨h.getD 0 0, h.getD 1 0, h.getD 2 0, h.getD 3 0, h.getD 4 0⟩ t).a), (7, .u32 (rnds1 (sch1 l 80) ⟨h.getD 0 0, h.getD 1 0, h.getD 2 0, h.getD 3 0, h.getD 4 0⟩ t).b),
        (8, .u32 (rnds1 (sch1 l 80) ⟨h.getD 0 0, h.getD 1 0, h.getD 2 0, h.getD 3 0, h.getD 4 0⟩ t).c), (9, .u32 (rnds1 (sch1 l 80) ⟨h.getD 0 0, h.getD 1 0, h.getD 2 0, h.getD 3 0, h.getD 4 0⟩ t).d),
        (10, .u32 (rnds1 (sch1 l 80) ⟨h.getD 0 0, h.getD 1 0, h.getD 2 0, h.getD 3 0, h.getD 4 0⟩ t).e), (67, .v (.int .i64 (t : Int)))])
      (fun t _ w' => t ≤ 80 ∧ BlkW w' bw (sch1 l 80) ∧ Ext w w') (fun t _ => 80 - t) 0 () ⟨rfl, rfl, rfl, rfl, rfl, rfl, rfl, rfl, trivial⟩ ⟨by omega, hw2, he2⟩ ?_
    clear hw hbr hw2 he2 he
    rintro t _ wr ⟨ht, hw, he⟩
    have hwl : (sch1 l 80).length = 80 := sch1_len l 80
    obtain ⟨ws, hws⟩ : ∃ ws, ws = sch1 l 80 := ⟨_, rfl⟩
    rw [← hws] at hw hwl ⊢
    obtain ⟨s, hsd⟩ : ∃ s, s = rnds1 ws ⟨h.getD 0 0, h.getD 1 0, h.getD 2 0, h.getD 3 0, h.getD 4 0⟩ t := ⟨_, rfl⟩
    rw [← hsd]
    repeat (first | (first | refine FW_seq ?_ | refine FW_region ?_ | refine RL_nil ?_ | refine E_thn_n ?_ | refine FW_skip ?_ | refine FW_block ?_ | refine FW_exit ?_ | refine FW_ret ?_ | refine E_thn_x ?_ | refine E_thn_r ?_ | refine E_blk_n ?_ | refine E_blk_x ?_ | refine E_blk_o rfl ?_ | refine E_blk_r ?_) | (refine st ?_ rfl; (first | refine OP_cmp rfl rfl rfl rfl rfl ?_ )))
    refine FW_cond rfl (fun hc => ?_) (fun hc => ?_)
    · simp only [cmpB, decide_eq_true_eq] at hc
      have hq : ((t : Int) / 20 = 0 ↔ t < 20) ∧ ((t : Int) / 20 = 1 ↔ 20 ≤ t ∧ t < 40) ∧ ((t : Int) / 20 = 2 ↔ 40 ≤ t ∧ t < 60) := by omega
      repeat (first | (first | refine FW_region ?_ | refine RL_nil ?_ | refine E_thn_n ?_ | refine FW_skip ?_ | refine FW_block ?_ | refine FW_exit ?_ | refine FW_ret ?_ | refine E_thn_x ?_ | refine E_thn_r ?_ | refine E_blk_n ?_ | refine E_blk_x ?_ | refine E_blk_o rfl ?_ | refine E_blk_r ?_) | (refine st ?_ rfl; (first | fail )))
      refine FW_seq ?_
      repeat (first | (first | refine FW_region ?_ | refine RL_nil ?_ | refine E_thn_n ?_ | refine FW_skip ?_ | refine FW_block ?_ | refine FW_exit ?_ | refine FW_ret ?_ | refine E_thn_x ?_ | refine E_thn_r ?_ | refine E_blk_n ?_ | refine E_blk_x ?_ | refine E_blk_o rfl ?_ | refine E_blk_r ?_) | (refine st ?_ rfl; (first | fail )))
      refine FW_seq ?_
      repeat (first | (first | refine FW_region ?_ | refine RL_nil ?_ | refine E_thn_n ?_ | refine FW_skip ?_ | refine FW_block ?_ | refine FW_exit ?_ | refine FW_ret ?_ | refine E_thn_x ?_ | refine E_thn_r ?_ | refine E_blk_n ?_ | refine E_blk_x ?_ | refine E_blk_o rfl ?_ | refine E_blk_r ?_) | (refine st ?_ rfl; (first | refine OP_move rfl ?_ | refine OP_assign rfl ?_ )))
      refine FW_seq ?_
      repeat (first | (first | refine FW_region ?_ | refine RL_nil ?_ | refine E_thn_n ?_ | refine FW_skip ?_ | refine FW_block ?_ | refine FW_exit ?_ | refine FW_ret ?_ | refine E_thn_x ?_ | refine E_thn_r ?_ | refine E_blk_n ?_ | refine E_blk_x ?_ | refine E_blk_o rfl ?_ | refine E_blk_r ?_) | (refine st ?_ rfl; (first | refine OP_assign rfl ?_ )))
      refine FW_cut (fun (_ : Unit) => [(0, .v (.pointer (some ⟨b, 0, none⟩))), (4, .v (.pointer (some ⟨bw, 0, none⟩))), (6, .u32 s.a), (7, .u32 s.b), (8, .u32 s.c), (9, .u32 s.d), (10, .u32 s.e), (67, .v (.int .i64 (t : Int))), (11, .v (.int .i64 (t : Int))), (12, .u32 (f1 t s.b s.c s.d)), (13, .u32 (k1 t))])
        (fun _ w' => wr = w') ?_ ?_
      · repeat (first | (first | refine FW_seq ?_ | refine FW_region ?_ | refine RL_nil ?_ | refine E_thn_n ?_ | refine FW_skip ?_ | refine FW_block ?_ | refine FW_exit ?_ | refine FW_ret ?_ | refine E_thn_x ?_ | refine E_thn_r ?_ | refine E_blk_n ?_ | refine E_blk_x ?_ | refine E_blk_o rfl ?_ | refine E_blk_r ?_) | (refine st ?_ rfl; (first | refine OP_move rfl ?_ | refine OP_assign rfl ?_ | refine OP_cmp rfl rfl rfl rfl rfl ?_ | refine OP_quo rfl rfl (by omega) ?_ )))
        refine FW_cond rfl (fun h1 => ?_) (fun h1 => ?_)
        · simp only [cmpB, beq_iff_eq] at h1
          repeat (first | (first | refine FW_seq ?_ | refine FW_region ?_ | refine RL_nil ?_ | refine E_thn_n ?_ | refine FW_skip ?_ | refine FW_block ?_ | refine FW_exit ?_ | refine FW_ret ?_ | refine E_thn_x ?_ | refine E_thn_r ?_ | refine E_blk_n ?_ | refine E_blk_x ?_ | refine E_blk_o rfl ?_ | refine E_blk_r ?_) | (refine st ?_ rfl; (first | refine OP_move rfl ?_ | refine OP_assign rfl ?_ | refine OP_b32 rfl rfl rfl ?_ | refine OP_xor32 rfl ?_ )))
          refine ⟨(), ⟨rfl, rfl, rfl, rfl, rfl, rfl, rfl, rfl, rfl, sv32 ?_, sv32 ?_, trivial⟩, rfl⟩
          · rw [f1, if_pos (by omega)]; rfl
          · rw [k1, if_pos (by omega)]; rfl
        · simp only [cmpB, beq_eq_false_iff_ne] at h1
          repeat (first | (first | refine FW_seq ?_ | refine FW_region ?_ | refine RL_nil ?_ | refine E_thn_n ?_ | refine FW_skip ?_ | refine FW_block ?_ | refine FW_exit ?_ | refine FW_ret ?_ | refine E_thn_x ?_ | refine E_thn_r ?_ | refine E_blk_n ?_ | refine E_blk_x ?_ | refine E_blk_o rfl ?_ | refine E_blk_r ?_) | (refine st ?_ rfl; (first | refine OP_assign rfl ?_ | refine OP_cmp rfl rfl rfl rfl rfl ?_ )))
          refine FW_cond rfl (fun h2 => ?_) (fun h2 => ?_)
          · simp only [cmpB, beq_iff_eq] at h2
            repeat (first | (first | refine FW_seq ?_ | refine FW_region ?_ | refine RL_nil ?_ | refine E_thn_n ?_ | refine FW_skip ?_ | refine FW_block ?_ | refine FW_exit ?_ | refine FW_ret ?_ | refine E_thn_x ?_ | refine E_thn_r ?_ | refine E_blk_n ?_ | refine E_blk_x ?_ | refine E_blk_o rfl ?_ | refine E_blk_r ?_) | (refine st ?_ rfl; (first | refine OP_move rfl ?_ | refine OP_assign rfl ?_ | refine OP_b32 rfl rfl rfl ?_ )))
            refine ⟨(), ⟨rfl, rfl, rfl, rfl, rfl, rfl, rfl, rfl, rfl, sv32 ?_, sv32 ?_, trivial⟩, rfl⟩
            · rw [f1, if_neg (by omega), if_pos (by omega)]; rfl
            · rw [k1, if_neg (by omega), if_pos (by omega)]; rfl
          · simp only [cmpB, beq_eq_false_iff_ne] at h2
            repeat (first | (first | refine FW_seq ?_ | refine FW_region ?_ | refine RL_nil ?_ | refine E_thn_n ?_ | refine FW_skip ?_ | refine FW_block ?_ | refine FW_exit ?_ | refine FW_ret ?_ | refine E_thn_x ?_ | refine E_thn_r ?_ | refine E_blk_n ?_ | refine E_blk_x ?_ | refine E_blk_o rfl ?_ | refine E_blk_r ?_) | (refine st ?_ rfl; (first | refine OP_assign rfl ?_ | refine OP_cmp rfl rfl rfl rfl rfl ?_ )))
            refine FW_cond rfl (fun h3 => ?_) (fun h3 => ?_)
            · simp only [cmpB, beq_iff_eq] at h3
              repeat (first | (first | refine FW_seq ?_ | refine FW_region ?_ | refine RL_nil ?_ | refine E_thn_n ?_ | refine FW_skip ?_ | refine FW_block ?_ | refine FW_exit ?_ | refine FW_ret ?_ | refine E_thn_x ?_ | refine E_thn_r ?_ | refine E_blk_n ?_ | refine E_blk_x ?_ | refine E_blk_o rfl ?_ | refine E_blk_r ?_) | (refine st ?_ rfl; (first | refine OP_move rfl ?_ | refine OP_assign rfl ?_ | refine OP_b32 rfl rfl rfl ?_ )))
              refine ⟨(), ⟨rfl, rfl, rfl, rfl, rfl, rfl, rfl, rfl, rfl, sv32 ?_, sv32 ?_, trivial⟩, rfl⟩
              · rw [f1, if_neg (by omega), if_neg (by omega), if_pos (by omega)]; rfl
              · rw [k1, if_neg (by omega), if_neg (by omega), if_pos (by omega)]; rfl
            · simp only [cmpB, beq_eq_false_iff_ne] at h3
              repeat (first | (first | refine FW_seq ?_ | refine FW_region ?_ | refine RL_nil ?_ | refine E_thn_n ?_ | refine FW_skip ?_ | refine FW_block ?_ | refine FW_exit ?_ | refine FW_ret ?_ | refine E_thn_x ?_ | refine E_thn_r ?_ | refine E_blk_n ?_ | refine E_blk_x ?_ | refine E_blk_o rfl ?_ | refine E_blk_r ?_) | (refine st ?_ rfl; (first | refine OP_move rfl ?_ | refine OP_assign rfl ?_ | refine OP_b32 rfl rfl rfl ?_ )))
              refine ⟨(), ⟨rfl, rfl, rfl, rfl, rfl, rfl, rfl, rfl, rfl, sv32 ?_, sv32 ?_, trivial⟩, rfl⟩
              · rw [f1, if_neg (by omega), if_neg (by omega), if_neg (by omega)]; rfl
              · rw [k1, if_neg (by omega), if_neg (by omega), if_neg (by omega)]; rfl
      · rintro _ w' rfl
        repeat (first | (first | refine FW_seq ?_ | refine FW_region ?_ | refine RL_nil ?_ | refine E_thn_n ?_ | refine FW_skip ?_ | refine FW_block ?_ | refine FW_exit ?_ | refine FW_ret ?_ | refine E_thn_x ?_ | refine E_thn_r ?_ | refine E_blk_n ?_ | refine E_blk_x ?_ | refine E_blk_o rfl ?_ | refine E_blk_r ?_) | (refine st ?_ rfl; (first | fail )))
        refine FW_draw mixed 22 (by kernel_rfl) ?_
        repeat (first | (first | refine dr rfl (fun w_ he_ => OP_move rfl ⟨Ext.refl _, rfl⟩) ?_ | refine dr rfl (fun w_ he_ => OP_assign rfl ⟨Ext.refl _, rfl⟩) ?_ | refine dr rfl (fun w_ he_ => OP_b32 rfl rfl rfl ⟨Ext.refl _, rfl⟩) ?_ | refine dr rfl (fun w_ he_ => OP_ixa (t := 263) at80 rfl rfl rfl (by omega) ⟨Ext.refl _, rfl⟩) ?_ | refine dr rfl (fun w_ he_ => OP_load (s := .u32 _) Tryz.underlying159 rfl rfl (BlkW.at (by assumption) he_ _ (by omega)) rfl ⟨Ext.refl _, rfl⟩) ?_ ) | refine dr rfl (fun w_ he_ => OP_call32s ent_rot rfl (rp5 _ _) ⟨Ext.refl _, rfl⟩) ?_ | refine dr rfl (fun w_ he_ => OP_call32s ent_rot rfl (rp30 _ _) ⟨Ext.refl _, rfl⟩) ?_ )
        refine dr_end fun w2 he2 => ?_
        repeat (first | (first | refine FW_seq ?_ | refine FW_region ?_ | refine RL_nil ?_ | refine E_thn_n ?_ | refine FW_skip ?_ | refine FW_block ?_ | refine FW_exit ?_ | refine FW_ret ?_ | refine E_thn_x ?_ | refine E_thn_r ?_ | refine E_blk_n ?_ | refine E_blk_x ?_ | refine E_blk_o rfl ?_ | refine E_blk_r ?_) | (refine st ?_ rfl; (first | refine OP_move rfl ?_ | refine OP_add rfl rfl (by omega) ?_ )))
        refine ⟨t + 1, (), ⟨rfl, rfl, sv32 ?_, sv32 ?_, sv32 ?_, sv32 ?_, sv32 ?_, rfl, trivial⟩, ⟨by omega, hw.ext he2, he.trans he2⟩, by omega⟩
        all_goals rw [rnds1, ← hsd]
        all_goals rfl
    · simp only [cmpB, decide_eq_false_iff_not] at hc
      have ht80 : t = 80 := by omega
      subst ht80
      have hbr := hb.ext he
      have hbl := hb.lt
      clear hw hwl
      obtain ⟨x0, x1, x2, x3, x4, rfl⟩ := five h hh
      have hg0 : w.grownBy wr (some b) := grownBy.of_ext he _
      have ha0 : BlkW wr b [x0, x1, x2, x3, x4] := hbr
      have hl0 : [x0, x1, x2, x3, x4].length = 5 := rfl
      clear hbr
      repeat (first | (first | refine FW_seq ?_ | refine FW_region ?_ | refine RL_nil ?_ | refine E_thn_n ?_ | refine FW_skip ?_ | refine FW_block ?_ | refine FW_exit ?_ | refine FW_ret ?_ | refine E_thn_x ?_ | refine E_thn_r ?_ | refine E_blk_n ?_ | refine E_blk_x ?_ | refine E_blk_o rfl ?_ | refine E_blk_r ?_) | (refine st ?_ rfl; (first | fail )))
      refine FW_draw mixed 8 (by kernel_rfl) ?_
      repeat (first | refine dr rfl (fun w_ he_ => OP_move rfl ⟨Ext.refl _, rfl⟩) ?_ | refine dr rfl (fun w_ he_ => OP_b32 rfl rfl rfl ⟨Ext.refl _, rfl⟩) ?_ | refine dr rfl (fun w_ he_ => OP_nilCheck rfl ⟨Ext.refl _, rfl⟩) ?_ | refine dr rfl (fun w_ he_ => OP_ixa (t := 236) at5 rfl rfl rfl (by omega) ⟨Ext.refl _, rfl⟩) ?_ | refine dr rfl (fun w_ he_ => OP_load (s := .u32 _) Tryz.underlying159 rfl rfl (BlkW.at (by assumption) he_ _ (by omega)) rfl ⟨Ext.refl _, rfl⟩) ?_ )
      refine dr_end fun u0 hu0 => ?_
      refine st0 (OP_stw s32 rfl rfl (Blk.ext ha0 hu0) (by omega) fun _ v0 hb0 hv0 => ?_)
      have ha1 : BlkW v0 b [x0 + s.a, x1, x2, x3, x4] := hb0
      have hg1 : w.grownBy v0 (some b) := Go.Eng.grownBy.trans (Go.Eng.grownBy.ext hg0 hu0) hv0
      have hl1 : [x0 + s.a, x1, x2, x3, x4].length = 5 := rfl
      clear ha0 hb0 hl0
      repeat (first | (first | refine FW_seq ?_ | refine FW_region ?_ | refine RL_nil ?_ | refine E_thn_n ?_ | refine FW_skip ?_ | refine FW_block ?_ | refine FW_exit ?_ | refine FW_ret ?_ | refine E_thn_x ?_ | refine E_thn_r ?_ | refine E_blk_n ?_ | refine E_blk_x ?_ | refine E_blk_o rfl ?_ | refine E_blk_r ?_) | (refine st ?_ rfl; (first | fail )))
      refine FW_draw mixed 8 (by kernel_rfl) ?_
      repeat (first | refine dr rfl (fun w_ he_ => OP_move rfl ⟨Ext.refl _, rfl⟩) ?_ | refine dr rfl (fun w_ he_ => OP_b32 rfl rfl rfl ⟨Ext.refl _, rfl⟩) ?_ | refine dr rfl (fun w_ he_ => OP_nilCheck rfl ⟨Ext.refl _, rfl⟩) ?_ | refine dr rfl (fun w_ he_ => OP_ixa (t := 236) at5 rfl rfl rfl (by omega) ⟨Ext.refl _, rfl⟩) ?_ | refine dr rfl (fun w_ he_ => OP_load (s := .u32 _) Tryz.underlying159 rfl rfl (BlkW.at (by assumption) he_ _ (by omega)) rfl ⟨Ext.refl _, rfl⟩) ?_ )
      refine dr_end fun u1 hu1 => ?_
      refine st0 (OP_stw s32 rfl rfl (Blk.ext ha1 hu1) (by omega) fun _ v1 hb1 hv1 => ?_)
      have ha2 : BlkW v1 b [x0 + s.a, x1 + s.b, x2, x3, x4] := hb1
      have hg2 : w.grownBy v1 (some b) := Go.Eng.grownBy.trans (Go.Eng.grownBy.ext hg1 hu1) hv1
      have hl2 : [x0 + s.a, x1 + s.b, x2, x3, x4].length = 5 := rfl
      clear ha1 hb1 hl1
      repeat (first | (first | refine FW_seq ?_ | refine FW_region ?_ | refine RL_nil ?_ | refine E_thn_n ?_ | refine FW_skip ?_ | refine FW_block ?_ | refine FW_exit ?_ | refine FW_ret ?_ | refine E_thn_x ?_ | refine E_thn_r ?_ | refine E_blk_n ?_ | refine E_blk_x ?_ | refine E_blk_o rfl ?_ | refine E_blk_r ?_) | (refine st ?_ rfl; (first | fail )))
      refine FW_draw mixed 8 (by kernel_rfl) ?_
      repeat (first | refine dr rfl (fun w_ he_ => OP_move rfl ⟨Ext.refl _, rfl⟩) ?_ | refine dr rfl (fun w_ he_ => OP_b32 rfl rfl rfl ⟨Ext.refl _, rfl⟩) ?_ | refine dr rfl (fun w_ he_ => OP_nilCheck rfl ⟨Ext.refl _, rfl⟩) ?_ | refine dr rfl (fun w_ he_ => OP_ixa (t := 236) at5 rfl rfl rfl (by omega) ⟨Ext.refl _, rfl⟩) ?_ | refine dr rfl (fun w_ he_ => OP_load (s := .u32 _) Tryz.underlying159 rfl rfl (BlkW.at (by assumption) he_ _ (by omega)) rfl ⟨Ext.refl _, rfl⟩) ?_ )
      refine dr_end fun u2 hu2 => ?_
      refine st0 (OP_stw s32 rfl rfl (Blk.ext ha2 hu2) (by omega) fun _ v2 hb2 hv2 => ?_)
      have ha3 : BlkW v2 b [x0 + s.a, x1 + s.b, x2 + s.c, x3, x4] := hb2
      have hg3 : w.grownBy v2 (some b) := Go.Eng.grownBy.trans (Go.Eng.grownBy.ext hg2 hu2) hv2
      have hl3 : [x0 + s.a, x1 + s.b, x2 + s.c, x3, x4].length = 5 := rfl
      clear ha2 hb2 hl2
      repeat (first | (first | refine FW_seq ?_ | refine FW_region ?_ | refine RL_nil ?_ | refine E_thn_n ?_ | refine FW_skip ?_ | refine FW_block ?_ | refine FW_exit ?_ | refine FW_ret ?_ | refine E_thn_x ?_ | refine E_thn_r ?_ | refine E_blk_n ?_ | refine E_blk_x ?_ | refine E_blk_o rfl ?_ | refine E_blk_r ?_) | (refine st ?_ rfl; (first | fail )))
      refine FW_draw mixed 8 (by kernel_rfl) ?_
      repeat (first | refine dr rfl (fun w_ he_ => OP_move rfl ⟨Ext.refl _, rfl⟩) ?_ | refine dr rfl (fun w_ he_ => OP_b32 rfl rfl rfl ⟨Ext.refl _, rfl⟩) ?_ | refine dr rfl (fun w_ he_ => OP_nilCheck rfl ⟨Ext.refl _, rfl⟩) ?_ | refine dr rfl (fun w_ he_ => OP_ixa (t := 236) at5 rfl rfl rfl (by omega) ⟨Ext.refl _, rfl⟩) ?_ | refine dr rfl (fun w_ he_ => OP_load (s := .u32 _) Tryz.underlying159 rfl rfl (BlkW.at (by assumption) he_ _ (by omega)) rfl ⟨Ext.refl _, rfl⟩) ?_ )
      refine dr_end fun u3 hu3 => ?_
      refine st0 (OP_stw s32 rfl rfl (Blk.ext ha3 hu3) (by omega) fun _ v3 hb3 hv3 => ?_)
      have ha4 : BlkW v3 b [x0 + s.a, x1 + s.b, x2 + s.c, x3 + s.d, x4] := hb3
      have hg4 : w.grownBy v3 (some b) := Go.Eng.grownBy.trans (Go.Eng.grownBy.ext hg3 hu3) hv3
      have hl4 : [x0 + s.a, x1 + s.b, x2 + s.c, x3 + s.d, x4].length = 5 := rfl
      clear ha3 hb3 hl3
      repeat (first | (first | refine FW_seq ?_ | refine FW_region ?_ | refine RL_nil ?_ | refine E_thn_n ?_ | refine FW_skip ?_ | refine FW_block ?_ | refine FW_exit ?_ | refine FW_ret ?_ | refine E_thn_x ?_ | refine E_thn_r ?_ | refine E_blk_n ?_ | refine E_blk_x ?_ | refine E_blk_o rfl ?_ | refine E_blk_r ?_) | (refine st ?_ rfl; (first | fail )))
      refine FW_draw mixed 8 (by kernel_rfl) ?_
      repeat (first | refine dr rfl (fun w_ he_ => OP_move rfl ⟨Ext.refl _, rfl⟩) ?_ | refine dr rfl (fun w_ he_ => OP_b32 rfl rfl rfl ⟨Ext.refl _, rfl⟩) ?_ | refine dr rfl (fun w_ he_ => OP_nilCheck rfl ⟨Ext.refl _, rfl⟩) ?_ | refine dr rfl (fun w_ he_ => OP_ixa (t := 236) at5 rfl rfl rfl (by omega) ⟨Ext.refl _, rfl⟩) ?_ | refine dr rfl (fun w_ he_ => OP_load (s := .u32 _) Tryz.underlying159 rfl rfl (BlkW.at (by assumption) he_ _ (by omega)) rfl ⟨Ext.refl _, rfl⟩) ?_ )
      refine dr_end fun u4 hu4 => ?_
      refine st0 (OP_stw s32 rfl rfl (Blk.ext ha4 hu4) (by omega) fun _ v4 hb4 hv4 => ?_)
      have ha5 : BlkW v4 b [x0 + s.a, x1 + s.b, x2 + s.c, x3 + s.d, x4 + s.e] := hb4
      have hg5 : w.grownBy v4 (some b) := Go.Eng.grownBy.trans (Go.Eng.grownBy.ext hg4 hu4) hv4
      have hl5 : [x0 + s.a, x1 + s.b, x2 + s.c, x3 + s.d, x4 + s.e].length = 5 := rfl
      clear ha4 hb4 hl4
      repeat (first | (first | refine FW_seq ?_ | refine FW_region ?_ | refine RL_nil ?_ | refine E_thn_n ?_ | refine FW_skip ?_ | refine FW_block ?_ | refine FW_exit ?_ | refine FW_ret ?_ | refine E_thn_x ?_ | refine E_thn_r ?_ | refine E_blk_n ?_ | refine E_blk_x ?_ | refine E_blk_o rfl ?_ | refine E_blk_r ?_) | (refine st ?_ rfl; (first | fail )))
      refine E_end_n rfl ⟨?_, hg5⟩
      simp only [comp1]
      rw [← hws, ← hsd]
      exact ha5
end Go.Proofs.YtfjcmolccckhhaaGreatDoor

namespace Go.Proofs.YtfjcmolccckhhaaGreatDoor
open Go Go.RowKit Go.Eng
set_option linter.unusedVariables false
attribute [local irreducible] FW RL OP DR thn blk endp endg Calls
theorem ent_dig_pad : Ent Tryz.prog 220 := Ent.mk Tryz.func220 (by kernel_rfl) rfl
theorem ent_dig_compress1 : Ent Tryz.prog 221 := Ent.mk Tryz.func221 (by kernel_rfl) rfl
theorem ent_dig_compress256 : Ent Tryz.prog 223 := Ent.mk Tryz.func223 (by kernel_rfl) rfl
theorem ent_dig_spread : Ent Tryz.prog 222 := Ent.mk Tryz.func222 (by kernel_rfl) rfl
theorem ent_ref_pad : Ent Tryz.prog 226 := Ent.mk Tryz.func226 (by kernel_rfl) rfl
theorem ent_ref_bytes : Ent Tryz.prog 229 := Ent.mk Tryz.func229 (by kernel_rfl) rfl
theorem ent_ref_constants : Ent Tryz.prog 225 := Ent.mk Tryz.func225 (by kernel_rfl) rfl
theorem blk_words {w : World} {b : Nat} {hs : List UInt32} (n : Nat) (h : BlkW w b hs) (hl : hs.length = n) (hn : n ≤ 80) : Words w (.slice (some ⟨b, 0, none⟩) n n) hs := by
  have := Blk.sl (sz := 1) (n := n) h (by simp [hl]) (Nat.le_trans hn (by decide))
  subst hl; exact this
theorem fold64_step (f : List UInt32 → List UInt8 → List UInt32) (n : Nat) (h : List UInt32) (q : List UInt8) : fold64 f (n + 1) h q = fold64 f n (f h (q.take 64)) (q.drop 64) := rfl
set_option maxHeartbeats 8000000 in
theorem dig_sum (w : World) (alg : Int) (v : Value) (l : List UInt8) (hK : KT w) (hB : Bytes w v l) (hl : l.length ≤ 4294967296) :
    Calls Tryz.prog 177 #[.int .i64 alg, v] w (Ret fun r w' => OwnB w.heap.size w' r (sumB alg l) ∧ Ext w w') := by
  refine calls_of_FW [.v (.int .i64 alg), .v v] Tryz.func177 rfl Tryz.ntmps177 rfl rfl ?_
  have hklt := hK.lt
  repeat (first | (first | refine FW_seq ?_ | refine FW_region ?_ | refine RL_nil ?_ | refine E_thn_n ?_ | refine FW_skip ?_ | refine FW_block ?_ | refine FW_exit ?_ | refine FW_ret ?_ | refine E_thn_x ?_ | refine E_thn_r ?_ | refine E_blk_n ?_ | refine E_blk_x ?_ | refine E_blk_o rfl ?_ | refine E_blk_r ?_) | (refine st ?_ rfl; (first | refine OP_move rfl ?_ | refine OP_assign rfl ?_ | refine OP_cmp rfl rfl rfl rfl rfl ?_ )))
  refine FW_cond rfl (fun ha => ?_) (fun ha => ?_)
  · simp only [cmpB, beq_iff_eq] at ha
    repeat (first | (first | refine FW_seq ?_ | refine FW_region ?_ | refine RL_nil ?_ | refine E_thn_n ?_ | refine FW_skip ?_ | refine FW_block ?_ | refine FW_exit ?_ | refine FW_ret ?_ | refine E_thn_x ?_ | refine E_thn_r ?_ | refine E_blk_n ?_ | refine E_blk_x ?_ | refine E_blk_o rfl ?_ | refine E_blk_r ?_) | (refine st ?_ rfl; (first | fail )))
    refine st (OP_bw at5 z5 rfl rfl rfl ?_) rfl
    refine st (OP_alloc z5 fun b w1 hb1 hbw0 he1 => ?_) rfl
    have hb1 := zero_words hb1
    refine st0 (OP_stws n5 rfl rfl hb1 rfl rfl fun _ w2 hb2 hg2 => ?_)
    have he2 : Ext w w2 := he1.grown hg2 (fun k hk => by obtain rfl := Option.some.inj hk; exact hbw0)
    have hbl := hb2.lt
    repeat (first | (first | refine FW_seq ?_ | refine FW_region ?_ | refine RL_nil ?_ | refine E_thn_n ?_ | refine FW_skip ?_ | refine FW_block ?_ | refine FW_exit ?_ | refine FW_ret ?_ | refine E_thn_x ?_ | refine E_thn_r ?_ | refine E_blk_n ?_ | refine E_blk_x ?_ | refine E_blk_o rfl ?_ | refine E_blk_r ?_) | (refine st ?_ rfl; (first | refine OP_move rfl ?_ )))
    refine st (OP_call ent_dig_pad rfl (dig_pad w2 v l (hB.ext he2) hl) fun p w3 ⟨ho3, he3⟩ => ?_) rfl
    have hb3 := hb2.ext he3
    repeat (first | (first | refine FW_seq ?_ | refine FW_region ?_ | refine RL_nil ?_ | refine E_thn_n ?_ | refine FW_skip ?_ | refine FW_block ?_ | refine FW_exit ?_ | refine FW_ret ?_ | refine E_thn_x ?_ | refine E_thn_r ?_ | refine E_blk_n ?_ | refine E_blk_x ?_ | refine E_blk_o rfl ?_ | refine E_blk_r ?_) | (refine st ?_ rfl; (first | refine OP_assign rfl ?_ )))
    refine FW_loop2 (fun (n : Nat) (pv : Value) => [(5, .v (.pointer (some ⟨b, 0, none⟩))), (6, .v pv)])
      (fun n pv w' => ∃ hs q, q.length = 64 * n ∧ Bytes w' pv q ∧ (∀ g, pv.ownBlock = some g → b < g) ∧ BlkW w' b hs ∧ hs.length = 5 ∧ fold64 comp1 n hs q = fold64 comp1 ((padB l).length / 64) h1 (padB l) ∧ Ext w w') (fun n _ => n)
      ((padB l).length / 64) p ⟨rfl, rfl, trivial⟩ ⟨_, _, by rw [padB_len]; omega, ho3.hold, fun g hg => by have := ho3.lt hg; omega, hb3, rfl, rfl, he2.trans he3⟩ ?_
    rintro n pv wr ⟨hs, q, hq, hpv, hblk, hbw, hlen, hf, he⟩
    repeat (first | (first | refine FW_seq ?_ | refine FW_region ?_ | refine RL_nil ?_ | refine E_thn_n ?_ | refine FW_skip ?_ | refine FW_block ?_ | refine FW_exit ?_ | refine FW_ret ?_ | refine E_thn_x ?_ | refine E_thn_r ?_ | refine E_blk_n ?_ | refine E_blk_x ?_ | refine E_blk_o rfl ?_ | refine E_blk_r ?_) | (refine st ?_ rfl; (first | refine OP_move rfl ?_ | refine OP_cmp rfl rfl rfl rfl rfl ?_ | refine OP_len (t := 22) Tryz.underlying22 rfl (by assumption) ?_ )))
    refine FW_cond rfl (fun hc => ?_) (fun hc => ?_)
    · simp only [cmpB, gt_iff_lt, decide_eq_true_eq] at hc
      obtain ⟨m, rfl⟩ : ∃ m, n = m + 1 := ⟨n - 1, by omega⟩
      repeat (first | (first | refine FW_seq ?_ | refine FW_region ?_ | refine RL_nil ?_ | refine E_thn_n ?_ | refine FW_skip ?_ | refine FW_block ?_ | refine FW_exit ?_ | refine FW_ret ?_ | refine E_thn_x ?_ | refine E_thn_r ?_ | refine E_blk_n ?_ | refine E_blk_x ?_ | refine E_blk_o rfl ?_ | refine E_blk_r ?_) | (refine st ?_ rfl; (first | refine OP_move rfl ?_ )))
      refine st (OP_cut_h ts8 rfl hpv rfl (by omega) fun u hu hou => ?_) rfl
      refine st (OP_call ent_dig_compress1 rfl (dig_comp1 wr b hs u _ hbw hlen hu (by simp; omega)) fun _ w4 ⟨hb4, hg4⟩ => ?_) rfl
      have hpv4 := hpv.grown hg4 (fun g hg e => by have := hblk g hg; have := Option.some.inj e; omega)
      have he4 : Ext w w4 := he.grown hg4 (fun k hk => by obtain rfl := Option.some.inj hk; exact hbw0)
      repeat (first | (first | refine FW_seq ?_ | refine FW_region ?_ | refine RL_nil ?_ | refine E_thn_n ?_ | refine FW_skip ?_ | refine FW_block ?_ | refine FW_exit ?_ | refine FW_ret ?_ | refine E_thn_x ?_ | refine E_thn_r ?_ | refine E_blk_n ?_ | refine E_blk_x ?_ | refine E_blk_o rfl ?_ | refine E_blk_r ?_) | (refine st ?_ rfl; (first | refine OP_move rfl ?_ )))
      refine st (OP_cut_l ts8 rfl hpv4 rfl (by omega) fun u' hu' hou' => ?_) rfl
      repeat (first | (first | refine FW_seq ?_ | refine FW_region ?_ | refine RL_nil ?_ | refine E_thn_n ?_ | refine FW_skip ?_ | refine FW_block ?_ | refine FW_exit ?_ | refine FW_ret ?_ | refine E_thn_x ?_ | refine E_thn_r ?_ | refine E_blk_n ?_ | refine E_blk_x ?_ | refine E_blk_o rfl ?_ | refine E_blk_r ?_) | (refine st ?_ rfl; (first | refine OP_assign rfl ?_ )))
      exact ⟨m, u', ⟨rfl, rfl, trivial⟩, ⟨_, _, by simp; omega, hu', fun g hg => hblk g (hou' ▸ hg), hb4, rfl, by rw [fold64_step] at hf; exact hf, he4⟩, by omega⟩
    · simp only [cmpB, gt_iff_lt, decide_eq_false_iff_not] at hc
      have hn : n = 0 := by omega
      subst hn
      repeat (first | (first | refine FW_seq ?_ | refine FW_region ?_ | refine RL_nil ?_ | refine E_thn_n ?_ | refine FW_skip ?_ | refine FW_block ?_ | refine FW_exit ?_ | refine FW_ret ?_ | refine E_thn_x ?_ | refine E_thn_r ?_ | refine E_blk_n ?_ | refine E_blk_x ?_ | refine E_blk_o rfl ?_ | refine E_blk_r ?_) | (refine st ?_ rfl; (first | fail )))
      refine st (OP_slicea (b := b) at5 rfl ?_) rfl
      refine st (OP_call ent_dig_spread rfl (dig_spread wr _ hs (blk_words 5 hbw hlen (by decide)) (by omega)) fun r w5 ⟨ho5, he5⟩ => ?_) rfl
      repeat (first | (first | refine FW_seq ?_ | refine FW_region ?_ | refine RL_nil ?_ | refine E_thn_n ?_ | refine FW_skip ?_ | refine FW_block ?_ | refine FW_exit ?_ | refine FW_ret ?_ | refine E_thn_x ?_ | refine E_thn_r ?_ | refine E_blk_n ?_ | refine E_blk_x ?_ | refine E_blk_o rfl ?_ | refine E_blk_r ?_) | (refine st ?_ rfl; (first | refine OP_assign rfl ?_ )))
      refine E_end_r rfl ⟨?_, he.trans he5⟩
      have e0 : hs = fold64 comp1 ((padB l).length / 64) h1 (padB l) := hf
      rw [sumB, if_pos ha, sha1, ← e0]
      exact ho5.base_le (Nat.le_trans he.size (Nat.le_refl _))
  · simp only [cmpB, beq_eq_false_iff_ne, ne_eq] at ha
    repeat (first | (first | refine FW_seq ?_ | refine FW_region ?_ | refine RL_nil ?_ | refine E_thn_n ?_ | refine FW_skip ?_ | refine FW_block ?_ | refine FW_exit ?_ | refine FW_ret ?_ | refine E_thn_x ?_ | refine E_thn_r ?_ | refine E_blk_n ?_ | refine E_blk_x ?_ | refine E_blk_o rfl ?_ | refine E_blk_r ?_) | (refine st ?_ rfl; (first | refine OP_assign rfl ?_ | refine OP_cmp rfl rfl rfl rfl rfl ?_ )))
    refine FW_cond rfl (fun ha2 => ?_) (fun ha2 => ?_)
    · simp only [cmpB, beq_iff_eq] at ha2
      repeat (first | (first | refine FW_seq ?_ | refine FW_region ?_ | refine RL_nil ?_ | refine E_thn_n ?_ | refine FW_skip ?_ | refine FW_block ?_ | refine FW_exit ?_ | refine FW_ret ?_ | refine E_thn_x ?_ | refine E_thn_r ?_ | refine E_blk_n ?_ | refine E_blk_x ?_ | refine E_blk_o rfl ?_ | refine E_blk_r ?_) | (refine st ?_ rfl; (first | fail )))
      refine st (OP_bw at8 z8 rfl rfl rfl ?_) rfl
      refine st (OP_alloc z8 fun b w1 hb1 hbw0 he1 => ?_) rfl
      have hb1 := zero_words hb1
      refine st0 (OP_stws n8 rfl rfl hb1 rfl rfl fun _ w2 hb2 hg2 => ?_)
      have he2 : Ext w w2 := he1.grown hg2 (fun k hk => by obtain rfl := Option.some.inj hk; exact hbw0)
      have hbl := hb2.lt
      repeat (first | (first | refine FW_seq ?_ | refine FW_region ?_ | refine RL_nil ?_ | refine E_thn_n ?_ | refine FW_skip ?_ | refine FW_block ?_ | refine FW_exit ?_ | refine FW_ret ?_ | refine E_thn_x ?_ | refine E_thn_r ?_ | refine E_blk_n ?_ | refine E_blk_x ?_ | refine E_blk_o rfl ?_ | refine E_blk_r ?_) | (refine st ?_ rfl; (first | refine OP_move rfl ?_ )))
      refine st (OP_call ent_dig_pad rfl (dig_pad w2 v l (hB.ext he2) hl) fun p w3 ⟨ho3, he3⟩ => ?_) rfl
      have hb3 := hb2.ext he3
      repeat (first | (first | refine FW_seq ?_ | refine FW_region ?_ | refine RL_nil ?_ | refine E_thn_n ?_ | refine FW_skip ?_ | refine FW_block ?_ | refine FW_exit ?_ | refine FW_ret ?_ | refine E_thn_x ?_ | refine E_thn_r ?_ | refine E_blk_n ?_ | refine E_blk_x ?_ | refine E_blk_o rfl ?_ | refine E_blk_r ?_) | (refine st ?_ rfl; (first | refine OP_assign rfl ?_ )))
      refine FW_loop2 (fun (n : Nat) (pv : Value) => [(7, .v (.pointer (some ⟨b, 0, none⟩))), (8, .v pv)])
        (fun n pv w' => ∃ hs q, q.length = 64 * n ∧ Bytes w' pv q ∧ (∀ g, pv.ownBlock = some g → b < g) ∧ BlkW w' b hs ∧ hs.length = 8 ∧ fold64 comp256 n hs q = fold64 comp256 ((padB l).length / 64) h256 (padB l) ∧ Ext w w') (fun n _ => n)
        ((padB l).length / 64) p ⟨rfl, rfl, trivial⟩ ⟨_, _, by rw [padB_len]; omega, ho3.hold, fun g hg => by have := ho3.lt hg; omega, hb3, rfl, rfl, he2.trans he3⟩ ?_
      rintro n pv wr ⟨hs, q, hq, hpv, hblk, hbw, hlen, hf, he⟩
      repeat (first | (first | refine FW_seq ?_ | refine FW_region ?_ | refine RL_nil ?_ | refine E_thn_n ?_ | refine FW_skip ?_ | refine FW_block ?_ | refine FW_exit ?_ | refine FW_ret ?_ | refine E_thn_x ?_ | refine E_thn_r ?_ | refine E_blk_n ?_ | refine E_blk_x ?_ | refine E_blk_o rfl ?_ | refine E_blk_r ?_) | (refine st ?_ rfl; (first | refine OP_move rfl ?_ | refine OP_cmp rfl rfl rfl rfl rfl ?_ | refine OP_len (t := 22) Tryz.underlying22 rfl (by assumption) ?_ )))
      refine FW_cond rfl (fun hc => ?_) (fun hc => ?_)
      · simp only [cmpB, gt_iff_lt, decide_eq_true_eq] at hc
        obtain ⟨m, rfl⟩ : ∃ m, n = m + 1 := ⟨n - 1, by omega⟩
        repeat (first | (first | refine FW_seq ?_ | refine FW_region ?_ | refine RL_nil ?_ | refine E_thn_n ?_ | refine FW_skip ?_ | refine FW_block ?_ | refine FW_exit ?_ | refine FW_ret ?_ | refine E_thn_x ?_ | refine E_thn_r ?_ | refine E_blk_n ?_ | refine E_blk_x ?_ | refine E_blk_o rfl ?_ | refine E_blk_r ?_) | (refine st ?_ rfl; (first | refine OP_move rfl ?_ )))
        refine st (OP_cut_h ts8 rfl hpv rfl (by omega) fun u hu hou => ?_) rfl
        refine st (OP_call ent_dig_compress256 rfl (dig_comp256 wr b hs u _ (hK.ext he) hbw hlen (by omega) hu (by simp; omega) (fun g hg => by have := hblk g (hou ▸ hg); omega)) fun _ w4 ⟨hb4, hg4⟩ => ?_) rfl
        have hpv4 := hpv.grown hg4 (fun g hg e => by have := hblk g hg; have := Option.some.inj e; omega)
        have he4 : Ext w w4 := he.grown hg4 (fun k hk => by obtain rfl := Option.some.inj hk; exact hbw0)
        repeat (first | (first | refine FW_seq ?_ | refine FW_region ?_ | refine RL_nil ?_ | refine E_thn_n ?_ | refine FW_skip ?_ | refine FW_block ?_ | refine FW_exit ?_ | refine FW_ret ?_ | refine E_thn_x ?_ | refine E_thn_r ?_ | refine E_blk_n ?_ | refine E_blk_x ?_ | refine E_blk_o rfl ?_ | refine E_blk_r ?_) | (refine st ?_ rfl; (first | refine OP_move rfl ?_ )))
        refine st (OP_cut_l ts8 rfl hpv4 rfl (by omega) fun u' hu' hou' => ?_) rfl
        repeat (first | (first | refine FW_seq ?_ | refine FW_region ?_ | refine RL_nil ?_ | refine E_thn_n ?_ | refine FW_skip ?_ | refine FW_block ?_ | refine FW_exit ?_ | refine FW_ret ?_ | refine E_thn_x ?_ | refine E_thn_r ?_ | refine E_blk_n ?_ | refine E_blk_x ?_ | refine E_blk_o rfl ?_ | refine E_blk_r ?_) | (refine st ?_ rfl; (first | refine OP_assign rfl ?_ )))
        exact ⟨m, u', ⟨rfl, rfl, trivial⟩, ⟨_, _, by simp; omega, hu', fun g hg => hblk g (hou' ▸ hg), hb4, comp256_len _ _ hlen, by rw [fold64_step] at hf; exact hf, he4⟩, by omega⟩
      · simp only [cmpB, gt_iff_lt, decide_eq_false_iff_not] at hc
        have hn : n = 0 := by omega
        subst hn
        repeat (first | (first | refine FW_seq ?_ | refine FW_region ?_ | refine RL_nil ?_ | refine E_thn_n ?_ | refine FW_skip ?_ | refine FW_block ?_ | refine FW_exit ?_ | refine FW_ret ?_ | refine E_thn_x ?_ | refine E_thn_r ?_ | refine E_blk_n ?_ | refine E_blk_x ?_ | refine E_blk_o rfl ?_ | refine E_blk_r ?_) | (refine st ?_ rfl; (first | fail )))
        refine st (OP_slicea (b := b) at8 rfl ?_) rfl
        refine st (OP_call ent_dig_spread rfl (dig_spread wr _ hs (blk_words 8 hbw hlen (by decide)) (by omega)) fun r w5 ⟨ho5, he5⟩ => ?_) rfl
        repeat (first | (first | refine FW_seq ?_ | refine FW_region ?_ | refine RL_nil ?_ | refine E_thn_n ?_ | refine FW_skip ?_ | refine FW_block ?_ | refine FW_exit ?_ | refine FW_ret ?_ | refine E_thn_x ?_ | refine E_thn_r ?_ | refine E_blk_n ?_ | refine E_blk_x ?_ | refine E_blk_o rfl ?_ | refine E_blk_r ?_) | (refine st ?_ rfl; (first | refine OP_assign rfl ?_ )))
        refine E_end_r rfl ⟨?_, he.trans he5⟩
        have e0 : hs = fold64 comp256 ((padB l).length / 64) h256 (padB l) := hf
        rw [sumB, if_neg ha, if_pos ha2, sha256, ← e0]
        exact ho5.base_le (Nat.le_trans he.size (Nat.le_refl _))
    · simp only [cmpB, beq_eq_false_iff_ne, ne_eq] at ha2
      repeat (first | (first | refine FW_seq ?_ | refine FW_region ?_ | refine RL_nil ?_ | refine E_thn_n ?_ | refine FW_skip ?_ | refine FW_block ?_ | refine FW_exit ?_ | refine FW_ret ?_ | refine E_thn_x ?_ | refine E_thn_r ?_ | refine E_blk_n ?_ | refine E_blk_x ?_ | refine E_blk_o rfl ?_ | refine E_blk_r ?_) | (refine st ?_ rfl; (first | refine OP_assign rfl ?_ )))
      refine E_end_r rfl ⟨?_, Ext.refl _⟩
      rw [sumB, if_neg ha, if_neg ha2]
      exact Own.nil _ _ _ _
end Go.Proofs.YtfjcmolccckhhaaGreatDoor

namespace Go.Proofs.YtfjcmolccckhhaaGreatDoor
open Go Go.RowKit Go.Eng
set_option linter.unusedVariables false
attribute [local irreducible] FW RL OP DR thn blk endp endg Calls
theorem E_endg_cell {P : Program} {fn : Func} {R : Value → World → Prop} {L : Lst} {w : World} {p ty b : Nat} {c : List Value} {d : TypeDesc} (hr : fn.results = #[.cell p ty]) (hp : lkp p L = some (.v (.pointer (some ⟨b, 0, none⟩)))) (hb : Blk w b c)
    (hu : P.underlying ty = some d) (hd : (match d with | .struct _ | .array _ _ => true | _ => false) = true) (hi : (P.info? ty).map (·.size) = some c.length) (h : R (.agg c.toArray) w) : endg P fn R .ret L w := by
  obtain ⟨T, hT⟩ := id hb
  unfold endg
  refine ⟨_, fun a ha => results_cell_row hr a.tmps w b T c.toArray (0, 0) d ?_ hT hu hd (by simpa using hi), h⟩
  have := ha p _ hp
  simpa [SV.den] using this
theorem _root_.Go.Eng.Own.blk {α : Type} {f : α → Value} {e base g : Nat} {w : World} {v : Value} {l : List α} (h : Own f e base w v l) (ht : Tight v) (hg : v.ownBlock = some g) : v = .slice (some ⟨g, 0, none⟩) l.length l.length ∧ Blk w g (l.map f) := by
  obtain ⟨hl, h⟩ := h
  rcases h with ⟨rfl, _⟩ | ⟨g', cap, cur, rfl, hb, hh, h1, h2, h3, h4⟩
  · cases hg
  · obtain ⟨a, n, hv⟩ := ht
    simp only [Value.slice.injEq] at hv
    obtain ⟨rfl, rfl, rfl⟩ := hv
    obtain rfl := Option.some.inj hg
    refine ⟨rfl, e, ?_⟩
    rw [hh]
    rw [List.take_of_length_le (by simp [h3])] at h4
    rw [← h4]
theorem _root_.Go.Eng.Own.shape {α : Type} {f : α → Value} {e base : Nat} {w : World} {v : Value} {l : List α} (h : Own f e base w v l) (hl : l.length ≠ 0) : ∃ g cap, v = .slice (some ⟨g, 0, none⟩) l.length cap ∧ base ≤ g ∧ g < w.heap.size ∧ Cs w ⟨g, 0, none⟩ (l.map f) := by
  have hh := h.hold
  obtain ⟨_, h0⟩ := id h
  rcases h0 with ⟨rfl, h0⟩ | ⟨g, cap, cur, rfl, hb, hg, _⟩
  · exact absurd h0 hl
  · refine ⟨g, cap, rfl, hb, (Array.getElem?_eq_some_iff.1 hg).1, ?_⟩
    obtain ⟨a, c2, he, _, _, _, _, h6⟩ := hh
    simp only [Value.slice.injEq] at he
    exact h6 _ he.1.symm
theorem OP_stwk {P : Program} {L : Lst} {w : World} {ty : TypeId} {K : SV → World → Prop} {t : Nat} {x y : Operand} {b j : Nat} {ws : List UInt32} {a : UInt32} (hsz : (P.info? t).map (·.size) = some 1) (hx : evo L x = some (.v (.pointer (some ((⟨b, 0, none⟩ : Addr).add j))))) (hy : evo L y = some (.u32 a)) (hb : BlkW w b ws) (hj : j < ws.length)
    (hk : ∀ s' w', BlkW w' b (ws.set j a) → w.grownBy w' (some b) → K s' w') : OP P L (.store t x y) ty w K :=
  OP_stw hsz (by rw [hx, Addr.add_lit]) hy hb hj hk
set_option maxHeartbeats 4000000 in
theorem ref_constants (w : World) : Calls Tryz.prog 225 #[] w (Ret fun r w' => r = .agg (k256.map wordV).toArray ∧ Ext w w') := by
  refine calls_of_FWg [] Tryz.func225 rfl Tryz.ntmps225 rfl ?_
  repeat (first | (first | refine FW_seq ?_ | refine FW_region ?_ | refine RL_nil ?_ | refine E_thn_n ?_ | refine FW_skip ?_ | refine FW_block ?_ | refine FW_exit ?_ | refine FW_ret ?_ | refine E_thn_x ?_ | refine E_thn_r ?_ | refine E_blk_n ?_ | refine E_blk_x ?_ | refine E_blk_o rfl ?_ | refine E_blk_r ?_) | (refine st ?_ rfl; (first | fail )))
  refine st (OP_alloc z64 fun b w1 hb1 hbw0 he1 => ?_) rfl
  have hb1 := zero_words hb1
  repeat (first | (first | refine FW_seq ?_ | refine FW_region ?_ | refine RL_nil ?_ | refine E_thn_n ?_ | refine FW_skip ?_ | refine FW_block ?_ | refine FW_exit ?_ | refine FW_ret ?_ | refine E_thn_x ?_ | refine E_thn_r ?_ | refine E_blk_n ?_ | refine E_blk_x ?_ | refine E_blk_o rfl ?_ | refine E_blk_r ?_) | (refine st ?_ rfl; (first | fail )))
  refine st (OP_bw at64 z64 rfl rfl rfl ?_) rfl
  refine st0 (OP_stws n64 rfl rfl hb1 rfl rfl fun _ w2 hb2 hg2 => ?_)
  have he2 : Ext w w2 := he1.grown hg2 (fun k hk => by obtain rfl := Option.some.inj hk; exact hbw0)
  repeat (first | (first | refine FW_seq ?_ | refine FW_region ?_ | refine RL_nil ?_ | refine E_thn_n ?_ | refine FW_skip ?_ | refine FW_block ?_ | refine FW_exit ?_ | refine FW_ret ?_ | refine E_thn_x ?_ | refine E_thn_r ?_ | refine E_blk_n ?_ | refine E_blk_x ?_ | refine E_blk_o rfl ?_ | refine E_blk_r ?_) | (refine st ?_ rfl; (first | fail )))
  exact E_endg_cell rfl rfl hb2 Tryz.underlying245 rfl n64 ⟨rfl, he2⟩
set_option maxHeartbeats 16000000 in
theorem ref_sum256 (w : World) (v : Value) (l : List UInt8) (hB : Bytes w v l) (hl : l.length ≤ 4294967296) :
    Calls Tryz.prog 181 #[v] w (Ret fun r w' => OwnB w.heap.size w' r (sha256 l) ∧ Ext w w') := by
  refine calls_of_FW [.v v] Tryz.func181 rfl Tryz.ntmps181 rfl rfl ?_
  repeat (first | (first | refine FW_seq ?_ | refine FW_region ?_ | refine RL_nil ?_ | refine E_thn_n ?_ | refine FW_skip ?_ | refine FW_block ?_ | refine FW_exit ?_ | refine FW_ret ?_ | refine E_thn_x ?_ | refine E_thn_r ?_ | refine E_blk_n ?_ | refine E_blk_x ?_ | refine E_blk_o rfl ?_ | refine E_blk_r ?_) | (refine st ?_ rfl; (first | refine OP_assign rfl ?_ )))
  refine st (OP_call ent_ref_constants rfl (ref_constants w) fun kv w1 ⟨hkv, he1⟩ => ?_) rfl
  subst hkv
  refine st (OP_alloc z64 fun kb w2 hk2 hkb he2 => ?_) rfl
  have hk2 := zero_words hk2
  refine st0 (OP_stws n64 rfl rfl hk2 rfl rfl fun _ w3 hk3 hg3 => ?_)
  have hkb : w.heap.size ≤ kb := Nat.le_trans he1.size hkb
  have he3 : Ext w w3 := (he1.trans he2).grown hg3 (fun k hk => by obtain rfl := Option.some.inj hk; exact hkb)
  repeat (first | (first | refine FW_seq ?_ | refine FW_region ?_ | refine RL_nil ?_ | refine E_thn_n ?_ | refine FW_skip ?_ | refine FW_block ?_ | refine FW_exit ?_ | refine FW_ret ?_ | refine E_thn_x ?_ | refine E_thn_r ?_ | refine E_blk_n ?_ | refine E_blk_x ?_ | refine E_blk_o rfl ?_ | refine E_blk_r ?_) | (refine st ?_ rfl; (first | fail )))
  refine st (OP_li (base := w.heap.size) word_ok wordV_1 ts32 rfl rfl rfl he3.size fun hv w4 ho4 ht4 hob4 he4 => ?_) rfl
  obtain ⟨hhv, hb4⟩ := ho4.blk ht4 hob4
  have hk4 := Blk.ext hk3 he4
  have hkh : kb < w3.heap.size := hk3.lt
  obtain ⟨hb, hhb⟩ : ∃ hb, hb = w3.heap.size := ⟨_, rfl⟩
  rw [← hhb] at hob4 hhv hb4 hkh
  have hwb : w.heap.size ≤ hb := by rw [hhb]; exact he3.size
  subst hhv
  have he4' : Ext w w4 := he3.trans he4
  clear ho4 ht4 hk2 hg3
  repeat (first | (first | refine FW_seq ?_ | refine FW_region ?_ | refine RL_nil ?_ | refine E_thn_n ?_ | refine FW_skip ?_ | refine FW_block ?_ | refine FW_exit ?_ | refine FW_ret ?_ | refine E_thn_x ?_ | refine E_thn_r ?_ | refine E_blk_n ?_ | refine E_blk_x ?_ | refine E_blk_o rfl ?_ | refine E_blk_r ?_) | (refine st ?_ rfl; (first | refine OP_move rfl ?_ | refine OP_assign rfl ?_ )))
  refine st (OP_call ent_ref_pad rfl (ref_pad w4 v l (hB.ext he4') hl) fun p w5 ⟨ho5, he5⟩ => ?_) rfl
  have hb5 := Blk.ext hb4 he5
  have hk5 := Blk.ext hk4 he5
  have hbl : hb < w4.heap.size := hb4.lt
  repeat (first | (first | refine FW_seq ?_ | refine FW_region ?_ | refine RL_nil ?_ | refine E_thn_n ?_ | refine FW_skip ?_ | refine FW_block ?_ | refine FW_exit ?_ | refine FW_ret ?_ | refine E_thn_x ?_ | refine E_thn_r ?_ | refine E_blk_n ?_ | refine E_blk_x ?_ | refine E_blk_o rfl ?_ | refine E_blk_r ?_) | (refine st ?_ rfl; (first | refine OP_assign rfl ?_ )))
  obtain ⟨x, hx⟩ : ∃ x, x = padB l := ⟨_, rfl⟩
  obtain ⟨N, hN⟩ : ∃ N, N = x.length / 64 := ⟨_, rfl⟩
  have hxl : x.length = 64 * N := by rw [hN, hx, padB_len]; omega
  have hNb : N ≤ 67108866 := by rw [hN, hx, padB_len]; omega
  rw [← hx] at ho5
  have hpb : ∀ g, p.ownBlock = some g → hb < g := fun g hg => by have := ho5.lt hg; omega
  refine FW_loop2 (fun (n : Nat) (_ : Unit) => [(3, .v (.pointer (some ⟨kb, 0, none⟩))), (4, .v (.slice (some ⟨hb, 0, none⟩) 8 8)), (5, .v p), (6, .v (.int .i64 ((64 * n : Nat) : Int)))])
    (fun n _ w' => n ≤ N ∧ ∃ hs, Bytes w' p x ∧ BlkW w' hb hs ∧ hs.length = 8 ∧ BlkW w' kb k256 ∧ fold64 comp256 (N - n) hs (x.drop (64 * n)) = fold64 comp256 N h256 x ∧ Ext w w') (fun n _ => N - n)
    0 () ⟨rfl, rfl, rfl, rfl, trivial⟩ ⟨by omega, _, ho5.hold, hb5, rfl, hk5, rfl, he4'.trans he5⟩ ?_
  clear hb5 hk5 ho5 he5 hb4 hk4 he4' he4 he3 he2 he1 hk3
  rintro n _ wr ⟨hn, hs, hp, hh, hlen, hk, hf, he⟩
  repeat (first | (first | refine FW_seq ?_ | refine FW_region ?_ | refine RL_nil ?_ | refine E_thn_n ?_ | refine FW_skip ?_ | refine FW_block ?_ | refine FW_exit ?_ | refine FW_ret ?_ | refine E_thn_x ?_ | refine E_thn_r ?_ | refine E_blk_n ?_ | refine E_blk_x ?_ | refine E_blk_o rfl ?_ | refine E_blk_r ?_) | (refine st ?_ rfl; (first | refine OP_move rfl ?_ | refine OP_cmp rfl rfl rfl rfl rfl ?_ | refine OP_len (t := 22) Tryz.underlying22 rfl (by assumption) ?_ )))
  refine FW_cond rfl (fun hc => ?_) (fun hc => ?_)
  · simp only [cmpB, decide_eq_true_eq] at hc
    have hnN : n < N := by omega
    obtain ⟨bl, hbld⟩ : ∃ bl, bl = (x.drop (64 * n)).take 64 := ⟨_, rfl⟩
    have hfn : fold64 comp256 (N - (n + 1)) (comp256 hs bl) (x.drop (64 * (n + 1))) = fold64 comp256 N h256 x := by
      rw [← hf, show N - n = (N - (n + 1)) + 1 from by omega, fold64_step, List.drop_drop, hbld]; rfl
    have hbl64 : bl.length = 64 := by rw [hbld]; simp; omega
    repeat (first | (first | refine FW_seq ?_ | refine FW_region ?_ | refine RL_nil ?_ | refine E_thn_n ?_ | refine FW_skip ?_ | refine FW_block ?_ | refine FW_exit ?_ | refine FW_ret ?_ | refine E_thn_x ?_ | refine E_thn_r ?_ | refine E_blk_n ?_ | refine E_blk_x ?_ | refine E_blk_o rfl ?_ | refine E_blk_r ?_) | (refine st ?_ rfl; (first | fail )))
    refine st (OP_alloc z64 fun bw w1 hw1a hbw he1 => ?_) rfl
    have hw1 := zero_words hw1a
    repeat (first | (first | refine FW_seq ?_ | refine FW_region ?_ | refine RL_nil ?_ | refine E_thn_n ?_ | refine FW_skip ?_ | refine FW_block ?_ | refine FW_exit ?_ | refine FW_ret ?_ | refine E_thn_x ?_ | refine E_thn_r ?_ | refine E_blk_n ?_ | refine E_blk_x ?_ | refine E_blk_o rfl ?_ | refine E_blk_r ?_) | (refine st ?_ rfl; (first | refine OP_assign rfl ?_ )))
    refine FW_loop2 (fun (t : Nat) (_ : Unit) => [(3, .v (.pointer (some ⟨kb, 0, none⟩))), (4, .v (.slice (some ⟨hb, 0, none⟩) 8 8)), (5, .v p), (6, .v (.int .i64 ((64 * n : Nat) : Int))), (7, .v (.pointer (some ⟨bw, 0, none⟩))), (8, .v (.int .i64 (t : Int)))])
      (fun t _ w' => t ≤ 64 ∧ BlkW w' bw (sch256 bl t ++ List.replicate (64 - t) 0) ∧ Ext wr w') (fun t _ => 64 - t) 0 () ⟨rfl, rfl, rfl, rfl, rfl, rfl, trivial⟩ ⟨by omega, hw1, he1⟩ ?_
    clear hw1 hw1a he1 hf w1
    rintro t _ w1 ⟨ht, hw, he1⟩
    repeat (first | (first | refine FW_seq ?_ | refine FW_region ?_ | refine RL_nil ?_ | refine E_thn_n ?_ | refine FW_skip ?_ | refine FW_block ?_ | refine FW_exit ?_ | refine FW_ret ?_ | refine E_thn_x ?_ | refine E_thn_r ?_ | refine E_blk_n ?_ | refine E_blk_x ?_ | refine E_blk_o rfl ?_ | refine E_blk_r ?_) | (refine st ?_ rfl; (first | refine OP_move rfl ?_ | refine OP_cmp rfl rfl rfl rfl rfl ?_ )))
    refine FW_cond rfl (fun hc => ?_) (fun hc => ?_)
    · simp only [cmpB, decide_eq_true_eq] at hc
      have hslen : (sch256 bl t).length = t := sch256_len bl t
      obtain ⟨ws, hws⟩ : ∃ ws, ws = sch256 bl t ++ List.replicate (64 - t) 0 := ⟨_, rfl⟩
      have hwl : ws.length = 64 := by rw [hws]; simp [hslen]; omega
      rw [← hws] at hw
      repeat (first | (first | refine FW_seq ?_ | refine FW_region ?_ | refine RL_nil ?_ | refine E_thn_n ?_ | refine FW_skip ?_ | refine FW_block ?_ | refine FW_exit ?_ | refine FW_ret ?_ | refine E_thn_x ?_ | refine E_thn_r ?_ | refine E_blk_n ?_ | refine E_blk_x ?_ | refine E_blk_o rfl ?_ | refine E_blk_r ?_) | (refine st ?_ rfl; (first | refine OP_move rfl ?_ | refine OP_cmp rfl rfl rfl rfl rfl ?_ )))
      refine FW_cond rfl (fun hc2 => ?_) (fun hc2 => ?_)
      · simp only [cmpB, decide_eq_true_eq] at hc2
        repeat (first | (first | refine FW_seq ?_ | refine FW_region ?_ | refine RL_nil ?_ | refine E_thn_n ?_ | refine FW_skip ?_ | refine FW_block ?_ | refine FW_exit ?_ | refine FW_ret ?_ | refine E_thn_x ?_ | refine E_thn_r ?_ | refine E_blk_n ?_ | refine E_blk_x ?_ | refine E_blk_o rfl ?_ | refine E_blk_r ?_) | (refine st ?_ rfl; (first | refine OP_move rfl ?_ | refine OP_add rfl rfl (by omega) ?_ )))
        refine st (OP_cut_lh ts8 rfl (hp.ext he1) rfl rfl (by omega) fun u hu _ => ?_) rfl
        have hub : Bytes w1 u bl := by
          have e : (x.drop (((64 * n : Nat) : Int)).toNat).take ((((64 * n : Nat) : Int) + 64).toNat - (((64 * n : Nat) : Int)).toNat) = bl := by
            rw [hbld, show ((((64 * n : Nat) : Int) + 64).toNat - (((64 * n : Nat) : Int)).toNat) = 64 from by omega, Int.toNat_natCast]
          rw [← e]; exact hu
        repeat (first | (first | refine FW_seq ?_ | refine FW_region ?_ | refine RL_nil ?_ | refine E_thn_n ?_ | refine FW_skip ?_ | refine FW_block ?_ | refine FW_exit ?_ | refine FW_ret ?_ | refine E_thn_x ?_ | refine E_thn_r ?_ | refine E_blk_n ?_ | refine E_blk_x ?_ | refine E_blk_o rfl ?_ | refine E_blk_r ?_) | (refine st ?_ rfl; (first | refine OP_move rfl ?_ )))
        refine st (OP_call32 ent_rword rfl (ref_word w1 u bl _ hub (by omega)) fun w2 he2 => ?_) rfl
        have hw2 := hw.ext he2
        refine st (OP_ixa at64 rfl rfl rfl (by omega) ?_) rfl
        refine st0 (OP_stw s32 rfl rfl hw2 (by omega) fun _ w3 hw3 hg3 => ?_)
        repeat (first | (first | refine FW_seq ?_ | refine FW_region ?_ | refine RL_nil ?_ | refine E_thn_n ?_ | refine FW_skip ?_ | refine FW_block ?_ | refine FW_exit ?_ | refine FW_ret ?_ | refine E_thn_x ?_ | refine E_thn_r ?_ | refine E_blk_n ?_ | refine E_blk_x ?_ | refine E_blk_o rfl ?_ | refine E_blk_r ?_) | (refine st ?_ rfl; (first | refine OP_move rfl ?_ | refine OP_assign rfl ?_ | refine OP_add rfl rfl (by omega) ?_ )))
        refine ⟨t + 1, (), ⟨rfl, rfl, rfl, rfl, rfl, rfl, trivial⟩, ⟨by omega, ?_, ((he1.trans he2).grown hg3 (fun k hk => by obtain rfl := Option.some.inj hk; exact hbw))⟩, by omega⟩
        have e : ((4 * (t : Int)).toNat) = 4 * t := by omega
        rw [hws, e, Int.toNat_natCast] at hw3
        have := set_snoc (sch256 bl t) (64 - t) 0 (be32 bl (4 * t)) (by omega)
        rw [hslen] at this
        rw [this] at hw3
        rw [sch256, next256, if_pos (by omega)]
        exact hw3
      · simp only [cmpB, decide_eq_false_iff_not] at hc2
        repeat (first | (first | refine FW_seq ?_ | refine FW_region ?_ | refine RL_nil ?_ | refine E_thn_n ?_ | refine FW_skip ?_ | refine FW_block ?_ | refine FW_exit ?_ | refine FW_ret ?_ | refine E_thn_x ?_ | refine E_thn_r ?_ | refine E_blk_n ?_ | refine E_blk_x ?_ | refine E_blk_o rfl ?_ | refine E_blk_r ?_) | (refine st ?_ rfl; (first | fail )))
        refine FW_draw mixed 17 (by kernel_rfl) ?_
        repeat (first | (first | refine dr rfl (fun w_ he_ => OP_move rfl ⟨Ext.refl _, rfl⟩) ?_ | refine dr rfl (fun w_ he_ => OP_sub rfl rfl (by omega) ⟨Ext.refl _, rfl⟩) ?_ | refine dr rfl (fun w_ he_ => OP_b32 rfl rfl rfl ⟨Ext.refl _, rfl⟩) ?_ | refine dr rfl (fun w_ he_ => OP_shr32 rfl rfl rfl (by decide) ⟨Ext.refl _, rfl⟩) ?_ | refine dr rfl (fun w_ he_ => OP_ixa (t := 245) at64 rfl rfl rfl (by omega) ⟨Ext.refl _, rfl⟩) ?_ | refine dr rfl (fun w_ he_ => OP_load (s := .u32 _) Tryz.underlying159 rfl rfl (BlkW.at (by assumption) he_ _ (by omega)) rfl ⟨Ext.refl _, rfl⟩) ?_ ) | refine dr rfl (fun w_ he_ => OP_call32s ent_rotr rfl (rr7 _ _) ⟨Ext.refl _, rfl⟩) ?_ | refine dr rfl (fun w_ he_ => OP_call32s ent_rotr rfl (rr18 _ _) ⟨Ext.refl _, rfl⟩) ?_ )
        refine dr_end fun w2 he2 => ?_
        have hw2 := hw.ext he2
        repeat (first | (first | refine FW_seq ?_ | refine FW_region ?_ | refine RL_nil ?_ | refine E_thn_n ?_ | refine FW_skip ?_ | refine FW_block ?_ | refine FW_exit ?_ | refine FW_ret ?_ | refine E_thn_x ?_ | refine E_thn_r ?_ | refine E_blk_n ?_ | refine E_blk_x ?_ | refine E_blk_o rfl ?_ | refine E_blk_r ?_) | (refine st ?_ rfl; (first | refine OP_assign rfl ?_ )))
        refine FW_draw mixed 17 (by kernel_rfl) ?_
        repeat (first | (first | refine dr rfl (fun w_ he_ => OP_move rfl ⟨Ext.refl _, rfl⟩) ?_ | refine dr rfl (fun w_ he_ => OP_sub rfl rfl (by omega) ⟨Ext.refl _, rfl⟩) ?_ | refine dr rfl (fun w_ he_ => OP_b32 rfl rfl rfl ⟨Ext.refl _, rfl⟩) ?_ | refine dr rfl (fun w_ he_ => OP_shr32 rfl rfl rfl (by decide) ⟨Ext.refl _, rfl⟩) ?_ | refine dr rfl (fun w_ he_ => OP_ixa (t := 245) at64 rfl rfl rfl (by omega) ⟨Ext.refl _, rfl⟩) ?_ | refine dr rfl (fun w_ he_ => OP_load (s := .u32 _) Tryz.underlying159 rfl rfl (BlkW.at (by assumption) he_ _ (by omega)) rfl ⟨Ext.refl _, rfl⟩) ?_ ) | refine dr rfl (fun w_ he_ => OP_call32s ent_rotr rfl (rr17 _ _) ⟨Ext.refl _, rfl⟩) ?_ | refine dr rfl (fun w_ he_ => OP_call32s ent_rotr rfl (rr19 _ _) ⟨Ext.refl _, rfl⟩) ?_ )
        refine dr_end fun w3 he3 => ?_
        have hw3 := hw2.ext he3
        repeat (first | (first | refine FW_seq ?_ | refine FW_region ?_ | refine RL_nil ?_ | refine E_thn_n ?_ | refine FW_skip ?_ | refine FW_block ?_ | refine FW_exit ?_ | refine FW_ret ?_ | refine E_thn_x ?_ | refine E_thn_r ?_ | refine E_blk_n ?_ | refine E_blk_x ?_ | refine E_blk_o rfl ?_ | refine E_blk_r ?_) | (refine st ?_ rfl; (first | refine OP_assign rfl ?_ )))
        refine FW_draw mixed 15 (by kernel_rfl) ?_
        repeat (first | refine dr rfl (fun w_ he_ => OP_move rfl ⟨Ext.refl _, rfl⟩) ?_ | refine dr rfl (fun w_ he_ => OP_sub rfl rfl (by omega) ⟨Ext.refl _, rfl⟩) ?_ | refine dr rfl (fun w_ he_ => OP_b32 rfl rfl rfl ⟨Ext.refl _, rfl⟩) ?_ | refine dr rfl (fun w_ he_ => OP_ixa (t := 245) at64 rfl rfl rfl (by omega) ⟨Ext.refl _, rfl⟩) ?_ | refine dr rfl (fun w_ he_ => OP_load (s := .u32 _) Tryz.underlying159 rfl rfl (BlkW.at (by assumption) he_ _ (by omega)) rfl ⟨Ext.refl _, rfl⟩) ?_ )
        refine dr_end fun w4 he4 => ?_
        have hw4 := hw3.ext he4
        refine st0 (OP_stw s32 rfl rfl hw4 (by omega) fun _ w5 hw5 hg5 => ?_)
        repeat (first | (first | refine FW_seq ?_ | refine FW_region ?_ | refine RL_nil ?_ | refine E_thn_n ?_ | refine FW_skip ?_ | refine FW_block ?_ | refine FW_exit ?_ | refine FW_ret ?_ | refine E_thn_x ?_ | refine E_thn_r ?_ | refine E_blk_n ?_ | refine E_blk_x ?_ | refine E_blk_o rfl ?_ | refine E_blk_r ?_) | (refine st ?_ rfl; (first | refine OP_move rfl ?_ | refine OP_assign rfl ?_ | refine OP_add rfl rfl (by omega) ?_ )))
        refine ⟨t + 1, (), ⟨rfl, rfl, rfl, rfl, rfl, rfl, trivial⟩, ⟨by omega, ?_, ((((he1.trans he2).trans he3).trans he4).grown hg5 (fun k hk => by obtain rfl := Option.some.inj hk; exact hbw))⟩, by omega⟩
        have g2 : ws.getD ((t : Int) - 2).toNat 0 = (sch256 bl t).getD (t - 2) 0 := by rw [hws, show ((t : Int) - 2).toNat = t - 2 from by omega]; exact getD_left _ _ _ _ (by omega)
        have g7 : ws.getD ((t : Int) - 7).toNat 0 = (sch256 bl t).getD (t - 7) 0 := by rw [hws, show ((t : Int) - 7).toNat = t - 7 from by omega]; exact getD_left _ _ _ _ (by omega)
        have g15 : ws.getD ((t : Int) - 15).toNat 0 = (sch256 bl t).getD (t - 15) 0 := by rw [hws, show ((t : Int) - 15).toNat = t - 15 from by omega]; exact getD_left _ _ _ _ (by omega)
        have g16 : ws.getD ((t : Int) - 16).toNat 0 = (sch256 bl t).getD (t - 16) 0 := by rw [hws, show ((t : Int) - 16).toNat = t - 16 from by omega]; exact getD_left _ _ _ _ (by omega)
        rw [g2, g7, g15, g16, hws, Int.toNat_natCast] at hw5
        have hsn := set_snoc (sch256 bl t) (64 - t) 0 (next256 bl (sch256 bl t) t) (by omega)
        rw [hslen] at hsn
        rw [next256, if_neg (by omega)] at hsn
        rw [sch256, next256, if_neg (by omega), show 64 - (t + 1) = 64 - t - 1 from by omega, ← hsn]
        exact hw5
    · simp only [cmpB, decide_eq_false_iff_not] at hc
      have ht64 : t = 64 := by omega
      subst ht64
      simp only [Nat.sub_self, List.replicate_zero, List.append_nil] at hw
      clear hc ht
      have hwl : (sch256 bl 64).length = 64 := sch256_len bl 64
      obtain ⟨ws, hws⟩ : ∃ ws, ws = sch256 bl 64 := ⟨_, rfl⟩
      rw [← hws] at hw hwl
      have hh1 := Blk.ext hh he1
      repeat (first | (first | refine FW_seq ?_ | refine FW_region ?_ | refine RL_nil ?_ | refine E_thn_n ?_ | refine FW_skip ?_ | refine FW_block ?_ | refine FW_exit ?_ | refine FW_ret ?_ | refine E_thn_x ?_ | refine E_thn_r ?_ | refine E_blk_n ?_ | refine E_blk_x ?_ | refine E_blk_o rfl ?_ | refine E_blk_r ?_) | (refine st ?_ rfl; (first | fail )))
      refine st (OP_li (base := w1.heap.size) word_ok wordV_1 ts32 rfl rfl rfl (Nat.le_refl _) fun e w2 ho2 ht2 hob2 he2 => ?_) rfl
      repeat (first | (first | refine FW_seq ?_ | refine FW_region ?_ | refine RL_nil ?_ | refine E_thn_n ?_ | refine FW_skip ?_ | refine FW_block ?_ | refine FW_exit ?_ | refine FW_ret ?_ | refine E_thn_x ?_ | refine E_thn_r ?_ | refine E_blk_n ?_ | refine E_blk_x ?_ | refine E_blk_o rfl ?_ | refine E_blk_r ?_) | (refine st ?_ rfl; (first | refine OP_move rfl ?_ )))
      refine st (OP_app ts32 wordV_1 rfl rfl ho2 (blk_words 8 (Blk.ext hh1 he2) hlen (by decide)) (by simp [hlen]) he2.size fun u w3 ho3 he3 _ => ?_) rfl
      rw [List.nil_append] at ho3
      obtain ⟨vb, cap, rfl, hvb, hvl, hcs⟩ := ho3.shape (by omega)
      rw [hlen]
      have he13 : Ext w1 w3 := he2.below he3 (Nat.le_refl _)
      have hw3 := hw.ext he13
      have hbwl : bw < w1.heap.size := hw.lt
      have hhbl : hb < wr.heap.size := hh.lt
      have hkbl : kb < wr.heap.size := hk.lt
      have hwr1 : wr.heap.size ≤ w1.heap.size := he1.size
      repeat (first | (first | refine FW_seq ?_ | refine FW_region ?_ | refine RL_nil ?_ | refine E_thn_n ?_ | refine FW_skip ?_ | refine FW_block ?_ | refine FW_exit ?_ | refine FW_ret ?_ | refine E_thn_x ?_ | refine E_thn_r ?_ | refine E_blk_n ?_ | refine E_blk_x ?_ | refine E_blk_o rfl ?_ | refine E_blk_r ?_) | (refine st ?_ rfl; (first | refine OP_assign rfl ?_ )))
      refine FW_loop3 (fun (t : Nat) (vb cap : Nat) => [(3, .v (.pointer (some ⟨kb, 0, none⟩))), (4, .v (.slice (some ⟨hb, 0, none⟩) 8 8)), (5, .v p), (6, .v (.int .i64 ((64 * n : Nat) : Int))), (7, .v (.pointer (some ⟨bw, 0, none⟩))), (11, .v (.slice (some ⟨vb, 0, none⟩) 8 cap)), (12, .v (.int .i64 (t : Int)))])
        (fun t vb _ w' => t ≤ 64 ∧ BlkW w' bw ws ∧ Cs w' ⟨vb, 0, none⟩ ((rnds256 ws hs t).map wordV) ∧ w1.heap.size ≤ vb ∧ vb < w'.heap.size ∧ Ext w1 w') (fun t _ _ => 64 - t) 0 vb cap ⟨rfl, rfl, rfl, rfl, rfl, rfl, rfl, trivial⟩ ⟨by omega, hw3, hcs, hvb, hvl, he13⟩ ?_
      clear hw hw3 he13 he3 he2 ho2 ht2 hob2 ho3 hcs hvb hvl vb cap hh1
      rintro t vb cap w2 ⟨ht, hw, hcs, hvb, hvl, he2⟩
      have hsl : (rnds256 ws hs t).length = 8 := rnds256_len ws hs hlen t
      obtain ⟨s, hsd⟩ : ∃ s, s = rnds256 ws hs t := ⟨_, rfl⟩
      rw [← hsd] at hcs hsl
      have hk2 := (hk.ext he1).ext he2
      have hkl : k256.length = 64 := rfl
      repeat (first | (first | refine FW_seq ?_ | refine FW_region ?_ | refine RL_nil ?_ | refine E_thn_n ?_ | refine FW_skip ?_ | refine FW_block ?_ | refine FW_exit ?_ | refine FW_ret ?_ | refine E_thn_x ?_ | refine E_thn_r ?_ | refine E_blk_n ?_ | refine E_blk_x ?_ | refine E_blk_o rfl ?_ | refine E_blk_r ?_) | (refine st ?_ rfl; (first | refine OP_move rfl ?_ | refine OP_cmp rfl rfl rfl rfl rfl ?_ )))
      refine FW_cond rfl (fun hc => ?_) (fun hc => ?_)
      · simp only [cmpB, decide_eq_true_eq] at hc
        repeat (first | (first | refine FW_seq ?_ | refine FW_region ?_ | refine RL_nil ?_ | refine E_thn_n ?_ | refine FW_skip ?_ | refine FW_block ?_ | refine FW_exit ?_ | refine FW_ret ?_ | refine E_thn_x ?_ | refine E_thn_r ?_ | refine E_blk_n ?_ | refine E_blk_x ?_ | refine E_blk_o rfl ?_ | refine E_blk_r ?_) | (refine st ?_ rfl; (first | fail )))
        refine FW_draw mixed 8 (by kernel_rfl) ?_
        repeat (first | refine dr rfl (fun w_ he_ => OP_move rfl ⟨Ext.refl _, rfl⟩) ?_ | refine dr rfl (fun w_ he_ => OP_assign rfl ⟨Ext.refl _, rfl⟩) ?_ | refine dr rfl (fun w_ he_ => OP_ixk ts32 rfl rfl rfl (by omega) ⟨Ext.refl _, rfl⟩) ?_ | refine dr rfl (fun w_ he_ => OP_load (s := .u32 _) Tryz.underlying159 rfl rfl (words_at (by assumption) he_ _ (by omega)) rfl ⟨Ext.refl _, rfl⟩) ?_ )
        refine dr_end fun w3 he3 => ?_
        have hw3 := hw.ext he3
        have hcs3 := hcs.ext he3
        have hk3 := Blk.ext hk2 he3
        clear hw hcs hk2
        repeat (first | (first | refine FW_seq ?_ | refine FW_region ?_ | refine RL_nil ?_ | refine E_thn_n ?_ | refine FW_skip ?_ | refine FW_block ?_ | refine FW_exit ?_ | refine FW_ret ?_ | refine E_thn_x ?_ | refine E_thn_r ?_ | refine E_blk_n ?_ | refine E_blk_x ?_ | refine E_blk_o rfl ?_ | refine E_blk_r ?_) | (refine st ?_ rfl; (first | fail )))
        refine FW_draw mixed 33 (by kernel_rfl) ?_
        repeat (first | (first | refine dr rfl (fun w_ he_ => OP_move rfl ⟨Ext.refl _, rfl⟩) ?_ | refine dr rfl (fun w_ he_ => OP_b32 rfl rfl rfl ⟨Ext.refl _, rfl⟩) ?_ | refine dr rfl (fun w_ he_ => OP_xor32 rfl ⟨Ext.refl _, rfl⟩) ?_ | refine dr rfl (fun w_ he_ => OP_ixa (t := 245) at64 rfl rfl rfl (by omega) ⟨Ext.refl _, rfl⟩) ?_ | refine dr rfl (fun w_ he_ => OP_load (s := .u32 _) Tryz.underlying159 rfl rfl (BlkW.at (by assumption) he_ _ (by omega)) rfl ⟨Ext.refl _, rfl⟩) ?_ | refine dr rfl (fun w_ he_ => OP_ixk ts32 rfl rfl rfl (by omega) ⟨Ext.refl _, rfl⟩) ?_ | refine dr rfl (fun w_ he_ => OP_load (s := .u32 _) Tryz.underlying159 rfl rfl (words_at (by assumption) he_ _ (by omega)) rfl ⟨Ext.refl _, rfl⟩) ?_ ) | refine dr rfl (fun w_ he_ => OP_call32s ent_rotr rfl (rr6 _ _) ⟨Ext.refl _, rfl⟩) ?_ | refine dr rfl (fun w_ he_ => OP_call32s ent_rotr rfl (rr11 _ _) ⟨Ext.refl _, rfl⟩) ?_ | refine dr rfl (fun w_ he_ => OP_call32s ent_rotr rfl (rr25 _ _) ⟨Ext.refl _, rfl⟩) ?_ )
        refine dr_end fun w4 he4 => ?_
        have hw4 := hw3.ext he4
        have hcs4 := hcs3.ext he4
        clear hw3 hcs3 hk3
        repeat (first | (first | refine FW_seq ?_ | refine FW_region ?_ | refine RL_nil ?_ | refine E_thn_n ?_ | refine FW_skip ?_ | refine FW_block ?_ | refine FW_exit ?_ | refine FW_ret ?_ | refine E_thn_x ?_ | refine E_thn_r ?_ | refine E_blk_n ?_ | refine E_blk_x ?_ | refine E_blk_o rfl ?_ | refine E_blk_r ?_) | (refine st ?_ rfl; (first | refine OP_assign rfl ?_ )))
        refine FW_draw mixed 28 (by kernel_rfl) ?_
        repeat (first | (first | refine dr rfl (fun w_ he_ => OP_move rfl ⟨Ext.refl _, rfl⟩) ?_ | refine dr rfl (fun w_ he_ => OP_b32 rfl rfl rfl ⟨Ext.refl _, rfl⟩) ?_ | refine dr rfl (fun w_ he_ => OP_ixk ts32 rfl rfl rfl (by omega) ⟨Ext.refl _, rfl⟩) ?_ | refine dr rfl (fun w_ he_ => OP_load (s := .u32 _) Tryz.underlying159 rfl rfl (words_at (by assumption) he_ _ (by omega)) rfl ⟨Ext.refl _, rfl⟩) ?_ ) | refine dr rfl (fun w_ he_ => OP_call32s ent_rotr rfl (rr2 _ _) ⟨Ext.refl _, rfl⟩) ?_ | refine dr rfl (fun w_ he_ => OP_call32s ent_rotr rfl (rr13 _ _) ⟨Ext.refl _, rfl⟩) ?_ | refine dr rfl (fun w_ he_ => OP_call32s ent_rotr rfl (rr22 _ _) ⟨Ext.refl _, rfl⟩) ?_ )
        refine dr_end fun w5 he5 => ?_
        have hw5 := hw4.ext he5
        have hcs5 := hcs4.ext he5
        clear hw4 hcs4
        repeat (first | (first | refine FW_seq ?_ | refine FW_region ?_ | refine RL_nil ?_ | refine E_thn_n ?_ | refine FW_skip ?_ | refine FW_block ?_ | refine FW_exit ?_ | refine FW_ret ?_ | refine E_thn_x ?_ | refine E_thn_r ?_ | refine E_blk_n ?_ | refine E_blk_x ?_ | refine E_blk_o rfl ?_ | refine E_blk_r ?_) | (refine st ?_ rfl; (first | refine OP_assign rfl ?_ )))
        refine FW_draw mixed 22 (by kernel_rfl) ?_
        repeat (first | refine dr rfl (fun w_ he_ => OP_move rfl ⟨Ext.refl _, rfl⟩) ?_ | refine dr rfl (fun w_ he_ => OP_b32 rfl rfl rfl ⟨Ext.refl _, rfl⟩) ?_ | refine dr rfl (fun w_ he_ => OP_ixk ts32 rfl rfl rfl (by omega) ⟨Ext.refl _, rfl⟩) ?_ | refine dr rfl (fun w_ he_ => OP_load (s := .u32 _) Tryz.underlying159 rfl rfl (words_at (by assumption) he_ _ (by omega)) rfl ⟨Ext.refl _, rfl⟩) ?_ )
        refine dr_end fun w6 he6 => ?_
        have hw6 := hw5.ext he6
        clear hw5 hcs5
        have he26 : Ext w1 w6 := (((he2.trans he3).trans he4).trans he5).trans he6
        refine st (OP_li (base := w1.heap.size) word_ok wordV_1 ts32 rfl rfl rfl he26.size fun e w7 ho7 ht7 hob7 he7 => ?_) rfl
        obtain ⟨rfl, hb7⟩ := ho7.blk ht7 hob7
        repeat (first | (first | refine FW_seq ?_ | refine FW_region ?_ | refine RL_nil ?_ | refine E_thn_n ?_ | refine FW_skip ?_ | refine FW_block ?_ | refine FW_exit ?_ | refine FW_ret ?_ | refine E_thn_x ?_ | refine E_thn_r ?_ | refine E_blk_n ?_ | refine E_blk_x ?_ | refine E_blk_o rfl ?_ | refine E_blk_r ?_) | (refine st ?_ rfl; (first | refine OP_move rfl ?_ | refine OP_assign rfl ?_ | refine OP_add rfl rfl (by omega) ?_ )))
        refine ⟨t + 1, _, _, ⟨rfl, rfl, rfl, rfl, rfl, rfl, rfl, trivial⟩, ⟨by omega, hw6.ext he7, ?_, he26.size, hb7.lt, he26.trans he7⟩, by omega⟩
        show Cs w7 _ ((rnd256 (k256.getD t 0) (ws.getD t 0) (rnds256 ws hs t)).map wordV)
        rw [← hsd]
        have := hb7.cs 0
        rw [List.drop_zero] at this
        exact this
      · simp only [cmpB, decide_eq_false_iff_not] at hc
        have ht64 : t = 64 := by omega
        subst ht64
        clear hc ht hw hwl hk2
        have hh2 := (Blk.ext hh he1).ext he2
        repeat (first | (first | refine FW_seq ?_ | refine FW_region ?_ | refine RL_nil ?_ | refine E_thn_n ?_ | refine FW_skip ?_ | refine FW_block ?_ | refine FW_exit ?_ | refine FW_ret ?_ | refine E_thn_x ?_ | refine E_thn_r ?_ | refine E_blk_n ?_ | refine E_blk_x ?_ | refine E_blk_o rfl ?_ | refine E_blk_r ?_) | (refine st ?_ rfl; (first | refine OP_assign rfl ?_ )))
        have hg0 : wr.grownBy w2 (some hb) := grownBy.of_ext (he1.trans he2) _
        refine FW_loop2 (fun (i : Nat) (_ : Unit) => [(3, .v (.pointer (some ⟨kb, 0, none⟩))), (4, .v (.slice (some ⟨hb, 0, none⟩) 8 8)), (5, .v p), (6, .v (.int .i64 ((64 * n : Nat) : Int))), (11, .v (.slice (some ⟨vb, 0, none⟩) 8 cap)), (17, .v (.int .i64 (i : Int)))])
          (fun i _ w' => i ≤ 8 ∧ BlkW w' hb (addl hs s i) ∧ Cs w' ⟨vb, 0, none⟩ (s.map wordV) ∧ wr.grownBy w' (some hb)) (fun i _ => 8 - i) 0 () ⟨rfl, rfl, rfl, rfl, rfl, rfl, trivial⟩ ⟨by omega, by simpa [addl] using hh2, hcs, hg0⟩ ?_
        clear hcs hh2 hg0
        rintro i _ w3 ⟨hi, ha, hcs, hg⟩
        repeat (first | (first | refine FW_seq ?_ | refine FW_region ?_ | refine RL_nil ?_ | refine E_thn_n ?_ | refine FW_skip ?_ | refine FW_block ?_ | refine FW_exit ?_ | refine FW_ret ?_ | refine E_thn_x ?_ | refine E_thn_r ?_ | refine E_blk_n ?_ | refine E_blk_x ?_ | refine E_blk_o rfl ?_ | refine E_blk_r ?_) | (refine st ?_ rfl; (first | refine OP_move rfl ?_ | refine OP_cmp rfl rfl rfl rfl rfl ?_ )))
        refine FW_cond rfl (fun hc => ?_) (fun hc => ?_)
        · simp only [cmpB, decide_eq_true_eq] at hc
          have hal : (addl hs s i).length = 8 := by rw [addl_len hs s i (by omega) (by omega)]; exact hlen
          have hag := addl_get hs s i (by omega) (by omega)
          have has := addl_set hs s i (by omega) (by omega)
          obtain ⟨q, hq⟩ : ∃ q, q = addl hs s i := ⟨_, rfl⟩
          rw [← hq] at ha hal hag has
          have hcq : Cs w3 ⟨hb, 0, none⟩ (q.map wordV) := by have := ha.cs 0; rw [List.drop_zero] at this; exact this
          repeat (first | (first | refine FW_seq ?_ | refine FW_region ?_ | refine RL_nil ?_ | refine E_thn_n ?_ | refine FW_skip ?_ | refine FW_block ?_ | refine FW_exit ?_ | refine FW_ret ?_ | refine E_thn_x ?_ | refine E_thn_r ?_ | refine E_blk_n ?_ | refine E_blk_x ?_ | refine E_blk_o rfl ?_ | refine E_blk_r ?_) | (refine st ?_ rfl; (first | fail )))
          refine FW_draw mixed 10 (by kernel_rfl) ?_
          repeat (first | refine dr rfl (fun w_ he_ => OP_move rfl ⟨Ext.refl _, rfl⟩) ?_ | refine dr rfl (fun w_ he_ => OP_b32 rfl rfl rfl ⟨Ext.refl _, rfl⟩) ?_ | refine dr rfl (fun w_ he_ => OP_ixk ts32 rfl rfl rfl (by omega) ⟨Ext.refl _, rfl⟩) ?_ | refine dr rfl (fun w_ he_ => OP_load (s := .u32 _) Tryz.underlying159 rfl rfl (words_at (by assumption) he_ _ (by omega)) rfl ⟨Ext.refl _, rfl⟩) ?_ )
          refine dr_end fun w4 he4 => ?_
          have ha4 := Blk.ext ha he4
          refine st0 (OP_stwk s32 rfl rfl ha4 (by omega) fun _ w5 ha5 hg5 => ?_)
          repeat (first | (first | refine FW_seq ?_ | refine FW_region ?_ | refine RL_nil ?_ | refine E_thn_n ?_ | refine FW_skip ?_ | refine FW_block ?_ | refine FW_exit ?_ | refine FW_ret ?_ | refine E_thn_x ?_ | refine E_thn_r ?_ | refine E_blk_n ?_ | refine E_blk_x ?_ | refine E_blk_o rfl ?_ | refine E_blk_r ?_) | (refine st ?_ rfl; (first | refine OP_move rfl ?_ | refine OP_assign rfl ?_ | refine OP_add rfl rfl (by omega) ?_ )))
          refine ⟨i + 1, (), ⟨rfl, rfl, rfl, rfl, rfl, rfl, trivial⟩, ⟨by omega, ?_, (hcs.ext he4).grown hg5 (fun e => by have := Option.some.inj e; simp at this; omega), Go.Eng.grownBy.trans (Go.Eng.grownBy.ext hg he4) hg5⟩, by omega⟩
          rw [← has]
          rw [Nat.mul_one, Int.toNat_natCast, hag] at ha5
          exact ha5
        · simp only [cmpB, decide_eq_false_iff_not] at hc
          have : i = 8 := by omega
          subst this
          repeat (first | (first | refine FW_seq ?_ | refine FW_region ?_ | refine RL_nil ?_ | refine E_thn_n ?_ | refine FW_skip ?_ | refine FW_block ?_ | refine FW_exit ?_ | refine FW_ret ?_ | refine E_thn_x ?_ | refine E_thn_r ?_ | refine E_blk_n ?_ | refine E_blk_x ?_ | refine E_blk_o rfl ?_ | refine E_blk_r ?_) | (refine st ?_ rfl; (first | refine OP_move rfl ?_ | refine OP_assign rfl ?_ | refine OP_add rfl rfl (by omega) ?_ )))
          have hh3 : BlkW w3 hb (comp256 hs bl) := by rw [comp256, ← hws, ← hsd]; exact ha
          refine ⟨n + 1, (), ⟨rfl, rfl, rfl, ?_, trivial⟩, ⟨by omega, comp256 hs bl, hp.grown hg (fun g hg' e => by have := hpb g hg'; have := Option.some.inj e; omega), hh3, comp256_len _ _ hlen, Blk.grown hk hg (fun e => by have := Option.some.inj e; omega), hfn, he.grown hg (fun k hk => by obtain rfl := Option.some.inj hk; exact hwb)⟩, by omega⟩
          show some (SV.v (.int .i64 _)) = some (SV.v (.int .i64 _))
          rw [show ((64 * n : Nat) : Int) + 64 = ((64 * (n + 1) : Nat) : Int) from by omega]
  · simp only [cmpB, decide_eq_false_iff_not] at hc
    have hnN : n = N := by omega
    subst hnN
    repeat (first | (first | refine FW_seq ?_ | refine FW_region ?_ | refine RL_nil ?_ | refine E_thn_n ?_ | refine FW_skip ?_ | refine FW_block ?_ | refine FW_exit ?_ | refine FW_ret ?_ | refine E_thn_x ?_ | refine E_thn_r ?_ | refine E_blk_n ?_ | refine E_blk_x ?_ | refine E_blk_o rfl ?_ | refine E_blk_r ?_) | (refine st ?_ rfl; (first | refine OP_move rfl ?_ )))
    refine st (OP_call ent_ref_bytes rfl (ref_bytes wr _ hs (blk_words 8 hh hlen (by decide)) (by omega)) fun r w5 ⟨ho5, he5⟩ => ?_) rfl
    repeat (first | (first | refine FW_seq ?_ | refine FW_region ?_ | refine RL_nil ?_ | refine E_thn_n ?_ | refine FW_skip ?_ | refine FW_block ?_ | refine FW_exit ?_ | refine FW_ret ?_ | refine E_thn_x ?_ | refine E_thn_r ?_ | refine E_blk_n ?_ | refine E_blk_x ?_ | refine E_blk_o rfl ?_ | refine E_blk_r ?_) | (refine st ?_ rfl; (first | refine OP_assign rfl ?_ )))
    refine E_end_r rfl ⟨?_, he.trans he5⟩
    rw [Nat.sub_self] at hf
    have e0 : hs = fold64 comp256 n h256 x := hf
    rw [sha256, ← hx, ← hN, ← e0]
    exact ho5.base_le he.size
end Go.Proofs.YtfjcmolccckhhaaGreatDoor

namespace Go.Proofs.YtfjcmolccckhhaaGreatDoor
open Go Go.RowKit Go.Eng Go.Ax
set_option linter.unusedVariables false
abbrev I0 : World → Prop := KT
theorem bytes_cr {w : World} : ∀ (l : List UInt8), All2 (fun x c => CR .u8 x c w) l (l.map fun x => [byteV x])
  | [] => trivial
  | x :: l => ⟨by simp only [CR], bytes_cr l⟩
theorem flat_sing {α β : Type} (f : α → β) : ∀ (l : List α), (l.map fun x => [f x]).flatten = l.map f
  | [] => rfl
  | x :: l => by rw [List.map_cons, List.flatten_cons, flat_sing f l]; rfl
theorem semC_bytes {f : FuncId} {ins : List AV} {l : List UInt8} (h : ∀ ν O w vs, I0 w → Reps ⟨(· < 0), ν, O, w⟩ ins vs → Calls Tryz.prog f vs.toArray w (Ret fun r w' => OwnB w.heap.size w' r l ∧ Ext w w')) : SemC Tryz.prog I0 f ins [] (.sl .u8 l) [] := by
  intro ν O w args hG hR hP
  refine Ret.mono (h ν O w args (hG.inv _ (Stp.refl _ _)) hR) ?_
  rintro v w' ⟨ho, he⟩
  have hnone : ∀ ν' b, ¬ fblk ν' [] b := by rintro ν' b ⟨k, R, hk, _⟩; cases hk
  refine ⟨ν, fun _ _ => rfl, ?_, fun k R hk => (by cases hk), fun k k' R R' b hk => (by cases hk), Stp.of_ext he _⟩
  simp only [Rep]
  intro w'' hs
  have ho' := own_keep ho.G hs fun b hb hq => by
    rcases hq with hq | hq
    · have := hG.lt b hq.1
      have := (own_lt ho.G b hb).1
      simp only at *; omega
    · exact hnone _ _ hq
  refine ⟨l.map fun x => [byteV x], bytes_cr l, ?_⟩
  rw [flat_sing]
  exact Sl.of_ownG ho'
noncomputable def ov0 : Orc := fun q => match q with
  | .call f args H => bif Nat.beq f 177 then (match args, H with
      | [.i alg, .sl .u8 l], [] => bif fits l 32768 then some (.ret (.sl .u8 (sumB alg l)) []) else none
      | _, _ => none)
    else bif Nat.beq f 181 then (match args, H with
      | [.sl .u8 l], [] => bif fits l 32768 then some (.ret (.sl .u8 (sha256 l)) []) else none
      | _, _ => none)
    else ovC (.call f args H)
  | .loop _ _ _ _ _ _ => none
theorem len_of_fits {l : List UInt8} (h : fits l 32768 = true) : l.length ≤ 4294967296 := by
  simp only [fits_d, fits0, decide_eq_true_eq] at h; omega
theorem rd_bytes {ν : Nat → Value} {O : Nat → Prop} {w : World} {l : List UInt8} {v : Value} (h : Rep ⟨(· < 0), ν, O, w⟩ (.sl .u8 l) v) : Bytes w v l := by
  simp only [Rep] at h
  obtain ⟨cs, h1, h2⟩ := h w (Stp.refl _ _)
  have : cs.flatten = l.map byteV := by
    clear h h2
    induction l generalizing cs with
    | nil => cases cs with | nil => rfl | cons c cs => exact h1.elim
    | cons x l ih =>
      cases cs with
      | nil => exact h1.elim
      | cons c cs =>
        obtain ⟨h3, h4⟩ := h1
        simp only [CR] at h3
        rw [List.flatten_cons, ih cs h4, h3]; rfl
  rw [this] at h2; exact h2
theorem ov_ok : ∀ q r, ov0 q = some r → SemQ Tryz.prog I0 ⟨TT0, FT0, CT0, ov0⟩ q r := by
  intro q r h
  cases q with
  | loop f k n0 m L H => cases h
  | call f args H =>
    simp only [ov0] at h
    cases hb : Nat.beq f 177 with
    | true =>
      obtain rfl := Nat.eq_of_beq_eq_true hb
      rw [hb, cond_true] at h
      split at h
      · rename_i alg l
        cases hf : fits l 32768 with
        | false => rw [hf] at h; cases h
        | true =>
          rw [hf, cond_true] at h
          obtain rfl := Option.some.inj h
          refine semC_bytes fun ν O w vs hI hR => ?_
          simp only [Reps] at hR
          obtain ⟨v1, t1, rfl, h1, v2, t2, rfl, h2, rfl⟩ := hR
          simp only [Rep] at h1
          subst h1
          exact dig_sum w alg v2 l hI (rd_bytes h2) (len_of_fits hf)
      · cases h
    | false =>
      rw [hb, cond_false] at h
      cases hb2 : Nat.beq f 181 with
      | true =>
        obtain rfl := Nat.eq_of_beq_eq_true hb2
        rw [hb2, cond_true] at h
        split at h
        · rename_i l
          cases hf : fits l 32768 with
          | false => rw [hf] at h; cases h
          | true =>
            rw [hf, cond_true] at h
            obtain rfl := Option.some.inj h
            refine semC_bytes fun ν O w vs hI hR => ?_
            simp only [Reps] at hR
            obtain ⟨v2, t2, rfl, h2, rfl⟩ := hR
            exact ref_sum256 w v2 l (rd_bytes h2) (len_of_fits hf)
        · cases h
      | false => rw [hb2, cond_false] at h; exact ovC_ok _ _ h
noncomputable def E0 : Env := ⟨TT0, FT0, CT0, ov0⟩
theorem e0 : EnvOK Tryz.prog I0 E0 := ⟨tt0, ft0, ct0.get, by kernel_rfl, ov_ok⟩
theorem Y_ov {f : Nat} {args : List AV} {H : List Rs} {r : Rsp} (h : E0.ov (.call f args H) = some r) : Y E0 (.call f args H) = some r := by
  rw [Y.eq_1]; simp only [bodyY]; rw [h]
theorem fits_b {l : List UInt8} (hl : l.length ≤ 4294967296) : fits l 32768 = true := fits_t (by omega)
theorem e_dig_sum (alg : Int) (l : List UInt8) (hl : l.length ≤ 4294967296) : Y E0 (.call 177 [.i alg, .sl .u8 l] []) = some (.ret (.sl .u8 (sumB alg l)) []) :=
  Y_ov (by show (bif fits l 32768 then _ else _) = _; rw [fits_b hl]; rfl)
theorem ev_dig_sum1 (l : List UInt8) (hl : l.length ≤ 4294967296) : Y E0 (.call 177 [.i 1, .sl .u8 l] []) = some (.ret (.sl .u8 (sha256 l)) []) := e_dig_sum 1 l hl
theorem ev_sum256 (l : List UInt8) (hl : l.length ≤ 4294967296) : Y E0 (.call 181 [.sl .u8 l] []) = some (.ret (.sl .u8 (sha256 l)) []) :=
  Y_ov (by show (bif fits l 32768 then _ else _) = _; rw [fits_b hl]; rfl)
theorem ev_clo (l : List (El objT)) (hl : l.length ≤ 4294967296) : Y E0 (.call 120 [.sl objT l] []) = some (.ret (.nm 0) [some (.row 61 objT l)]) :=
  Y_ov (by show (bif fits l 32768 then _ else _) = _; rw [show fits l 32768 = true from fits_t (by omega)]; rfl)
theorem ev_cll (l : List (El lvT)) (hl : l.length ≤ 4294967296) : Y E0 (.call 182 [.sl lvT l] []) = some (.ret (.nm 0) [some (.row 170 lvT l)]) :=
  Y_ov (by show (bif fits l 32768 then _ else _) = _; rw [show fits l 32768 = true from fits_t (by omega)]; rfl)
end Go.Proofs.YtfjcmolccckhhaaGreatDoor

namespace Go.Proofs.YtfjcmolccckhhaaGreatDoor
open Go Go.RowKit Go.Eng Go.ChangeShapes Go.WideShapes Go.ChangeAt Go.Ax
set_option linter.unusedVariables false
theorem trodAll_ext {H : Type} {enc : TypeId × Value → H} {P : Program} (hl : laidOutB P = true) {W W' : World} (he : Ext W W') {sp : Nat → Bool} :
    ∀ {ts : List TypeId} {vs : List Value} {ds : List (DataW H)} {ps : List MemPlace}, (ts.all fun t => P.readableRec t && decide (t < P.types.size)) = true →
    DataW.TrodAll enc P W 0 (fun _ => true) true ts vs ds ps → (∀ p ∈ ps, p.block < W.heap.size) → (∀ p ∈ ps, sp p.block = true) → DataW.TrodAll enc P W' 0 sp true ts vs ds ps
  | [], _, _, _, _, h, _, _ => by
    obtain ⟨rfl, rfl, rfl⟩ := trodAll_nil h
    exact trodAll_mk0
  | t :: ts, _, _, _, hr, h, hlt, hsp => by
    obtain ⟨v, vs1, d, ds1, a, b, rfl, rfl, rfl, h1, h2⟩ := trodAll_cons h
    simp only [List.all_cons, Bool.and_eq_true, decide_eq_true_eq] at hr
    exact ⟨a, b, WideElems.Trod_stays hl hr.1.1 hr.1.2 h1 (fun x hx => he.same (hlt x (by simp [hx]))) (fun x hx => hsp x (by simp [hx])),
      trodAll_ext hl he hr.2 h2 (fun x hx => hlt x (by simp [hx])) (fun x hx => hsp x (by simp [hx])), rfl⟩
theorem post_true {H : Type} {enc : TypeId × Value → H} {P : Program} {f : Func} {s : ChangeSpec} {W W' : World} {args : Array Value} {ds gs : List (DataW H)} {before : List MemPlace} {tb : TypeId}
    (hW : DataW.Whole enc P f.params.toList s.vars false W args.toList ds gs before) (hl : laidOutB P = true) (hr : (f.params.toList.all fun t => P.readableRec t && decide (t < P.types.size)) = true)
    (hv : s.vars = []) (hres : f.resultTypes = #[tb]) (htb : P.underlying tb = some .bool) (h1 : (s.fn H ds).results = [.lit (.bool true)]) (h2 : (s.fn H ds).args = ds) (h3 : (s.fn H ds).vars = []) (he : Ext W W') :
    s.post enc P f false true false false W args (.bool true) W' := by
  have hW' := hW
  have hlt : ∀ p ∈ before, p.block < W.heap.size := fun p hp => hW'.lt p hp
  obtain ⟨p, q, hA, hV, rfl, hfz, hnd⟩ := hW
  rw [hv] at hV
  obtain ⟨rfl, rfl⟩ := trodVars_none hV
  refine ⟨ds, [], _, [], p, [], hW', ?_, ?_, ?_, ?_, fun h => by cases h⟩
  · rw [hres, List.append_nil, h1]
    exact trodAll_cons_mk (shut_bool htb _) trodAll_mk0
  · rw [List.append_nil, h2]
    exact trodAll_ext hl he hr hA (fun x hx => hlt x (by simpa using hx)) (fun x hx => by simpa using hlt x (by simpa using hx))
  · rw [List.append_nil, h3, hv]; rfl
  · exact he.frame _
theorem laidOut : laidOutB Tryz.prog = true := by kernel_rfl
theorem own : ownKnob Tryz.prog.godebug = none := by kernel_rfl
theorem open_byte {H : Type} {enc : TypeId × Value → H} {P : Program} {t : TypeId} {W : World} {base : Nat} {v : Value} {d : DataW H} {p : List MemPlace} (ht : P.underlying t = some (.int .u8))
    (hval : Value.okWide P W .any base t v) (h : DataW.Trod enc P W 0 (fun _ => true) true t v d p) : ∃ b, v = byteV b := by
  obtain ⟨n, rfl, _, _, hw⟩ := open_int ht hval h
  have := bounds_u8 hw
  refine ⟨UInt8.ofNat n.toNat, ?_⟩
  simp only [byteV, UInt8.toNat_ofNat']
  congr 1
  omega
theorem law_calls {f : FuncId} {ins : List AV} (h : Y E0 (.call f ins []) = some (.ret (.b true) [])) {w : World} {args : List Value} (hI : ∀ w', Ext w w' → I0 w') (hr : Reps ⟨fun k => k < 0, fun _ => undef, No, w⟩ ins args) : Calls Tryz.prog f args.toArray w (Ret fun v w' => v = .bool true ∧ Ext w w') := by
  refine Ret.mono (Y_call e0 h (fun _ => undef) No w args ⟨fun b hb => hb.elim, fun w' hs => hI w' hs.ext⟩ hr ⟨(fun k R h => by cases h), (fun k k' R R' b h => by cases h), fun k h => absurd h (has_nil k)⟩) ?_
  rintro v w' ⟨ν', ok⟩
  have h1 := ok.rep
  simp only [Rep] at h1
  refine ⟨h1, (ok.stp.mono fun i _ hh => ?_).ext⟩
  obtain ⟨k, R, hk, _⟩ := hh
  cases hk
theorem arg_one {τ : Ty} {x : El τ} {v : Value} {w : World} {N : Nat → Prop} {ν : Nat → Value} {a : AV} (hf : flat τ x = [a]) (hc : v.cells.toList = [v]) (h : CR τ x v.cells.toList w) : Reps ⟨N, ν, No, w⟩ [a] [v] := by
  rw [hc] at h
  have := CR.reps (c := ⟨N, ν, No, w⟩) (fun w' hs => h.ext (Stp.ext hs))
  rw [hf] at this; exact this
theorem gTab : Tryz.prog.globalNamed "sealwright/digest.round256" = some 0 := by kernel_rfl
theorem gTabType : (Tryz.prog.globals[0]?).map (·.type) = some 245 := by kernel_rfl
theorem cellsTab : Tryz.prog.cellsOf 245 = 64 := by kernel_rfl
theorem cellsWord : Tryz.prog.cellsOf 159 = 1 := by kernel_rfl
def k256i : List Int := k256.map fun x => (x.toNat : Int)
theorem laid_tab : (Rows.laid_sealwright_digest_round256 : DataW Unit) = Lib.tabData .u32 k256i := by kernel_rfl
theorem kt {W : World} (h : laidMetH Tryz.prog [("sealwright/digest.round256", Rows.laid_sealwright_digest_round256)] W) : KT W := by
  have h' : laidMet Tryz.prog [("sealwright/digest.round256", Lib.tabData .u32 k256i)] W := by
    have := h
    rw [← laid_tab]
    exact h
  have ht := Lib.tabIs_of_head (rest := []) gTab gTabType Tryz.underlying245 Tryz.underlying159 cellsWord cellsTab h'
  intro j hj
  rw [Nat.zero_add, ht.cell gTab j (show j < k256i.length from hj)]
  have hj' : j < k256.length := hj
  simp [k256i, List.getD, hj', wordV]
noncomputable def laidWorld (os : Os) : World :=
  { World.holding Tryz.prog os ⟨#[], #[], []⟩ with heap := (World.holding Tryz.prog os ⟨#[], #[], []⟩).heap.modify 0 fun
      | .cells _ t frozen => .cells (k256i.map fun z => Value.int .u32 z).toArray t frozen
      | o => o }
theorem hI0 {w : World} (h : laidMetH Tryz.prog [("sealwright/digest.round256", Rows.laid_sealwright_digest_round256)] w) : ∀ w', Ext w w' → I0 w' := fun w' he => (kt h).ext he
end Go.Proofs.YtfjcmolccckhhaaGreatDoor

namespace Go.Proofs.YtfjcmolccckhhaaGreatDoor
open Go
def iniH : List Char := ([104, 97, 114, 110, 101, 115, 115] : List Nat).map Char.ofNat
def iniS : List Char := ([102, 50, 97, 55, 54, 48, 55, 101, 100, 54, 56, 50, 100, 100, 49, 55, 101, 49, 102, 57, 48, 97, 51, 56, 99, 56, 55, 50, 57, 50, 55, 100, 48, 98, 100, 52, 98, 57, 99, 101, 99, 55, 100, 49, 49, 57, 98, 98, 53, 49, 101, 99, 50, 52, 97, 57, 52, 56, 52, 97, 99, 50, 54, 48] : List Nat).map Char.ofNat
def iniC : List Char := ([99, 117, 116] : List Nat).map Char.ofNat
def iniR : List Char := ([97, 116, 32, 115, 101, 97, 108, 119, 114, 105, 103, 104, 116, 47, 115, 101, 97, 108, 119, 114, 105, 103, 104, 116, 108, 97, 119, 50, 49, 46, 79, 98, 106, 101, 99, 116, 83, 97, 109, 101, 32, 115, 101, 97, 108, 119, 114, 105, 103, 104, 116, 47, 115, 101, 97, 108, 119, 114, 105, 103, 104, 116, 108, 97, 119, 50, 49, 46, 79, 98, 106, 101, 99, 116, 76, 101, 97, 118, 101, 115, 32, 115, 101, 97, 108, 119, 114, 105, 103, 104, 116, 47, 115, 101, 97, 108, 119, 114, 105, 103, 104, 116, 108, 97, 119, 50, 49, 46, 79, 98, 106, 101, 99, 116, 81, 117, 111, 116, 101, 32, 115, 101, 97, 108, 119, 114, 105, 103, 104, 116, 47, 115, 101, 97, 108, 119, 114, 105, 103, 104, 116, 108, 97, 119, 50, 49, 46, 79, 98, 106, 101, 99, 116, 84, 114, 105, 112, 32, 115, 101, 97, 108, 119, 114, 105, 103, 104, 116, 47, 115, 101, 97, 108, 119, 114, 105, 103, 104, 116, 108, 97, 119, 50, 49, 46, 79, 98, 106, 101, 99, 116, 75, 105, 110, 100, 115, 32, 115, 101, 97, 108, 119, 114, 105, 103, 104, 116, 47, 115, 101, 97, 108, 119, 114, 105, 103, 104, 116, 108, 97, 119, 50, 49, 46, 79, 98, 106, 101, 99, 116, 80, 114, 105, 109, 97, 114, 121, 32, 115, 101, 97, 108, 119, 114, 105, 103, 104, 116, 47, 115, 101, 97, 108, 119, 114, 105, 103, 104, 116, 108, 97, 119, 50, 49, 46, 79, 98, 106, 101, 99, 116, 67, 111, 109, 109, 97, 110, 100, 115] : List Nat).map Char.ofNat
def iniB : Char := Char.ofNat 32
def iniL : List Char := iniH ++ iniB :: (iniS ++ iniB :: (iniC ++ iniB :: iniR))
theorem iniE : Tryz.prog.initOrder = String.ofList iniL := by kernel_rfl
theorem words_cut : ∀ (w r : List Char), (w.all fun c => c != iniB) = true → wordsSigns (w ++ iniB :: r) = w :: wordsSigns r
  | [], r, _ => rfl
  | c :: w, r, h => by
    rw [List.all_cons, Bool.and_eq_true] at h
    have ih := words_cut w r h.2
    rw [List.cons_append]
    have hc : c ≠ iniB := by intro e; rw [e] at h; exact absurd h.1 (by decide)
    generalize wordsSigns r = g at ih ⊢
    unfold wordsSigns
    split
    · rename_i h1; cases h1
    · rename_i h1; cases h1; exact absurd rfl hc
    · rename_i h1; cases h1; rw [ih]
theorem iniW : wordsSigns Tryz.prog.initOrder.toList = iniH :: iniS :: iniC :: wordsSigns iniR := by
  rw [iniE, String.toList_ofList, iniL, words_cut _ _ (by decide +kernel), words_cut _ _ (by decide +kernel), words_cut _ _ (by decide +kernel)]
theorem tl {s : String} (l : List Char) (h : s = String.ofList l) : s.toList = l := by rw [h]; exact String.toList_ofList
theorem tlGc : "gc".toList = (([103, 99] : List Nat).map Char.ofNat) := tl _ (by kernel_rfl)
theorem tlSpec : "spec".toList = (([115, 112, 101, 99] : List Nat).map Char.ofNat) := tl _ (by kernel_rfl)
theorem tlCar : "carried".toList = (([99, 97, 114, 114, 105, 101, 100] : List Nat).map Char.ofNat) := tl _ (by kernel_rfl)
theorem tlCut : "cut".toList = iniC := tl _ (by kernel_rfl)
theorem tlHar : "harness".toList = iniH := tl _ (by kernel_rfl)
theorem tlW0 : "finals".toList = (([102, 105, 110, 97, 108, 115] : List Nat).map Char.ofNat) := tl _ (by kernel_rfl)
theorem tlW1 : "reflectrows".toList = (([114, 101, 102, 108, 101, 99, 116, 114, 111, 119, 115] : List Nat).map Char.ofNat) := tl _ (by kernel_rfl)
theorem tlW2 : "leanrows".toList = (([108, 101, 97, 110, 114, 111, 119, 115] : List Nat).map Char.ofNat) := tl _ (by kernel_rfl)
theorem tlW3 : "onebuild".toList = (([111, 110, 101, 98, 117, 105, 108, 100] : List Nat).map Char.ofNat) := tl _ (by kernel_rfl)
theorem tlW4 : "publicsums".toList = (([112, 117, 98, 108, 105, 99, 115, 117, 109, 115] : List Nat).map Char.ofNat) := tl _ (by kernel_rfl)
theorem tlW5 : "eqguard".toList = (([101, 113, 103, 117, 97, 114, 100] : List Nat).map Char.ofNat) := tl _ (by kernel_rfl)
theorem tlW6 : "ownunsafe".toList = (([111, 119, 110, 117, 110, 115, 97, 102, 101] : List Nat).map Char.ofNat) := tl _ (by kernel_rfl)
theorem tlW7 : "libbeside".toList = (([108, 105, 98, 98, 101, 115, 105, 100, 101] : List Nat).map Char.ofNat) := tl _ (by kernel_rfl)
theorem tlW8 : "ownbeside".toList = (([111, 119, 110, 98, 101, 115, 105, 100, 101] : List Nat).map Char.ofNat) := tl _ (by kernel_rfl)
theorem tlW9 : "reflbeside".toList = (([114, 101, 102, 108, 98, 101, 115, 105, 100, 101] : List Nat).map Char.ofNat) := tl _ (by kernel_rfl)
theorem tlW10 : "aliases".toList = (([97, 108, 105, 97, 115, 101, 115] : List Nat).map Char.ofNat) := tl _ (by kernel_rfl)
theorem tlW11 : "afterinit".toList = (([97, 102, 116, 101, 114, 105, 110, 105, 116] : List Nat).map Char.ofNat) := tl _ (by kernel_rfl)
theorem tlW12 : "crcplain".toList = (([99, 114, 99, 112, 108, 97, 105, 110] : List Nat).map Char.ofNat) := tl _ (by kernel_rfl)
theorem tlW13 : "roadunsafe".toList = (([114, 111, 97, 100, 117, 110, 115, 97, 102, 101] : List Nat).map Char.ofNat) := tl _ (by kernel_rfl)
theorem tlW14 : "fmthandon".toList = (([102, 109, 116, 104, 97, 110, 100, 111, 110] : List Nat).map Char.ofNat) := tl _ (by kernel_rfl)
theorem ini_skip (o : String) (os : List String) (l w : List Char) (ws : List (List Char)) (h : o.toList = l) (hw : (w == l) = false) : stripLifts (o :: os) (w :: ws) = stripLifts os (w :: ws) := by
  rw [stripLifts, h, hw, if_neg (by decide)]
theorem iniSt (X : List (List Char)) : stripLifts liftWords (iniC :: X) = ([], iniC :: X) := by
  unfold liftWords
  rw [ini_skip _ _ _ _ _ tlW0 (by decide +kernel)]
  rw [ini_skip _ _ _ _ _ tlW1 (by decide +kernel)]
  rw [ini_skip _ _ _ _ _ tlW2 (by decide +kernel)]
  rw [ini_skip _ _ _ _ _ tlW3 (by decide +kernel)]
  rw [ini_skip _ _ _ _ _ tlW4 (by decide +kernel)]
  rw [ini_skip _ _ _ _ _ tlW5 (by decide +kernel)]
  rw [ini_skip _ _ _ _ _ tlW6 (by decide +kernel)]
  rw [ini_skip _ _ _ _ _ tlW7 (by decide +kernel)]
  rw [ini_skip _ _ _ _ _ tlW8 (by decide +kernel)]
  rw [ini_skip _ _ _ _ _ tlW9 (by decide +kernel)]
  rw [ini_skip _ _ _ _ _ tlW10 (by decide +kernel)]
  rw [ini_skip _ _ _ _ _ tlW11 (by decide +kernel)]
  rw [ini_skip _ _ _ _ _ tlW12 (by decide +kernel)]
  rw [ini_skip _ _ _ _ _ tlW13 (by decide +kernel)]
  rw [ini_skip _ _ _ _ _ tlW14 (by decide +kernel)]
  rfl
theorem iniBe (X : List (List Char)) : behindMainWord (iniH :: iniS :: iniC :: X) = iniC :: X := by
  unfold behindMainWord; rw [tlHar]; kernel_rfl
theorem iniW2 : behindMainWord (wordsSigns Tryz.prog.initOrder.toList) = iniC :: wordsSigns iniR := by rw [iniW, iniBe]
theorem iniHd (P : Program) (X : List (List Char)) (h : behindMainWord (wordsSigns P.initOrder.toList) = iniC :: X) : P.headLifts = [] := by
  unfold Program.headLifts
  simp only [h, iniSt, tlCut]
  rfl
theorem mayOf (P : Program) (X : List (List Char)) (h : behindMainWord (wordsSigns P.initOrder.toList) = iniC :: X) (h1 : P.laysLater = false) (h2 : P.bearsReflect = false) (h3 : P.doorFits [] = true) : P.mayEnter = true := by
  unfold Program.mayEnter
  simp only [h, iniSt, tlCut, tlGc, tlSpec, tlCar, h1, h2, h3]
  rfl
theorem makeOf (P : Program) (X : List (List Char)) (h : behindMainWord (wordsSigns P.initOrder.toList) = iniC :: X) : P.make = some .cut := by
  unfold Program.make
  simp only [h, iniHd P X h, tlCut, tlGc, tlSpec, tlCar, tlW0]
  rw [if_neg (by decide +kernel), if_pos (by rw [show (iniC == iniC) = true from by decide +kernel]; rfl)]
theorem finOf (P : Program) (X : List (List Char)) (h : behindMainWord (wordsSigns P.initOrder.toList) = iniC :: X) : P.liftsFinal = false := by
  unfold Program.liftsFinal
  simp only [h, iniHd P X h, tlCut, tlGc, tlCar]
  rfl
theorem tlSum : "f2a7607ed682dd17e1f90a38c872927d0bd4b9cec7d119bb51ec24a9484ac260".toList = iniS := tl _ (by kernel_rfl)
theorem mainOf (P : Program) (X : List (List Char)) (h : wordsSigns P.initOrder.toList = iniH :: iniS :: X) : P.mainIs = some (true, iniS) := by
  unfold Program.mainIs
  simp only [h, tlHar]
  rw [if_neg (by rw [show isSumSigns iniS = true from by decide +kernel]; decide), if_pos (by decide +kernel)]
theorem iniG : Tryz.prog.mainIs = some (true, "f2a7607ed682dd17e1f90a38c872927d0bd4b9cec7d119bb51ec24a9484ac260".toList) := by rw [tlSum]; exact mainOf _ _ iniW
theorem iniM : Tryz.prog.mayEnter = true := mayOf _ _ iniW2 (by kernel_rfl) (by kernel_rfl) (by kernel_rfl)
theorem iniF : Tryz.prog.liftsFinal = false := finOf _ _ iniW2
theorem iniK : Tryz.prog.make = some .cut := makeOf _ _ iniW2
end Go.Proofs.YtfjcmolccckhhaaGreatDoor

namespace Go.Proofs.YtfjcmolccckhhaaGreatDoor
open Go Go.Ax
set_option linter.unusedVariables false
set_option linter.unusedSimpArgs false
attribute [local irreducible] iadd isub imul iquo irem ibit ineg ieq ine ilt ile ishl ishr beq' bnot and' seq' u8op u8rem u32op u64op u8shr u8shl u64shr u64shl u32shr u32shl i64w u8i u64i iu8 iu32 iu64 u8u64 u64u8 u32u8 u64cmp u8cmp u32cmp llen lget linb lset lcut lrep lapp lcpy lemp fits fitn ieqs sealed drawChk fpSame
set_option maxHeartbeats 1000000
set_option maxRecDepth 100000
end Go.Proofs.YtfjcmolccckhhaaGreatDoor

namespace Go.Proofs.YtfjcmolccckhhaaGreatDoor
open Go Go.Ax Go.Eng
set_option linter.unusedVariables false
set_option linter.unusedSimpArgs false
attribute [local irreducible] iadd isub imul iquo irem ibit ineg ieq ine ilt ile ishl ishr beq' bnot and' seq' u8op u8rem u32op u64op u8shr u8shl u64shr u64shl u32shr u32shl i64w u8i u64i iu8 iu32 iu64 u8u64 u64u8 u32u8 u64cmp u8cmp u32cmp llen lget linb lset lcut lrep lapp lcpy lemp fits fitn ieqs sealed drawChk fpSame
set_option maxHeartbeats 1000000
set_option maxRecDepth 100000
theorem ev_dig_frame_loop (tag : Int) (ls : List (List UInt8)) (hl : (frameB tag ls).length ≤ 4294967296) (hn : ls.length ≤ 4294967296) : ∀ (k i : Nat), i + k = ls.length →
    Y E0 (.loop 44 0 0 1 [(5, .nm 0), (12, .sl (.sl .u8) ls), (13, .i ls.length), (14, .i i)] [(0, some (.row 5 .u8 (frameB tag (ls.take i))))]) = some (.fin (.exit 0) 0 [(5, .sl .u8 (frameB tag ls))] [])
  | 0, i, hi => by
    have e : ls.take i = ls := List.take_of_length_le (by omega)
    rw [e]
    rw [Y_go]; conv => lhs; whnf
    rw [ilt_f (by omega)]
    conv => lhs; whnf
  | k + 1, i, hi => by
    have ih := ev_dig_frame_loop tag ls hl hn k (i + 1) (by omega)
    have hg : ls[i]? = some (ls[i]'(by omega)) := List.getElem?_eq_getElem (by omega)
    have h1 := frameB_snoc tag ls i _ hg
    have h2 := frameB_le tag ls (i + 1)
    have h3 := congrArg List.length h1
    simp only [List.length_append, len4_len] at h3
    rw [Y_go]; conv => lhs; whnf
    rw [ilt_t (by omega)]
    conv => lhs; whnf
    rw [lget_n (by omega)]
    conv => lhs; whnf
    rw [fits_t (by (simp only [LL] at * <;> omega))]
    conv => lhs; whnf
    rw [fits_t (by (simp only [LL] at * <;> omega))]
    conv => lhs; whnf
    rw [iadd_eq (by omega)]
    refine (congrArg (Y E0) ?_).trans ih; (try simp only [Rq.loop.injEq, Rq.call.injEq, Rq.ops.injEq, List.cons.injEq, Prod.mk.injEq, AV.i.injEq, AV.sl.injEq, AV.st.injEq, AV.b.injEq, AV.u8.injEq, AV.nm.injEq, Option.some.injEq, Rs.row.injEq, Rs.var.injEq, heq_eq_eq, true_and, and_true]); (try (repeat' apply And.intro)); all_goals first | (with_reducible rfl) | omega | (rw [iadd_eq (by omega)]; omega) | (rw [isub_eq (by omega)]; omega) | (rw [h1, lapp_eq, lapp_eq, dig4])
theorem ev_dig_frame (tag : Int) (ls : List (List UInt8)) (hl : (frameB tag ls).length ≤ 4294967296) (hn : ls.length ≤ 4294967296) : Y E0 (.call 44 [.i tag, .sl (.sl .u8) ls] []) = some (.ret (.sl .u8 (frameB tag ls)) []) := by
  rw [Y_go]; conv => lhs; whnf
  rw [toReq_loop]
  rw [show iu8 tag = UInt8.ofInt tag from iu8_eq _, show [UInt8.ofInt tag] = frameB tag (ls.take 0) from rfl, llen_eq]; rw [show (0 : Int) = ((0 : Nat) : Int) from rfl, ev_dig_frame_loop tag ls hl hn ls.length 0 (by omega)]
  conv => lhs; whnf
theorem ev_dig_hash (tag : Int) (ls : List (List UInt8)) (hl : (frameB tag ls).length ≤ 4294967295) (hn : ls.length ≤ 4294967296) : Y E0 (.call 122 [.i tag, .sl (.sl .u8) ls] []) = some (.ret (.sl .u8 (sha256 (frameB tag ls))) []) := by
  rw [Y_go]; conv => lhs; whnf
  rw [toReq_call]
  rw [ev_dig_frame _ _ (by omega) (by omega)]
  conv => lhs; whnf
  rw [toReq_call]
  rw [ev_dig_sum1 _ (by omega)]
  conv => lhs; whnf
end Go.Proofs.YtfjcmolccckhhaaGreatDoor
