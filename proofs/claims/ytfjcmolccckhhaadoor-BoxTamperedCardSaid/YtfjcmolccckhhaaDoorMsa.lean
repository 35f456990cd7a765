/-
  Own texts, laid together for this claim: contracts of functions of the program and its references, used by the statements of this seat.
-/
import Derived.Test.YtfjcmolccckhhaaDoorProg
import Derived.Test.YtfjcmolccckhhaaDoorRows
import Derived.Test.YtfjcmolccckhhaaDoorCards
import Derived.Test.YtfjcmolccckhhaaDoorTie
import Derived.WalkKit
import Derived.ProofKit
import Derived.OpenShut
import Derived.Carry
import Derived.ChangeSlices
import Derived.Deep.DeepHandedRow
import Derived.Lib.LaidTab
import Derived.JoinedCond
import Derived.Test.YtfjcmolccckhhaaDoorMgd
set_option linter.all false

namespace Go.Proofs.YtfjcmolccckhhaaDoor
open Go Go.RowKit Go.Eng Go.Ax
set_option maxRecDepth 100000
def TT0 : TT := [
  (22, ⟨(.sl 5), 1, 24, [.nil], some (.sl .u8), false, 0⟩),
  (3, ⟨.i64, 1, 8, [.i 0], some .i64, false, 0⟩),
  (5, ⟨.u8, 1, 1, [.u8 0], some .u8, false, 0⟩),
  (4, ⟨.bool, 1, 1, [.b false], some .bool, false, 0⟩),
  (49, ⟨(.sl 22), 1, 24, [.nil], some (.sl (.sl .u8)), false, 0⟩),
  (27, ⟨.i64, 1, 8, [.i 0], some .i64, false, 0⟩),
  (52, ⟨(.ptr 81), 1, 8, [.un], none, false, 0⟩),
  (9, ⟨.str, 1, 16, [.str []], some .str, false, 0⟩),
  (81, ⟨(.fld [(0, 1), (1, 1), (2, 1)] [true, true, true]), 3, 40, [.nil, .i 0, .i 0], some (.pair (.sl .u8) (.pair .i64 .i64)), false, 0⟩),
  (60, ⟨.u64, 1, 8, [.u64 0], some .u64, false, 0⟩),
  (96, ⟨.u64, 1, 8, [.u64 0], some .u64, false, 0⟩),
  (98, ⟨.u32, 1, 4, [.u32 0], some .u32, false, 0⟩),
  (99, ⟨(.arr 64 98), 64, 256, [.u32 0, .u32 0, .u32 0, .u32 0, .u32 0, .u32 0, .u32 0, .u32 0, .u32 0, .u32 0, .u32 0, .u32 0, .u32 0, .u32 0, .u32 0, .u32 0, .u32 0, .u32 0, .u32 0, .u32 0, .u32 0, .u32 0, .u32 0, .u32 0, .u32 0, .u32 0, .u32 0, .u32 0, .u32 0, .u32 0, .u32 0, .u32 0, .u32 0, .u32 0, .u32 0, .u32 0, .u32 0, .u32 0, .u32 0, .u32 0, .u32 0, .u32 0, .u32 0, .u32 0, .u32 0, .u32 0, .u32 0, .u32 0, .u32 0, .u32 0, .u32 0, .u32 0, .u32 0, .u32 0, .u32 0, .u32 0, .u32 0, .u32 0, .u32 0, .u32 0, .u32 0, .u32 0, .u32 0, .u32 0], none, false, 0⟩),
  (101, ⟨(.sl 98), 1, 24, [.nil], some (.sl .u32), false, 0⟩),
  (109, ⟨(.arr 5 98), 5, 20, [.u32 0, .u32 0, .u32 0, .u32 0, .u32 0], some (.pair .u32 (.pair .u32 (.pair .u32 (.pair .u32 .u32)))), false, 0⟩),
  (111, ⟨(.ptr 109), 1, 8, [.un], none, false, 0⟩),
  (112, ⟨(.arr 8 98), 8, 32, [.u32 0, .u32 0, .u32 0, .u32 0, .u32 0, .u32 0, .u32 0, .u32 0], some (.pair .u32 (.pair .u32 (.pair .u32 (.pair .u32 (.pair .u32 (.pair .u32 (.pair .u32 .u32))))))), false, 0⟩),
  (114, ⟨(.ptr 112), 1, 8, [.un], none, false, 0⟩)]
def FT0 : FT := [
  (3, ⟨[some (.sl .u8), some (.sl .u8), some (.sl .u8), some (.sl .u8), some .i64, some .u8], [some .bool], false, false, [], [(1, ⟨some [], [], none, false⟩), (3, ⟨some [], [], none, false⟩), (5, ⟨some [], [], none, false⟩), (12, ⟨some [13], [(13, 5, .u8)], some [0, 1, 2, 5, 13, 14, 15], true⟩), (18, ⟨some [13], [(13, 5, .u8)], some [0, 2, 5, 13, 16, 17, 18], true⟩), (19, ⟨some [], [], none, false⟩), (20, ⟨some [], [], none, false⟩)], ⟨none, [], none, false⟩, false⟩),
  (7, ⟨[], [some .bool], false, false, [], [(1, ⟨some [], [], none, false⟩), (2, ⟨some [], [], none, false⟩)], ⟨none, [], none, false⟩, false⟩),
  (8, ⟨[some (.sl (.sl .u8))], [some .bool], false, false, [(⟨some [], [], some [0, 3], false⟩, ⟨some [], [], some [2], false⟩)], [], ⟨none, [], none, false⟩, false⟩),
  (10, ⟨[some (.sl .u8), some (.sl .u8), some (.sl .u8), some (.sl .u8)], [some (.sl .u8)], false, false, [], [(3, ⟨some [], [], none, false⟩), (4, ⟨some [], [], none, false⟩), (5, ⟨some [10], [(10, 5, .u8)], none, false⟩)], ⟨none, [], none, false⟩, false⟩),
  (9, ⟨[some (.sl .u8)], [none], true, false, [], [], ⟨none, [(2, 5, .u8)], none, false⟩, false⟩),
  (11, ⟨[some (.sl .u8), some (.sl .u8), some (.sl .u8)], [some (.sl .u8), some .i64], false, false, [], [(1, ⟨some [], [], none, false⟩), (2, ⟨some [], [], none, false⟩), (3, ⟨some [], [], none, false⟩), (4, ⟨some [], [], none, false⟩), (5, ⟨some [], [], none, false⟩), (8, ⟨some [], [], none, false⟩), (10, ⟨some [], [], none, false⟩)], ⟨none, [], none, false⟩, false⟩),
  (13, ⟨[some (.sl .u8), some (.sl .u8), some (.sl .u8), some (.sl .u8)], [some (.sl .u8)], false, false, [], [(1, ⟨some [], [], none, false⟩), (2, ⟨some [], [], none, false⟩)], ⟨none, [], none, false⟩, false⟩),
  (12, ⟨[some (.sl .u8), some (.sl .u8)], [some .bool], false, false, [(⟨some [], [], some [0, 1, 5], false⟩, ⟨some [], [], some [4], false⟩)], [], ⟨none, [], none, false⟩, false⟩),
  (29, ⟨[some (.sl .u8), some (.sl .u8), some (.sl .u8)], [some (.sl .u8)], false, false, [(⟨some [9], [(9, 5, .u8)], some [8, 9, 21, 22], false⟩, ⟨some [], [], some [9], false⟩)], [(1, ⟨some [], [], none, false⟩), (7, ⟨some [9], [(9, 5, .u8)], none, false⟩)], ⟨none, [], none, false⟩, false⟩),
  (30, ⟨[some (.sl .u8), some (.sl .u8)], [none], true, false, [], [(2, ⟨some [], [], none, false⟩)], ⟨none, [(4, 5, .u8)], none, false⟩, false⟩),
  (31, ⟨[some (.sl .u8), some (.sl .u8), some (.sl .u8), some (.sl .u8)], [some (.sl .u8)], false, false, [], [(1, ⟨some [], [], none, false⟩), (2, ⟨some [], [], none, false⟩)], ⟨none, [], none, false⟩, false⟩),
  (32, ⟨[some (.sl .u8)], [none], false, false, [], [], ⟨none, [], none, false⟩, false⟩),
  (33, ⟨[none, some .i64], [some (.sl .u8)], false, false, [], [(4, ⟨some [], [], none, false⟩), (6, ⟨some [], [], none, false⟩), (10, ⟨some [], [], none, false⟩), (12, ⟨some [], [], none, false⟩), (14, ⟨some [], [], none, false⟩)], ⟨none, [], none, false⟩, false⟩),
  (34, ⟨[none, some .i64], [some (.sl .u8)], false, false, [], [(4, ⟨some [], [], none, false⟩), (6, ⟨some [], [], none, false⟩), (8, ⟨some [], [], none, false⟩)], ⟨none, [], none, false⟩, false⟩),
  (35, ⟨[none], [some .i64], false, false, [], [(1, ⟨some [], [], none, false⟩)], ⟨none, [], none, false⟩, false⟩),
  (36, ⟨[some (.sl .u8), some (.sl .u8)], [some .bool], false, false, [(⟨some [], [], some [0, 1, 5, 13, 14], false⟩, ⟨some [], [], some [5], false⟩)], [], ⟨none, [], none, false⟩, false⟩),
  (37, ⟨[some (.sl .u8), some .str, some (.sl .u8), some .i64], [some (.sl .u8)], false, false, [(⟨some [9], [(9, 5, .u8)], some [0, 1, 2, 3, 9, 10], false⟩, ⟨some [], [], some [3, 9], false⟩)], [(7, ⟨some [9], [(9, 5, .u8)], none, false⟩), (8, ⟨some [9, 11], [(9, 5, .u8), (11, 5, .u8)], none, false⟩), (9, ⟨some [9], [(9, 5, .u8)], none, false⟩)], ⟨none, [], none, false⟩, false⟩),
  (39, ⟨[some .i64, some (.sl (.sl .u8))], [some (.sl .u8)], false, false, [(⟨some [5], [(5, 5, .u8)], some [1, 5, 6], false⟩, ⟨some [], [], some [5], false⟩)], [], ⟨none, [], none, false⟩, false⟩),
  (38, ⟨[some (.sl .u8), some (.sl .u8)], [some (.sl .u8)], false, false, [(⟨some [5, 6], [(5, 5, .u8), (6, 5, .u8)], some [0, 1, 5, 6, 7], false⟩, ⟨some [5, 6], [(5, 5, .u8), (6, 5, .u8)], some [1, 5, 6], false⟩)], [(2, ⟨some [], [], none, false⟩), (3, ⟨some [], [], some [0, 1], true⟩), (10, ⟨some [5, 6], [(5, 5, .u8), (6, 5, .u8)], some [0, 1, 5, 6, 7, 8], true⟩), (11, ⟨some [5, 6], [(5, 5, .u8), (6, 5, .u8)], none, false⟩)], ⟨none, [], none, false⟩, false⟩),
  (59, ⟨[some (.sl .u8), some .str, some (.sl .u8), some .i64], [some (.sl .u8)], false, false, [(⟨some [10], [(10, 5, .u8)], some [0, 3, 9, 10, 11], false⟩, ⟨some [], [], some [3, 10], false⟩)], [(4, ⟨some [9], [(9, 5, .u8)], none, false⟩), (9, ⟨some [10], [(10, 5, .u8)], none, false⟩)], ⟨none, [], none, false⟩, false⟩),
  (63, ⟨[some .i64], [some .u8], false, false, [], [], ⟨none, [], none, false⟩, false⟩),
  (64, ⟨[some (.sl .u8), some .i64, some .i64], [none], true, false, [(⟨some [7], [(7, 5, .u8)], some [2, 7, 8], false⟩, ⟨some [7], [(7, 5, .u8)], some [7], false⟩)], [], ⟨none, [(6, 5, .u8)], none, false⟩, false⟩),
  (66, ⟨[some .i64, some (.sl (.sl .u8))], [some (.sl .u8)], false, false, [(⟨some [5], [(5, 5, .u8)], some [5, 12, 13, 14], false⟩, ⟨some [], [], some [5], false⟩)], [], ⟨none, [], none, false⟩, false⟩),
  (65, ⟨[some (.sl .u8), some (.sl .u8)], [some (.sl .u8)], false, false, [], [(2, ⟨some [], [], none, false⟩), (3, ⟨some [], [], some [1, 2], true⟩), (4, ⟨some [], [], none, false⟩), (5, ⟨some [], [], none, false⟩)], ⟨none, [], none, false⟩, false⟩),
  (67, ⟨[none, some .i64, some .i64], [some (.sl .u8), some .i64], false, false, [], [], ⟨none, [], none, false⟩, false⟩),
  (68, ⟨[none, some .i64], [], false, false, [], [], ⟨none, [], none, false⟩, false⟩),
  (69, ⟨[none], [some .i64], false, false, [], [], ⟨none, [], none, false⟩, false⟩),
  (70, ⟨[some .i64], [none], true, false, [], [], ⟨none, [(2, 5, .u8)], none, false⟩, false⟩),
  (71, ⟨[some (.sl .u8)], [some (.sl .u8)], false, false, [(⟨some [4], [(4, 98, .u32)], some [3, 4, 5, 6], false⟩, ⟨some [], [], some [4], false⟩), (⟨some [4, 7], [(4, 98, .u32)], some [3, 4, 5, 6, 7, 8], false⟩, ⟨some [4], [(4, 98, .u32)], some [3, 4, 5, 6, 7], false⟩), (⟨some [4], [(4, 98, .u32)], some [3, 4, 5, 6, 7, 11, 12], false⟩, ⟨some [4], [(4, 98, .u32)], some [3, 4, 5, 6, 11], false⟩), (⟨some [4], [(4, 98, .u32)], some [3, 4, 5, 6, 11, 17], false⟩, ⟨some [4], [(4, 98, .u32)], some [3, 4, 5, 6], false⟩)], [(1, ⟨some [], [], none, false⟩), (3, ⟨some [4], [(4, 98, .u32)], none, false⟩), (12, ⟨some [4, 7], [(4, 98, .u32)], none, false⟩), (13, ⟨some [4, 7], [(4, 98, .u32)], none, false⟩), (14, ⟨some [4, 7], [(4, 98, .u32)], none, false⟩), (10, ⟨some [4, 7], [(4, 98, .u32)], some [3, 4, 5, 6, 7, 8], true⟩), (21, ⟨some [4], [(4, 98, .u32)], none, false⟩), (22, ⟨some [4], [(4, 98, .u32)], none, false⟩), (28, ⟨some [], [], none, false⟩)], ⟨none, [], none, false⟩, false⟩),
  (96, ⟨[some .i64], [none], true, false, [], [], ⟨none, [(2, 5, .u8)], none, false⟩, false⟩),
  (99, ⟨[some .i64, some (.sl .u8)], [some (.sl .u8)], false, false, [(⟨some [], [], some [5, 6], false⟩, ⟨some [], [], some [5], false⟩), (⟨some [], [], some [7, 8], false⟩, ⟨some [], [], some [7], false⟩)], [(4, ⟨some [], [], none, false⟩), (7, ⟨some [], [], none, false⟩), (8, ⟨some [], [], none, false⟩), (11, ⟨some [], [], none, false⟩), (14, ⟨some [], [], none, false⟩), (15, ⟨some [], [], none, false⟩)], ⟨none, [], none, false⟩, false⟩),
  (100, ⟨[some .u8], [none], true, false, [(⟨some [4], [(4, 5, .u8)], some [0, 4, 10], false⟩, ⟨some [4], [(4, 5, .u8)], some [4], false⟩)], [], ⟨none, [(3, 5, .u8)], none, false⟩, false⟩),
  (101, ⟨[], [none], false, false, [], [], ⟨none, [], none, false⟩, false⟩),
  (102, ⟨[some (.sl .u8)], [some (.sl .u8)], false, false, [(⟨some [3], [(3, 5, .u8)], some [0, 3], false⟩, ⟨some [3], [(3, 5, .u8)], some [0, 3], false⟩), (⟨some [3], [(3, 5, .u8)], some [3, 4, 5], false⟩, ⟨some [], [], some [3], false⟩)], [], ⟨none, [], none, false⟩, false⟩),
  (103, ⟨[some (.sl .u8), some .i64], [some .u32], false, false, [], [], ⟨none, [], none, false⟩, false⟩),
  (104, ⟨[some .u32, some .u64], [some .u32], false, false, [], [], ⟨none, [], none, false⟩, false⟩),
  (105, ⟨[some (.sl .u32)], [some (.sl .u8)], false, false, [(⟨some [3], [(3, 5, .u8)], some [0, 3, 4], false⟩, ⟨some [], [], some [3], false⟩)], [], ⟨none, [], none, false⟩, false⟩),
  (115, ⟨[some (.sl .u8)], [some (.sl .u8)], false, false, [(⟨some [3], [(3, 5, .u8)], some [0, 3], false⟩, ⟨some [3], [(3, 5, .u8)], some [0, 3], false⟩), (⟨some [3], [(3, 5, .u8)], some [3, 4, 5], false⟩, ⟨some [], [], some [3], false⟩)], [], ⟨none, [], none, false⟩, false⟩),
  (116, ⟨[none, some (.sl .u8)], [], false, false, [(⟨some [4], [], some [0, 1, 4, 14], false⟩, ⟨some [], [], some [0, 4], false⟩), (⟨some [], [], some [0, 4, 6, 7, 8, 9, 10, 67], false⟩, ⟨some [], [], some [0, 6, 7, 8, 9, 10], false⟩)], [(5, ⟨some [4], [], none, false⟩), (6, ⟨some [4], [], none, false⟩), (7, ⟨some [4], [], some [0, 1, 4, 14], true⟩), (21, ⟨some [], [], some [0, 4, 6, 7, 8, 9, 10, 11, 12, 13, 67], true⟩)], ⟨none, [], none, false⟩, false⟩),
  (117, ⟨[some (.sl .u32)], [some (.sl .u8)], false, false, [(⟨some [3], [(3, 5, .u8)], some [3, 10, 11, 12], false⟩, ⟨some [], [], some [3], false⟩)], [], ⟨none, [], none, false⟩, false⟩),
  (118, ⟨[none, some (.sl .u8)], [], false, false, [(⟨some [4], [], some [0, 1, 4, 17], false⟩, ⟨some [], [], some [0, 4], false⟩), (⟨some [], [], some [0, 4, 10, 70], false⟩, ⟨some [], [], some [0, 10], false⟩), (⟨some [], [], some [0, 10, 152], false⟩, ⟨some [], [], some [], false⟩)], [(5, ⟨some [4], [], none, false⟩), (7, ⟨some [4], [], none, false⟩), (8, ⟨some [4], [], none, false⟩), (10, ⟨some [4], [], some [0, 1, 4, 17], true⟩), (16, ⟨some [], [], none, false⟩), (17, ⟨some [], [], none, false⟩)], ⟨none, [], none, false⟩, false⟩),
  (122, ⟨[some (.sl .u8), some .i64], [some .u32], false, false, [], [], ⟨none, [], none, false⟩, false⟩),
  (123, ⟨[some .u32, some .i64], [some .u32], false, false, [], [], ⟨none, [], none, false⟩, false⟩)]
noncomputable def CT0 : CT := [(3, Tryd.f3), (7, Tryd.f7), (8, Tryd.f8), (10, Tryd.f10), (9, Tryd.f9), (11, Tryd.f11), (13, Tryd.f13), (12, Tryd.f12), (29, Tryd.f29), (30, Tryd.f30), (31, Tryd.f31), (32, Tryd.f32), (33, Tryd.f33), (34, Tryd.f34), (35, Tryd.f35), (36, Tryd.f36), (37, Tryd.f37), (39, Tryd.f39), (38, Tryd.f38), (59, Tryd.f59), (63, Tryd.f63), (64, Tryd.f64), (66, Tryd.f66), (65, Tryd.f65), (67, Tryd.f67), (68, Tryd.f68), (69, Tryd.f69), (70, Tryd.f70), (71, Tryd.f71), (96, Tryd.f96), (99, Tryd.f99), (100, Tryd.f100), (101, Tryd.f101), (102, Tryd.f102), (103, Tryd.f103), (104, Tryd.f104), (105, Tryd.f105), (115, Tryd.f115), (116, Tryd.f116), (117, Tryd.f117), (118, Tryd.f118), (122, Tryd.f122), (123, Tryd.f123)]
theorem ct0 : CTok Tryd.prog CT0 := .cons Tryd.func3 (.cons Tryd.func7 (.cons Tryd.func8 (.cons Tryd.func10 (.cons Tryd.func9 (.cons Tryd.func11 (.cons Tryd.func13 (.cons Tryd.func12 (.cons Tryd.func29 (.cons Tryd.func30 (.cons Tryd.func31 (.cons Tryd.func32 (.cons Tryd.func33 (.cons Tryd.func34 (.cons Tryd.func35 (.cons Tryd.func36 (.cons Tryd.func37 (.cons Tryd.func39 (.cons Tryd.func38 (.cons Tryd.func59 (.cons Tryd.func63 (.cons Tryd.func64 (.cons Tryd.func66 (.cons Tryd.func65 (.cons Tryd.func67 (.cons Tryd.func68 (.cons Tryd.func69 (.cons Tryd.func70 (.cons Tryd.func71 (.cons Tryd.func96 (.cons Tryd.func99 (.cons Tryd.func100 (.cons Tryd.func101 (.cons Tryd.func102 (.cons Tryd.func103 (.cons Tryd.func104 (.cons Tryd.func105 (.cons Tryd.func115 (.cons Tryd.func116 (.cons Tryd.func117 (.cons Tryd.func118 (.cons Tryd.func122 (.cons Tryd.func123 (.nil)))))))))))))))))))))))))))))))))))))))))))
theorem ft0 : FTok Tryd.prog FT0 := FTok_of (.cons (Ent.mk Tryd.func3 (by kernel_rfl) rfl) (.cons (Ent.mk Tryd.func7 (by kernel_rfl) rfl) (.cons (Ent.mk Tryd.func8 (by kernel_rfl) rfl) (.cons (Ent.mk Tryd.func10 (by kernel_rfl) rfl) (.cons (Ent.mk Tryd.func9 (by kernel_rfl) rfl) (.cons (Ent.mk Tryd.func11 (by kernel_rfl) rfl) (.cons (Ent.mk Tryd.func13 (by kernel_rfl) rfl) (.cons (Ent.mk Tryd.func12 (by kernel_rfl) rfl) (.cons (Ent.mk Tryd.func29 (by kernel_rfl) rfl) (.cons (Ent.mk Tryd.func30 (by kernel_rfl) rfl) (.cons (Ent.mk Tryd.func31 (by kernel_rfl) rfl) (.cons (Ent.mk Tryd.func32 (by kernel_rfl) rfl) (.cons (Ent.mk Tryd.func33 (by kernel_rfl) rfl) (.cons (Ent.mk Tryd.func34 (by kernel_rfl) rfl) (.cons (Ent.mk Tryd.func35 (by kernel_rfl) rfl) (.cons (Ent.mk Tryd.func36 (by kernel_rfl) rfl) (.cons (Ent.mk Tryd.func37 (by kernel_rfl) rfl) (.cons (Ent.mk Tryd.func39 (by kernel_rfl) rfl) (.cons (Ent.mk Tryd.func38 (by kernel_rfl) rfl) (.cons (Ent.mk Tryd.func59 (by kernel_rfl) rfl) (.cons (Ent.mk Tryd.func63 (by kernel_rfl) rfl) (.cons (Ent.mk Tryd.func64 (by kernel_rfl) rfl) (.cons (Ent.mk Tryd.func66 (by kernel_rfl) rfl) (.cons (Ent.mk Tryd.func65 (by kernel_rfl) rfl) (.cons (Ent.mk Tryd.func67 (by kernel_rfl) rfl) (.cons (Ent.mk Tryd.func68 (by kernel_rfl) rfl) (.cons (Ent.mk Tryd.func69 (by kernel_rfl) rfl) (.cons (Ent.mk Tryd.func70 (by kernel_rfl) rfl) (.cons (Ent.mk Tryd.func71 (by kernel_rfl) rfl) (.cons (Ent.mk Tryd.func96 (by kernel_rfl) rfl) (.cons (Ent.mk Tryd.func99 (by kernel_rfl) rfl) (.cons (Ent.mk Tryd.func100 (by kernel_rfl) rfl) (.cons (Ent.mk Tryd.func101 (by kernel_rfl) rfl) (.cons (Ent.mk Tryd.func102 (by kernel_rfl) rfl) (.cons (Ent.mk Tryd.func103 (by kernel_rfl) rfl) (.cons (Ent.mk Tryd.func104 (by kernel_rfl) rfl) (.cons (Ent.mk Tryd.func105 (by kernel_rfl) rfl) (.cons (Ent.mk Tryd.func115 (by kernel_rfl) rfl) (.cons (Ent.mk Tryd.func116 (by kernel_rfl) rfl) (.cons (Ent.mk Tryd.func117 (by kernel_rfl) rfl) (.cons (Ent.mk Tryd.func118 (by kernel_rfl) rfl) (.cons (Ent.mk Tryd.func122 (by kernel_rfl) rfl) (.cons (Ent.mk Tryd.func123 (by kernel_rfl) rfl) (.nil))))))))))))))))))))))))))))))))))))))))))))
theorem tt0 : TTok Tryd.prog TT0 := ttB_ok (by kernel_rfl)
end Go.Proofs.YtfjcmolccckhhaaDoor

namespace Go.Proofs.YtfjcmolccckhhaaDoor
open Go Go.Ax Go.Eng Go.RowKit
set_option linter.unusedVariables false
set_option linter.unusedSimpArgs false
attribute [local irreducible] iadd isub imul iquo irem ibit ineg ieq ine ilt ile ishl ishr beq' bnot and' seq' u8op u8rem u32op u64op u8shr u8shl u64shr u64shl u32shr u32shl i64w u8i u64i iu8 iu32 iu64 u8u64 u64u8 u32u8 u64cmp u8cmp u32cmp llen lget linb lset lcut lrep lapp lcpy lemp fits fitn ieqs sealed drawChk fpSame
noncomputable def E00 : Env := ⟨TT0, FT0, CT0, fun _ => none⟩
noncomputable def ovC : Orc := fun _ => none
theorem ovC_ok {I : World → Prop} {E : Env} : ∀ q r, ovC q = some r → SemQ Tryd.prog I E q r := fun _ _ h => by cases h
end Go.Proofs.YtfjcmolccckhhaaDoor

namespace Go.Proofs.YtfjcmolccckhhaaDoor
open Go Go.RowKit Go.Eng
set_option linter.unusedVariables false
attribute [local irreducible] FW RL OP DR thn blk endp endg Calls
theorem rot_any (x : UInt32) (k : Int) (s : Nat) (w : World) (h0 : 0 < s ∧ s < 32) (hk : bop64 .and (UInt64.ofInt k) (UInt64.ofNat 31) = UInt64.ofNat s) :
    Calls Tryd.prog 123 #[wordV x, .int .i64 k] w (Ret fun v w' => v = wordV (rol x s) ∧ w = w') := by
  refine calls_of_FW [.u32 x, .v (.int .i64 k)] Tryd.func123 rfl Tryd.ntmps123 rfl rfl ?_
  have hs : (UInt64.ofNat s).toNat = s := by rw [UInt64.toNat_ofNat']; exact Nat.mod_eq_of_lt (by omega)
  have h32 : (bop64 .sub (UInt64.ofNat 32) (UInt64.ofNat s)).toNat = 32 - s := by
    simp only [bop64]
    rw [UInt64.toNat_sub_of_le]
    · rw [hs]; rfl
    · rw [UInt64.le_iff_toNat_le, hs]; show s ≤ 32; omega
  repeat (first | (first | refine FW_seq ?_ | refine FW_region ?_ | refine RL_nil ?_ | refine E_thn_n ?_ | refine FW_skip ?_ | refine FW_block ?_ | refine FW_exit ?_ | refine FW_ret ?_ | refine E_thn_x ?_ | refine E_thn_r ?_ | refine E_blk_n ?_ | refine E_blk_x ?_ | refine E_blk_o rfl ?_ | refine E_blk_r ?_) | (refine st ?_ rfl; (first | refine OP_move rfl ?_ | refine OP_assign rfl ?_ | refine OP_b64 rfl rfl rfl ?_ | refine OP_c64 (src := 3) (dst := 60) Tryd.underlying3 Tryd.underlying60 rfl ?_ )))
  rw [hk]
  refine st (OP_shl32 rfl rfl rfl (by omega) ?_) rfl
  repeat (first | (first | refine FW_seq ?_ | refine FW_region ?_ | refine RL_nil ?_ | refine E_thn_n ?_ | refine FW_skip ?_ | refine FW_block ?_ | refine FW_exit ?_ | refine FW_ret ?_ | refine E_thn_x ?_ | refine E_thn_r ?_ | refine E_blk_n ?_ | refine E_blk_x ?_ | refine E_blk_o rfl ?_ | refine E_blk_r ?_) | (refine st ?_ rfl; (first | refine OP_move rfl ?_ | refine OP_b64 rfl rfl rfl ?_ )))
  refine st (OP_shr32 rfl rfl rfl (Nat.lt_of_le_of_lt (Nat.le_of_eq h32) (by omega)) ?_) rfl
  repeat (first | (first | refine FW_seq ?_ | refine FW_region ?_ | refine RL_nil ?_ | refine E_thn_n ?_ | refine FW_skip ?_ | refine FW_block ?_ | refine FW_exit ?_ | refine FW_ret ?_ | refine E_thn_x ?_ | refine E_thn_r ?_ | refine E_blk_n ?_ | refine E_blk_x ?_ | refine E_blk_o rfl ?_ | refine E_blk_r ?_) | (refine st ?_ rfl; (first | refine OP_assign rfl ?_ | refine OP_b32 rfl rfl rfl ?_ )))
  refine E_end_r rfl ⟨?_, rfl⟩
  rw [hs, h32]
  rfl
theorem ref_rotr (x : UInt32) (m : UInt64) (w : World) (h0 : 0 < m.toNat ∧ m.toNat < 32) :
    Calls Tryd.prog 104 #[wordV x, longV m] w (Ret fun v w' => v = wordV (ror x m.toNat) ∧ w = w') := by
  refine calls_of_FW [.u32 x, .u64 m] Tryd.func104 rfl Tryd.ntmps104 rfl rfl ?_
  have h32 : (bop64 .sub (UInt64.ofNat 32) m).toNat = 32 - m.toNat := by
    simp only [bop64]
    rw [UInt64.toNat_sub_of_le]
    · rfl
    · rw [UInt64.le_iff_toNat_le]; show m.toNat ≤ 32; omega
  repeat (first | (first | refine FW_seq ?_ | refine FW_region ?_ | refine RL_nil ?_ | refine E_thn_n ?_ | refine FW_skip ?_ | refine FW_block ?_ | refine FW_exit ?_ | refine FW_ret ?_ | refine E_thn_x ?_ | refine E_thn_r ?_ | refine E_blk_n ?_ | refine E_blk_x ?_ | refine E_blk_o rfl ?_ | refine E_blk_r ?_) | (refine st ?_ rfl; (first | refine OP_move rfl ?_ | refine OP_assign rfl ?_ )))
  refine st (OP_shr32 rfl rfl rfl (by omega) ?_) rfl
  repeat (first | (first | refine FW_seq ?_ | refine FW_region ?_ | refine RL_nil ?_ | refine E_thn_n ?_ | refine FW_skip ?_ | refine FW_block ?_ | refine FW_exit ?_ | refine FW_ret ?_ | refine E_thn_x ?_ | refine E_thn_r ?_ | refine E_blk_n ?_ | refine E_blk_x ?_ | refine E_blk_o rfl ?_ | refine E_blk_r ?_) | (refine st ?_ rfl; (first | refine OP_move rfl ?_ | refine OP_b64 rfl rfl rfl ?_ )))
  refine st (OP_shl32 rfl rfl rfl (Nat.lt_of_le_of_lt (Nat.le_of_eq h32) (by omega)) ?_) rfl
  repeat (first | (first | refine FW_seq ?_ | refine FW_region ?_ | refine RL_nil ?_ | refine E_thn_n ?_ | refine FW_skip ?_ | refine FW_block ?_ | refine FW_exit ?_ | refine FW_ret ?_ | refine E_thn_x ?_ | refine E_thn_r ?_ | refine E_blk_n ?_ | refine E_blk_x ?_ | refine E_blk_o rfl ?_ | refine E_blk_r ?_) | (refine st ?_ rfl; (first | refine OP_assign rfl ?_ | refine OP_b32 rfl rfl rfl ?_ )))
  refine E_end_r rfl ⟨?_, rfl⟩
  rw [h32]
  rfl
theorem ts8 : SliceT Tryd.prog 22 5 (.int .u8 0) 1 1 := ⟨Tryd.underlying22, by kernel_rfl, rfl, by decide⟩
theorem mixed : Tryd.prog.follows .mixedOrders = true := by kernel_rfl
theorem bytes_at {w : World} {p : Addr} {l : List UInt8} (h : Cs w p (l.map byteV)) {w' : World} (he : Ext w w') (j : Nat) (hj : j < l.length) : w'.cell? (p.add j) = some (byteV (l.getD j 0)) := by
  refine h.ext he j _ ?_
  rw [List.getElem?_map, List.getElem?_eq_getElem hj]
  simp [List.getD, hj]
theorem dig_word (w : World) (v : Value) (l : List UInt8) (i : Int) (hB : Bytes w v l) (hi : 0 ≤ i ∧ 4 * i + 3 < l.length) :
    Calls Tryd.prog 122 #[v, .int .i64 i] w (Ret fun r w' => r = wordV (be32 l (4 * i).toNat) ∧ Ext w w') := by
  obtain ⟨a, cap, rfl, hl, h3, h4, h5, h6⟩ := hB
  have hmax : (l.length : Int) ≤ 9223372036854775807 := by unfold maxLen at h4; omega
  cases a with
  | none => have := (h5 rfl).1; omega
  | some p =>
    have hcs := h6 p rfl
    refine calls_of_FW [.v (.slice (some p) l.length cap), .v (.int .i64 i)] Tryd.func122 rfl Tryd.ntmps122 rfl rfl ?_
    repeat (first | (first | refine FW_seq ?_ | refine FW_region ?_ | refine RL_nil ?_ | refine E_thn_n ?_ | refine FW_skip ?_ | refine FW_block ?_ | refine FW_exit ?_ | refine FW_ret ?_ | refine E_thn_x ?_ | refine E_thn_r ?_ | refine E_blk_n ?_ | refine E_blk_x ?_ | refine E_blk_o rfl ?_ | refine E_blk_r ?_) | (refine st ?_ rfl; (first | refine OP_assign rfl ?_ )))
    refine FW_draw mixed 34 (by kernel_rfl) ?_
    repeat (first | refine dr rfl (fun w_ he_ => OP_move rfl ⟨Ext.refl _, rfl⟩) ?_ | refine dr rfl (fun w_ he_ => OP_assign rfl ⟨Ext.refl _, rfl⟩) ?_ | refine dr rfl (fun w_ he_ => OP_add rfl rfl (by omega) ⟨Ext.refl _, rfl⟩) ?_ | refine dr rfl (fun w_ he_ => OP_mul rfl rfl (by omega) ⟨Ext.refl _, rfl⟩) ?_ | refine dr rfl (fun w_ he_ => OP_b32 rfl rfl rfl ⟨Ext.refl _, rfl⟩) ?_ | refine dr rfl (fun w_ he_ => OP_shl32 rfl rfl rfl (by decide) ⟨Ext.refl _, rfl⟩) ?_ | refine dr rfl (fun w_ he_ => OP_c8_32 (src := 5) (dst := 98) Tryd.underlying5 Tryd.underlying98 rfl ⟨Ext.refl _, rfl⟩) ?_ | refine dr rfl (fun w_ he_ => OP_ixk ts8 rfl rfl rfl (by omega) ⟨Ext.refl _, rfl⟩) ?_ | refine dr rfl (fun w_ he_ => OP_load (s := .u8 _) Tryd.underlying5 rfl rfl (bytes_at (by assumption) he_ _ (by omega)) rfl ⟨Ext.refl _, rfl⟩) ?_ )
    refine dr_end fun w' he => ?_
    repeat (first | (first | refine FW_seq ?_ | refine FW_region ?_ | refine RL_nil ?_ | refine E_thn_n ?_ | refine FW_skip ?_ | refine FW_block ?_ | refine FW_exit ?_ | refine FW_ret ?_ | refine E_thn_x ?_ | refine E_thn_r ?_ | refine E_blk_n ?_ | refine E_blk_x ?_ | refine E_blk_o rfl ?_ | refine E_blk_r ?_) | (refine st ?_ rfl; (first | fail )))
    refine E_end_r rfl ⟨?_, he⟩
    have e1 : (4 * i + 1).toNat = (4 * i).toNat + 1 := by omega
    have e2 : (4 * i + 2).toNat = (4 * i).toNat + 2 := by omega
    have e3 : (4 * i + 3).toNat = (4 * i).toNat + 3 := by omega
    rw [e1, e2, e3]
    simp only [Nat.mul_one]
    rfl
theorem ref_word (w : World) (v : Value) (l : List UInt8) (i : Int) (hB : Bytes w v l) (hi : 0 ≤ i ∧ 4 * i + 3 < l.length) :
    Calls Tryd.prog 103 #[v, .int .i64 i] w (Ret fun r w' => r = wordV (be32 l (4 * i).toNat) ∧ Ext w w') := by
  obtain ⟨a, cap, rfl, hl, h3, h4, h5, h6⟩ := hB
  have hmax : (l.length : Int) ≤ 9223372036854775807 := by unfold maxLen at h4; omega
  cases a with
  | none => have := (h5 rfl).1; omega
  | some p =>
    have hcs := h6 p rfl
    refine calls_of_FW [.v (.slice (some p) l.length cap), .v (.int .i64 i)] Tryd.func103 rfl Tryd.ntmps103 rfl rfl ?_
    repeat (first | (first | refine FW_seq ?_ | refine FW_region ?_ | refine RL_nil ?_ | refine E_thn_n ?_ | refine FW_skip ?_ | refine FW_block ?_ | refine FW_exit ?_ | refine FW_ret ?_ | refine E_thn_x ?_ | refine E_thn_r ?_ | refine E_blk_n ?_ | refine E_blk_x ?_ | refine E_blk_o rfl ?_ | refine E_blk_r ?_) | (refine st ?_ rfl; (first | refine OP_assign rfl ?_ )))
    refine FW_draw mixed 34 (by kernel_rfl) ?_
    repeat (first | refine dr rfl (fun w_ he_ => OP_move rfl ⟨Ext.refl _, rfl⟩) ?_ | refine dr rfl (fun w_ he_ => OP_assign rfl ⟨Ext.refl _, rfl⟩) ?_ | refine dr rfl (fun w_ he_ => OP_add rfl rfl (by omega) ⟨Ext.refl _, rfl⟩) ?_ | refine dr rfl (fun w_ he_ => OP_mul rfl rfl (by omega) ⟨Ext.refl _, rfl⟩) ?_ | refine dr rfl (fun w_ he_ => OP_b32 rfl rfl rfl ⟨Ext.refl _, rfl⟩) ?_ | refine dr rfl (fun w_ he_ => OP_shl32 rfl rfl rfl (by decide) ⟨Ext.refl _, rfl⟩) ?_ | refine dr rfl (fun w_ he_ => OP_c8_32 (src := 5) (dst := 98) Tryd.underlying5 Tryd.underlying98 rfl ⟨Ext.refl _, rfl⟩) ?_ | refine dr rfl (fun w_ he_ => OP_ixk ts8 rfl rfl rfl (by omega) ⟨Ext.refl _, rfl⟩) ?_ | refine dr rfl (fun w_ he_ => OP_load (s := .u8 _) Tryd.underlying5 rfl rfl (bytes_at (by assumption) he_ _ (by omega)) rfl ⟨Ext.refl _, rfl⟩) ?_ )
    refine dr_end fun w' he => ?_
    repeat (first | (first | refine FW_seq ?_ | refine FW_region ?_ | refine RL_nil ?_ | refine E_thn_n ?_ | refine FW_skip ?_ | refine FW_block ?_ | refine FW_exit ?_ | refine FW_ret ?_ | refine E_thn_x ?_ | refine E_thn_r ?_ | refine E_blk_n ?_ | refine E_blk_x ?_ | refine E_blk_o rfl ?_ | refine E_blk_r ?_) | (refine st ?_ rfl; (first | fail )))
    refine E_end_r rfl ⟨?_, he⟩
    have e1 : (4 * i + 1).toNat = (4 * i).toNat + 1 := by omega
    have e2 : (4 * i + 2).toNat = (4 * i).toNat + 2 := by omega
    have e3 : (4 * i + 3).toNat = (4 * i).toNat + 3 := by omega
    rw [e1, e2, e3]
    simp only [Nat.mul_one]
    rfl
end Go.Proofs.YtfjcmolccckhhaaDoor

namespace Go.Proofs.YtfjcmolccckhhaaDoor
open Go Go.RowKit Go.Eng
set_option linter.unusedVariables false
attribute [local irreducible] FW RL OP DR thn blk endp endg Calls
abbrev OwnB (base : Nat) (w : World) (v : Value) (l : List UInt8) : Prop := Own byteV 5 base w v l
theorem sv_int {a b : Int} (h : a = b) : some (SV.v (.int .i64 a)) = some (SV.v (.int .i64 b)) := by rw [h]
theorem dig_pad (w : World) (v : Value) (l : List UInt8) (hB : Bytes w v l) (hl : l.length ≤ 4294967296) :
    Calls Tryd.prog 115 #[v] w (Ret fun r w' => OwnB w.heap.size w' r (padB l) ∧ Ext w w') := by
  refine calls_of_FW [.v v] Tryd.func115 rfl Tryd.ntmps115 rfl rfl ?_
  repeat (first | (first | refine FW_seq ?_ | refine FW_region ?_ | refine RL_nil ?_ | refine E_thn_n ?_ | refine FW_skip ?_ | refine FW_block ?_ | refine FW_exit ?_ | refine FW_ret ?_ | refine E_thn_x ?_ | refine E_thn_r ?_ | refine E_blk_n ?_ | refine E_blk_x ?_ | refine E_blk_o rfl ?_ | refine E_blk_r ?_) | (refine st ?_ rfl; (first | refine OP_move rfl ?_ | refine OP_assign rfl ?_ | refine OP_add rfl rfl (by omega) ?_ | refine OP_len (t := 22) Tryd.underlying22 rfl (by assumption) ?_ )))
  refine st (OP_mk0 UInt8 byteV ts8 rfl rfl (n := l.length + 72) (by omega) (Nat.le_refl _) fun v1 w1 ho1 he1 => ?_) rfl
  repeat (first | (first | refine FW_seq ?_ | refine FW_region ?_ | refine RL_nil ?_ | refine E_thn_n ?_ | refine FW_skip ?_ | refine FW_block ?_ | refine FW_exit ?_ | refine FW_ret ?_ | refine E_thn_x ?_ | refine E_thn_r ?_ | refine E_blk_n ?_ | refine E_blk_x ?_ | refine E_blk_o rfl ?_ | refine E_blk_r ?_) | (refine st ?_ rfl; (first | refine OP_move rfl ?_ )))
  refine st (OP_app ts8 byteV_1 rfl rfl ho1 (hB.ext he1) (by simp; omega) he1.size fun v2 w2 ho2 hb2 hg2 => ?_) rfl
  have he2 : Ext w w2 := he1.below hb2 (Nat.le_refl _)
  refine st (OP_li byte_ok byteV_1 ts8 rfl rfl rfl (base := w2.heap.size) (Nat.le_refl _) fun v3 w3 ho3 _ _ he3 => ?_) rfl
  refine st (OP_app ts8 byteV_1 rfl rfl (ho2.ext he3) ho3.hold (by simp; omega) (Nat.le_trans he2.size he3.size) fun v4 w4 ho4 hb4 hg4 => ?_) rfl
  have he4 : Ext w w4 := (he2.trans he3).below hb4 (Nat.le_refl _)
  repeat (first | (first | refine FW_seq ?_ | refine FW_region ?_ | refine RL_nil ?_ | refine E_thn_n ?_ | refine FW_skip ?_ | refine FW_block ?_ | refine FW_exit ?_ | refine FW_ret ?_ | refine E_thn_x ?_ | refine E_thn_r ?_ | refine E_blk_n ?_ | refine E_blk_x ?_ | refine E_blk_o rfl ?_ | refine E_blk_r ?_) | (refine st ?_ rfl; (first | refine OP_assign rfl ?_ )))
  refine FW_loop2 (fun (j : Nat) (p : Value) => [(3, .v p), (0, .v v)]) (fun j p w' => j ≤ zerosN l.length ∧ OwnB w.heap.size w' p (l ++ [128] ++ List.replicate j 0) ∧ Ext w w') (fun j _ => zerosN l.length - j) 0 v4
    ⟨rfl, rfl, trivial⟩ ⟨Nat.zero_le _, by simpa using ho4, he4⟩ ?_
  rintro j p wr ⟨hj, ho, he⟩
  have hlen : (l ++ [128] ++ List.replicate j 0).length = l.length + 1 + j := by simp; omega
  have hh := ho.hold
  have hz : zerosN l.length = (119 - l.length % 64) % 64 := rfl
  repeat (first | (first | refine FW_seq ?_ | refine FW_region ?_ | refine RL_nil ?_ | refine E_thn_n ?_ | refine FW_skip ?_ | refine FW_block ?_ | refine FW_exit ?_ | refine FW_ret ?_ | refine E_thn_x ?_ | refine E_thn_r ?_ | refine E_blk_n ?_ | refine E_blk_x ?_ | refine E_blk_o rfl ?_ | refine E_blk_r ?_) | (refine st ?_ rfl; (first | refine OP_move rfl ?_ | refine OP_cmp rfl rfl rfl rfl rfl ?_ | refine OP_rem rfl rfl (by omega) ?_ | refine OP_len (t := 22) Tryd.underlying22 rfl (by assumption) ?_ )))
  rw [hlen]
  repeat (first | (first | refine FW_seq ?_ | refine FW_region ?_ | refine RL_nil ?_ | refine E_thn_n ?_ | refine FW_skip ?_ | refine FW_block ?_ | refine FW_exit ?_ | refine FW_ret ?_ | refine E_thn_x ?_ | refine E_thn_r ?_ | refine E_blk_n ?_ | refine E_blk_x ?_ | refine E_blk_o rfl ?_ | refine E_blk_r ?_) | (refine st ?_ rfl; (first | fail )))
  refine FW_cond rfl (fun hc => ?_) (fun hc => ?_)
  · simp only [cmpB, bne_iff_ne, ne_eq] at hc
    repeat (first | (first | refine FW_seq ?_ | refine FW_region ?_ | refine RL_nil ?_ | refine E_thn_n ?_ | refine FW_skip ?_ | refine FW_block ?_ | refine FW_exit ?_ | refine FW_ret ?_ | refine E_thn_x ?_ | refine E_thn_r ?_ | refine E_blk_n ?_ | refine E_blk_x ?_ | refine E_blk_o rfl ?_ | refine E_blk_r ?_) | (refine st ?_ rfl; (first | refine OP_move rfl ?_ )))
    refine st (OP_li byte_ok byteV_1 ts8 rfl rfl rfl (base := wr.heap.size) (Nat.le_refl _) fun v3 w3 ho3 _ _ he3 => ?_) rfl
    refine st (OP_app ts8 byteV_1 rfl rfl (ho.ext he3) ho3.hold (by rw [hlen]; simp; omega) (Nat.le_trans he.size he3.size) fun v4 w4 ho4 hb4 hg4 => ?_) rfl
    repeat (first | (first | refine FW_seq ?_ | refine FW_region ?_ | refine RL_nil ?_ | refine E_thn_n ?_ | refine FW_skip ?_ | refine FW_block ?_ | refine FW_exit ?_ | refine FW_ret ?_ | refine E_thn_x ?_ | refine E_thn_r ?_ | refine E_blk_n ?_ | refine E_blk_x ?_ | refine E_blk_o rfl ?_ | refine E_blk_r ?_) | (refine st ?_ rfl; (first | refine OP_assign rfl ?_ )))
    refine ⟨j + 1, v4, ⟨rfl, rfl, trivial⟩, ⟨by omega, ?_, (he.trans he3).below hb4 (Nat.le_refl _)⟩, by omega⟩
    rw [List.append_assoc] at ho4
    simp only [List.replicate_succ']
    simpa using ho4
  · simp only [cmpB, bne_eq_false_iff_eq] at hc
    have hjz : j = zerosN l.length := by omega
    have hB' := hB.ext he
    repeat (first | (first | refine FW_seq ?_ | refine FW_region ?_ | refine RL_nil ?_ | refine E_thn_n ?_ | refine FW_skip ?_ | refine FW_block ?_ | refine FW_exit ?_ | refine FW_ret ?_ | refine E_thn_x ?_ | refine E_thn_r ?_ | refine E_blk_n ?_ | refine E_blk_x ?_ | refine E_blk_o rfl ?_ | refine E_blk_r ?_) | (refine st ?_ rfl; (first | refine OP_move rfl ?_ | refine OP_assign rfl ?_ | refine OP_b64 rfl rfl rfl ?_ | refine OP_c64 (src := 3) (dst := 96) Tryd.underlying3 Tryd.underlying96 rfl ?_ | refine OP_len (t := 22) Tryd.underlying22 rfl (by assumption) ?_ )))
    refine FW_loop2 (fun (m : Nat) (p : Value) => [(3, .v p), (4, .u64 (UInt64.ofInt (l.length : Int) * 8)), (5, .v (.int .i64 (56 - 8 * (m : Int))))])
      (fun m p w' => m ≤ 8 ∧ OwnB w.heap.size w' p (l ++ [128] ++ List.replicate (zerosN l.length) 0 ++ (be64 (UInt64.ofInt (l.length : Int) * 8)).take m) ∧ Ext w w') (fun m _ => 8 - m) 0 p
      ⟨rfl, rfl, rfl, trivial⟩ ⟨by omega, by rw [← hjz]; simpa using ho, he⟩ ?_
    clear hj ho he hlen hh hc hjz hB' j p wr
    rintro m p wr ⟨hm, ho, he⟩
    repeat (first | (first | refine FW_seq ?_ | refine FW_region ?_ | refine RL_nil ?_ | refine E_thn_n ?_ | refine FW_skip ?_ | refine FW_block ?_ | refine FW_exit ?_ | refine FW_ret ?_ | refine E_thn_x ?_ | refine E_thn_r ?_ | refine E_blk_n ?_ | refine E_blk_x ?_ | refine E_blk_o rfl ?_ | refine E_blk_r ?_) | (refine st ?_ rfl; (first | refine OP_move rfl ?_ | refine OP_cmp rfl rfl rfl rfl rfl ?_ )))
    refine FW_cond rfl (fun hc => ?_) (fun hc => ?_)
    · simp only [cmpB, decide_eq_true_eq] at hc
      repeat (first | (first | refine FW_seq ?_ | refine FW_region ?_ | refine RL_nil ?_ | refine E_thn_n ?_ | refine FW_skip ?_ | refine FW_block ?_ | refine FW_exit ?_ | refine FW_ret ?_ | refine E_thn_x ?_ | refine E_thn_r ?_ | refine E_blk_n ?_ | refine E_blk_x ?_ | refine E_blk_o rfl ?_ | refine E_blk_r ?_) | (refine st ?_ rfl; (first | refine OP_move rfl ?_ | refine OP_shr64i rfl rfl rfl (by omega) ?_ | refine OP_cnt (src := 3) (dst := 60) Tryd.underlying3 Tryd.underlying60 rfl (by omega) ?_ | refine OP_c64_8 (src := 96) (dst := 5) Tryd.underlying96 Tryd.underlying5 rfl ?_ )))
      refine st (OP_li byte_ok byteV_1 ts8 rfl rfl rfl (base := wr.heap.size) (Nat.le_refl _) fun v3 w3 ho3 _ _ he3 => ?_) rfl
      refine st (OP_app ts8 byteV_1 rfl rfl (ho.ext he3) ho3.hold (by simp [be64, zerosN]; omega) (Nat.le_trans he.size he3.size) fun v4 w4 ho4 hb4 hg4 => ?_) rfl
      repeat (first | (first | refine FW_seq ?_ | refine FW_region ?_ | refine RL_nil ?_ | refine E_thn_n ?_ | refine FW_skip ?_ | refine FW_block ?_ | refine FW_exit ?_ | refine FW_ret ?_ | refine E_thn_x ?_ | refine E_thn_r ?_ | refine E_blk_n ?_ | refine E_blk_x ?_ | refine E_blk_o rfl ?_ | refine E_blk_r ?_) | (refine st ?_ rfl; (first | refine OP_move rfl ?_ | refine OP_assign rfl ?_ | refine OP_sub rfl rfl (by omega) ?_ )))
      refine ⟨m + 1, v4, ⟨rfl, rfl, sv_int (by omega), trivial⟩, ⟨by omega, ?_, (he.trans he3).below hb4 (Nat.le_refl _)⟩, by omega⟩
      · rw [be64_take _ _ (by omega), ← List.append_assoc]
        have e : (56 - 8 * (m : Int)).toNat = 56 - 8 * m := by omega
        rw [e] at ho4
        exact ho4
    · simp only [cmpB, decide_eq_false_iff_not] at hc
      have hm8 : m = 8 := by omega
      subst hm8
      rw [be64_take8] at ho
      repeat (first | (first | refine FW_seq ?_ | refine FW_region ?_ | refine RL_nil ?_ | refine E_thn_n ?_ | refine FW_skip ?_ | refine FW_block ?_ | refine FW_exit ?_ | refine FW_ret ?_ | refine E_thn_x ?_ | refine E_thn_r ?_ | refine E_blk_n ?_ | refine E_blk_x ?_ | refine E_blk_o rfl ?_ | refine E_blk_r ?_) | (refine st ?_ rfl; (first | refine OP_move rfl ?_ | refine OP_assign rfl ?_ )))
      exact E_end_r rfl ⟨ho, he⟩
theorem ref_pad (w : World) (v : Value) (l : List UInt8) (hB : Bytes w v l) (hl : l.length ≤ 4294967296) :
    Calls Tryd.prog 102 #[v] w (Ret fun r w' => OwnB w.heap.size w' r (padB l) ∧ Ext w w') := by
  refine calls_of_FW [.v v] Tryd.func102 rfl Tryd.ntmps102 rfl rfl ?_
  repeat (first | (first | refine FW_seq ?_ | refine FW_region ?_ | refine RL_nil ?_ | refine E_thn_n ?_ | refine FW_skip ?_ | refine FW_block ?_ | refine FW_exit ?_ | refine FW_ret ?_ | refine E_thn_x ?_ | refine E_thn_r ?_ | refine E_blk_n ?_ | refine E_blk_x ?_ | refine E_blk_o rfl ?_ | refine E_blk_r ?_) | (refine st ?_ rfl; (first | refine OP_assign rfl ?_ )))
  refine st (OP_li byte_ok byteV_1 ts8 rfl rfl rfl (base := w.heap.size) (Nat.le_refl _) fun v1 w1 ho1 _ _ he1 => ?_) rfl
  repeat (first | (first | refine FW_seq ?_ | refine FW_region ?_ | refine RL_nil ?_ | refine E_thn_n ?_ | refine FW_skip ?_ | refine FW_block ?_ | refine FW_exit ?_ | refine FW_ret ?_ | refine E_thn_x ?_ | refine E_thn_r ?_ | refine E_blk_n ?_ | refine E_blk_x ?_ | refine E_blk_o rfl ?_ | refine E_blk_r ?_) | (refine st ?_ rfl; (first | refine OP_move rfl ?_ )))
  refine st (OP_app ts8 byteV_1 rfl rfl ho1 (hB.ext he1) (by simp; omega) he1.size fun v2 w2 ho2 hb2 hg2 => ?_) rfl
  have he2 : Ext w w2 := he1.below hb2 (Nat.le_refl _)
  refine st (OP_li byte_ok byteV_1 ts8 rfl rfl rfl (base := w2.heap.size) (Nat.le_refl _) fun v3 w3 ho3 _ _ he3 => ?_) rfl
  refine st (OP_app ts8 byteV_1 rfl rfl (ho2.ext he3) ho3.hold (by simp; omega) (Nat.le_trans he2.size he3.size) fun v4 w4 ho4 hb4 hg4 => ?_) rfl
  have he4 : Ext w w4 := (he2.trans he3).below hb4 (Nat.le_refl _)
  repeat (first | (first | refine FW_seq ?_ | refine FW_region ?_ | refine RL_nil ?_ | refine E_thn_n ?_ | refine FW_skip ?_ | refine FW_block ?_ | refine FW_exit ?_ | refine FW_ret ?_ | refine E_thn_x ?_ | refine E_thn_r ?_ | refine E_blk_n ?_ | refine E_blk_x ?_ | refine E_blk_o rfl ?_ | refine E_blk_r ?_) | (refine st ?_ rfl; (first | refine OP_assign rfl ?_ )))
  refine FW_loop2 (fun (j : Nat) (p : Value) => [(3, .v p), (0, .v v)]) (fun j p w' => j ≤ zerosN l.length ∧ OwnB w.heap.size w' p (l ++ [128] ++ List.replicate j 0) ∧ Ext w w') (fun j _ => zerosN l.length - j) 0 v4
    ⟨rfl, rfl, trivial⟩ ⟨Nat.zero_le _, by simpa using ho4, he4⟩ ?_
  rintro j p wr ⟨hj, ho, he⟩
  have hlen : (l ++ [128] ++ List.replicate j 0).length = l.length + 1 + j := by simp; omega
  have hh := ho.hold
  have hz : zerosN l.length = (119 - l.length % 64) % 64 := rfl
  repeat (first | (first | refine FW_seq ?_ | refine FW_region ?_ | refine RL_nil ?_ | refine E_thn_n ?_ | refine FW_skip ?_ | refine FW_block ?_ | refine FW_exit ?_ | refine FW_ret ?_ | refine E_thn_x ?_ | refine E_thn_r ?_ | refine E_blk_n ?_ | refine E_blk_x ?_ | refine E_blk_o rfl ?_ | refine E_blk_r ?_) | (refine st ?_ rfl; (first | refine OP_move rfl ?_ | refine OP_cmp rfl rfl rfl rfl rfl ?_ | refine OP_rem rfl rfl (by omega) ?_ | refine OP_len (t := 22) Tryd.underlying22 rfl (by assumption) ?_ )))
  rw [hlen]
  repeat (first | (first | refine FW_seq ?_ | refine FW_region ?_ | refine RL_nil ?_ | refine E_thn_n ?_ | refine FW_skip ?_ | refine FW_block ?_ | refine FW_exit ?_ | refine FW_ret ?_ | refine E_thn_x ?_ | refine E_thn_r ?_ | refine E_blk_n ?_ | refine E_blk_x ?_ | refine E_blk_o rfl ?_ | refine E_blk_r ?_) | (refine st ?_ rfl; (first | fail )))
  refine FW_cond rfl (fun hc => ?_) (fun hc => ?_)
  · simp only [cmpB, bne_iff_ne, ne_eq] at hc
    repeat (first | (first | refine FW_seq ?_ | refine FW_region ?_ | refine RL_nil ?_ | refine E_thn_n ?_ | refine FW_skip ?_ | refine FW_block ?_ | refine FW_exit ?_ | refine FW_ret ?_ | refine E_thn_x ?_ | refine E_thn_r ?_ | refine E_blk_n ?_ | refine E_blk_x ?_ | refine E_blk_o rfl ?_ | refine E_blk_r ?_) | (refine st ?_ rfl; (first | refine OP_move rfl ?_ )))
    refine st (OP_li byte_ok byteV_1 ts8 rfl rfl rfl (base := wr.heap.size) (Nat.le_refl _) fun v3 w3 ho3 _ _ he3 => ?_) rfl
    refine st (OP_app ts8 byteV_1 rfl rfl (ho.ext he3) ho3.hold (by rw [hlen]; simp; omega) (Nat.le_trans he.size he3.size) fun v4 w4 ho4 hb4 hg4 => ?_) rfl
    repeat (first | (first | refine FW_seq ?_ | refine FW_region ?_ | refine RL_nil ?_ | refine E_thn_n ?_ | refine FW_skip ?_ | refine FW_block ?_ | refine FW_exit ?_ | refine FW_ret ?_ | refine E_thn_x ?_ | refine E_thn_r ?_ | refine E_blk_n ?_ | refine E_blk_x ?_ | refine E_blk_o rfl ?_ | refine E_blk_r ?_) | (refine st ?_ rfl; (first | refine OP_assign rfl ?_ )))
    refine ⟨j + 1, v4, ⟨rfl, rfl, trivial⟩, ⟨by omega, ?_, (he.trans he3).below hb4 (Nat.le_refl _)⟩, by omega⟩
    rw [List.append_assoc] at ho4
    simp only [List.replicate_succ']
    simpa using ho4
  · simp only [cmpB, bne_eq_false_iff_eq] at hc
    have hjz : j = zerosN l.length := by omega
    have hB' := hB.ext he
    repeat (first | (first | refine FW_seq ?_ | refine FW_region ?_ | refine RL_nil ?_ | refine E_thn_n ?_ | refine FW_skip ?_ | refine FW_block ?_ | refine FW_exit ?_ | refine FW_ret ?_ | refine E_thn_x ?_ | refine E_thn_r ?_ | refine E_blk_n ?_ | refine E_blk_x ?_ | refine E_blk_o rfl ?_ | refine E_blk_r ?_) | (refine st ?_ rfl; (first | refine OP_move rfl ?_ | refine OP_assign rfl ?_ | refine OP_b64 rfl rfl rfl ?_ | refine OP_c64 (src := 3) (dst := 96) Tryd.underlying3 Tryd.underlying96 rfl ?_ | refine OP_len (t := 22) Tryd.underlying22 rfl (by assumption) ?_ )))
    refine FW_loop2 (fun (m : Nat) (p : Value) => [(3, .v p), (4, .u64 (UInt64.ofInt (l.length : Int) * 8)), (5, .v (.int .i64 (7 - (m : Int))))])
      (fun m p w' => m ≤ 8 ∧ OwnB w.heap.size w' p (l ++ [128] ++ List.replicate (zerosN l.length) 0 ++ (be64 (UInt64.ofInt (l.length : Int) * 8)).take m) ∧ Ext w w') (fun m _ => 8 - m) 0 p
      ⟨rfl, rfl, rfl, trivial⟩ ⟨by omega, by rw [← hjz]; simpa using ho, he⟩ ?_
    clear hj ho he hlen hh hc hjz hB' j p wr
    rintro m p wr ⟨hm, ho, he⟩
    repeat (first | (first | refine FW_seq ?_ | refine FW_region ?_ | refine RL_nil ?_ | refine E_thn_n ?_ | refine FW_skip ?_ | refine FW_block ?_ | refine FW_exit ?_ | refine FW_ret ?_ | refine E_thn_x ?_ | refine E_thn_r ?_ | refine E_blk_n ?_ | refine E_blk_x ?_ | refine E_blk_o rfl ?_ | refine E_blk_r ?_) | (refine st ?_ rfl; (first | refine OP_move rfl ?_ | refine OP_cmp rfl rfl rfl rfl rfl ?_ )))
    refine FW_cond rfl (fun hc => ?_) (fun hc => ?_)
    · simp only [cmpB, decide_eq_true_eq] at hc
      repeat (first | (first | refine FW_seq ?_ | refine FW_region ?_ | refine RL_nil ?_ | refine E_thn_n ?_ | refine FW_skip ?_ | refine FW_block ?_ | refine FW_exit ?_ | refine FW_ret ?_ | refine E_thn_x ?_ | refine E_thn_r ?_ | refine E_blk_n ?_ | refine E_blk_x ?_ | refine E_blk_o rfl ?_ | refine E_blk_r ?_) | (refine st ?_ rfl; (first | refine OP_move rfl ?_ | refine OP_cnt (src := 3) (dst := 60) Tryd.underlying3 Tryd.underlying60 rfl (by omega) ?_ )))
      refine st (OP_umul (a := 8) rfl rfl rfl rfl (by omega) ?_) rfl
      repeat (first | (first | refine FW_seq ?_ | refine FW_region ?_ | refine RL_nil ?_ | refine E_thn_n ?_ | refine FW_skip ?_ | refine FW_block ?_ | refine FW_exit ?_ | refine FW_ret ?_ | refine E_thn_x ?_ | refine E_thn_r ?_ | refine E_blk_n ?_ | refine E_blk_x ?_ | refine E_blk_o rfl ?_ | refine E_blk_r ?_) | (refine st ?_ rfl; (first | refine OP_shr64i rfl rfl rfl (by omega) ?_ | refine OP_c64_8 (src := 96) (dst := 5) Tryd.underlying96 Tryd.underlying5 rfl ?_ )))
      refine st (OP_li byte_ok byteV_1 ts8 rfl rfl rfl (base := wr.heap.size) (Nat.le_refl _) fun v3 w3 ho3 _ _ he3 => ?_) rfl
      refine st (OP_app ts8 byteV_1 rfl rfl (ho.ext he3) ho3.hold (by simp [be64, zerosN]; omega) (Nat.le_trans he.size he3.size) fun v4 w4 ho4 hb4 hg4 => ?_) rfl
      repeat (first | (first | refine FW_seq ?_ | refine FW_region ?_ | refine RL_nil ?_ | refine E_thn_n ?_ | refine FW_skip ?_ | refine FW_block ?_ | refine FW_exit ?_ | refine FW_ret ?_ | refine E_thn_x ?_ | refine E_thn_r ?_ | refine E_blk_n ?_ | refine E_blk_x ?_ | refine E_blk_o rfl ?_ | refine E_blk_r ?_) | (refine st ?_ rfl; (first | refine OP_move rfl ?_ | refine OP_assign rfl ?_ | refine OP_sub rfl rfl (by omega) ?_ )))
      refine ⟨m + 1, v4, ⟨rfl, rfl, sv_int (by omega), trivial⟩, ⟨by omega, ?_, (he.trans he3).below hb4 (Nat.le_refl _)⟩, by omega⟩
      · rw [be64_take _ _ (by omega), ← List.append_assoc]
        have e : (8 * (7 - (m : Int))).toNat = 56 - 8 * m := by omega
        rw [e] at ho4
        exact ho4
    · simp only [cmpB, decide_eq_false_iff_not] at hc
      have hm8 : m = 8 := by omega
      subst hm8
      rw [be64_take8] at ho
      repeat (first | (first | refine FW_seq ?_ | refine FW_region ?_ | refine RL_nil ?_ | refine E_thn_n ?_ | refine FW_skip ?_ | refine FW_block ?_ | refine FW_exit ?_ | refine FW_ret ?_ | refine E_thn_x ?_ | refine E_thn_r ?_ | refine E_blk_n ?_ | refine E_blk_x ?_ | refine E_blk_o rfl ?_ | refine E_blk_r ?_) | (refine st ?_ rfl; (first | refine OP_move rfl ?_ | refine OP_assign rfl ?_ )))
      exact E_end_r rfl ⟨ho, he⟩
theorem ts32 : SliceT Tryd.prog 101 98 (.int .u32 0) 1 4 := ⟨Tryd.underlying101, by kernel_rfl, rfl, by decide⟩
theorem spread_snoc (ws : List UInt32) (k : Nat) (x : UInt32) (hx : ws[k]? = some x) : spreadB (ws.take (k + 1)) = spreadB (ws.take k) ++ wb x := by
  have hk : k < ws.length := (List.getElem?_eq_some_iff.1 hx).1
  have he : ws[k] = x := (List.getElem?_eq_some_iff.1 hx).2
  rw [List.take_succ_eq_append_getElem hk, he]
  simp [spreadB]
theorem dig_spread (w : World) (v : Value) (ws : List UInt32) (hB : Words w v ws) (hl : ws.length ≤ 4294967296) :
    Calls Tryd.prog 117 #[v] w (Ret fun r w' => OwnB w.heap.size w' r (spreadB ws) ∧ Ext w w') := by
  refine calls_of_FW [.v v] Tryd.func117 rfl Tryd.ntmps117 rfl rfl ?_
  repeat (first | (first | refine FW_seq ?_ | refine FW_region ?_ | refine RL_nil ?_ | refine E_thn_n ?_ | refine FW_skip ?_ | refine FW_block ?_ | refine FW_exit ?_ | refine FW_ret ?_ | refine E_thn_x ?_ | refine E_thn_r ?_ | refine E_blk_n ?_ | refine E_blk_x ?_ | refine E_blk_o rfl ?_ | refine E_blk_r ?_) | (refine st ?_ rfl; (first | refine OP_move rfl ?_ | refine OP_assign rfl ?_ | refine OP_mul rfl rfl (by omega) ?_ | refine OP_len (t := 101) Tryd.underlying101 rfl (by assumption) ?_ )))
  refine st (OP_mk0 UInt8 byteV ts8 rfl rfl (n := 4 * ws.length) (by omega) (Nat.le_refl _) fun v1 w1 ho1 he1 => ?_) rfl
  have hB1 := hB.ext he1
  repeat (first | (first | refine FW_seq ?_ | refine FW_region ?_ | refine RL_nil ?_ | refine E_thn_n ?_ | refine FW_skip ?_ | refine FW_block ?_ | refine FW_exit ?_ | refine FW_ret ?_ | refine E_thn_x ?_ | refine E_thn_r ?_ | refine E_blk_n ?_ | refine E_blk_x ?_ | refine E_blk_o rfl ?_ | refine E_blk_r ?_) | (refine st ?_ rfl; (first | refine OP_move rfl ?_ | refine OP_assign rfl ?_ | refine OP_len (t := 101) Tryd.underlying101 rfl (by assumption) ?_ )))
  refine FW_loop2 (fun (j : Nat) (p : Value) => [(3, .v p), (10, .v v), (11, .v (.int .i64 (ws.length : Int))), (12, .v (.int .i64 (j : Int)))]) (fun j p w' => j ≤ ws.length ∧ OwnB w.heap.size w' p (spreadB (ws.take j)) ∧ Ext w w') (fun j _ => ws.length - j) 0 v1
    ⟨rfl, rfl, rfl, rfl, trivial⟩ ⟨Nat.zero_le _, ho1, he1⟩ ?_
  rintro j p wr ⟨hj, ho, he⟩
  have hBr := hB.ext he
  repeat (first | (first | refine FW_seq ?_ | refine FW_region ?_ | refine RL_nil ?_ | refine E_thn_n ?_ | refine FW_skip ?_ | refine FW_block ?_ | refine FW_exit ?_ | refine FW_ret ?_ | refine E_thn_x ?_ | refine E_thn_r ?_ | refine E_blk_n ?_ | refine E_blk_x ?_ | refine E_blk_o rfl ?_ | refine E_blk_r ?_) | (refine st ?_ rfl; (first | refine OP_cmp rfl rfl rfl rfl rfl ?_ )))
  refine FW_cond rfl (fun hc => ?_) (fun hc => ?_)
  · simp only [cmpB, decide_eq_true_eq] at hc
    repeat (first | (first | refine FW_seq ?_ | refine FW_region ?_ | refine RL_nil ?_ | refine E_thn_n ?_ | refine FW_skip ?_ | refine FW_block ?_ | refine FW_exit ?_ | refine FW_ret ?_ | refine E_thn_x ?_ | refine E_thn_r ?_ | refine E_blk_n ?_ | refine E_blk_x ?_ | refine E_blk_o rfl ?_ | refine E_blk_r ?_) | (refine st ?_ rfl; (first | fail )))
    refine st (OP_el ts32 rfl hBr rfl rfl (by omega) fun q x hx hq => ?_) rfl
    refine st (OP_load (s := .u32 x) Tryd.underlying98 rfl rfl hq rfl ?_) rfl
    repeat (first | (first | refine FW_seq ?_ | refine FW_region ?_ | refine RL_nil ?_ | refine E_thn_n ?_ | refine FW_skip ?_ | refine FW_block ?_ | refine FW_exit ?_ | refine FW_ret ?_ | refine E_thn_x ?_ | refine E_thn_r ?_ | refine E_blk_n ?_ | refine E_blk_x ?_ | refine E_blk_o rfl ?_ | refine E_blk_r ?_) | (refine st ?_ rfl; (first | refine OP_move rfl ?_ | refine OP_assign rfl ?_ | refine OP_shr32 rfl rfl rfl (by decide) ?_ | refine OP_c32_8 (src := 98) (dst := 5) Tryd.underlying98 Tryd.underlying5 rfl ?_ )))
    refine st (OP_li byte_ok byteV_1 ts8 rfl rfl rfl (base := wr.heap.size) (Nat.le_refl _) fun v3 w3 ho3 _ _ he3 => ?_) rfl
    refine st (OP_app ts8 byteV_1 rfl rfl (ho.ext he3) ho3.hold (by rw [spreadB_len]; simp; omega) (Nat.le_trans he.size he3.size) fun v4 w4 ho4 hb4 hg4 => ?_) rfl
    repeat (first | (first | refine FW_seq ?_ | refine FW_region ?_ | refine RL_nil ?_ | refine E_thn_n ?_ | refine FW_skip ?_ | refine FW_block ?_ | refine FW_exit ?_ | refine FW_ret ?_ | refine E_thn_x ?_ | refine E_thn_r ?_ | refine E_blk_n ?_ | refine E_blk_x ?_ | refine E_blk_o rfl ?_ | refine E_blk_r ?_) | (refine st ?_ rfl; (first | refine OP_move rfl ?_ | refine OP_assign rfl ?_ | refine OP_add rfl rfl (by omega) ?_ )))
    refine ⟨j + 1, v4, ⟨rfl, rfl, rfl, rfl, trivial⟩, ⟨by omega, ?_, (he.trans he3).below hb4 (Nat.le_refl _)⟩, by omega⟩
    rw [spread_snoc ws j x (by simpa using hx)]
    exact ho4
  · simp only [cmpB, decide_eq_false_iff_not] at hc
    have : j = ws.length := by omega
    subst this
    rw [List.take_length] at ho
    repeat (first | (first | refine FW_seq ?_ | refine FW_region ?_ | refine RL_nil ?_ | refine E_thn_n ?_ | refine FW_skip ?_ | refine FW_block ?_ | refine FW_exit ?_ | refine FW_ret ?_ | refine E_thn_x ?_ | refine E_thn_r ?_ | refine E_blk_n ?_ | refine E_blk_x ?_ | refine E_blk_o rfl ?_ | refine E_blk_r ?_) | (refine st ?_ rfl; (first | refine OP_move rfl ?_ | refine OP_assign rfl ?_ )))
    exact E_end_r rfl ⟨ho, he⟩
theorem words_at {w : World} {p : Addr} {l : List UInt32} (h : Cs w p (l.map wordV)) {w' : World} (he : Ext w w') (j : Nat) (hj : j < l.length) : w'.cell? (p.add j) = some (wordV (l.getD j 0)) := by
  refine h.ext he j _ ?_
  rw [List.getElem?_map, List.getElem?_eq_getElem hj]
  simp [List.getD, hj]
theorem ref_bytes (w : World) (v : Value) (ws : List UInt32) (hB : Words w v ws) (hl : ws.length ≤ 4294967296) :
    Calls Tryd.prog 105 #[v] w (Ret fun r w' => OwnB w.heap.size w' r (spreadB ws) ∧ Ext w w') := by
  have hB0 := hB
  obtain ⟨a, cap, rfl, hlen, h3, h4, h5, h6⟩ := hB
  refine calls_of_FW [.v (.slice a ws.length cap)] Tryd.func105 rfl Tryd.ntmps105 rfl rfl ?_
  repeat (first | (first | refine FW_seq ?_ | refine FW_region ?_ | refine RL_nil ?_ | refine E_thn_n ?_ | refine FW_skip ?_ | refine FW_block ?_ | refine FW_exit ?_ | refine FW_ret ?_ | refine E_thn_x ?_ | refine E_thn_r ?_ | refine E_blk_n ?_ | refine E_blk_x ?_ | refine E_blk_o rfl ?_ | refine E_blk_r ?_) | (refine st ?_ rfl; (first | refine OP_assign rfl ?_ )))
  refine FW_loop2 (fun (j : Nat) (p : Value) => [(3, .v p), (0, .v (.slice a ws.length cap)), (4, .v (.int .i64 (j : Int)))]) (fun j p w' => j ≤ ws.length ∧ OwnB w.heap.size w' p (spreadB (ws.take j)) ∧ Ext w w') (fun j _ => ws.length - j) 0 (.slice none 0 0)
    ⟨rfl, rfl, rfl, trivial⟩ ⟨Nat.zero_le _, Own.nil _ _ _ _, Ext.refl _⟩ ?_
  rintro j p wr ⟨hj, ho, he⟩
  have hBr := hB0.ext he
  repeat (first | (first | refine FW_seq ?_ | refine FW_region ?_ | refine RL_nil ?_ | refine E_thn_n ?_ | refine FW_skip ?_ | refine FW_block ?_ | refine FW_exit ?_ | refine FW_ret ?_ | refine E_thn_x ?_ | refine E_thn_r ?_ | refine E_blk_n ?_ | refine E_blk_x ?_ | refine E_blk_o rfl ?_ | refine E_blk_r ?_) | (refine st ?_ rfl; (first | refine OP_move rfl ?_ | refine OP_cmp rfl rfl rfl rfl rfl ?_ | refine OP_len (t := 101) Tryd.underlying101 rfl (by assumption) ?_ )))
  refine FW_cond rfl (fun hc => ?_) (fun hc => ?_)
  · simp only [cmpB, decide_eq_true_eq] at hc
    cases a with
    | none => have := h5 rfl; omega
    | some q =>
      have hcs := (h6 q rfl).ext he
      repeat (first | (first | refine FW_seq ?_ | refine FW_region ?_ | refine RL_nil ?_ | refine E_thn_n ?_ | refine FW_skip ?_ | refine FW_block ?_ | refine FW_exit ?_ | refine FW_ret ?_ | refine E_thn_x ?_ | refine E_thn_r ?_ | refine E_blk_n ?_ | refine E_blk_x ?_ | refine E_blk_o rfl ?_ | refine E_blk_r ?_) | (refine st ?_ rfl; (first | fail )))
      refine FW_draw mixed 25 (by kernel_rfl) ?_
      repeat (first | refine dr rfl (fun w_ he_ => OP_move rfl ⟨Ext.refl _, rfl⟩) ?_ | refine dr rfl (fun w_ he_ => OP_shr32 rfl rfl rfl (by decide) ⟨Ext.refl _, rfl⟩) ?_ | refine dr rfl (fun w_ he_ => OP_c32_8 (src := 98) (dst := 5) Tryd.underlying98 Tryd.underlying5 rfl ⟨Ext.refl _, rfl⟩) ?_ | refine dr rfl (fun w_ he_ => OP_ixk ts32 rfl rfl rfl (by omega) ⟨Ext.refl _, rfl⟩) ?_ | refine dr rfl (fun w_ he_ => OP_load (s := .u32 _) Tryd.underlying98 rfl rfl (words_at (by assumption) he_ _ (by omega)) rfl ⟨Ext.refl _, rfl⟩) ?_ )
      refine drR (fun v w => Hold byteV w v _) (fun v w w' h he => Sl.ext h he) rfl (fun w_ he_ => OP_li byte_ok byteV_1 ts8 rfl rfl rfl (Nat.le_refl _) fun v' w' ho _ _ he => ⟨he, ho.hold⟩) ?_
      refine dr_end1 fun w3 he3 v3 ho3 => ?_
      refine st (OP_app ts8 byteV_1 rfl rfl (ho.ext he3) ho3 (by rw [spreadB_len]; simp; omega) (Nat.le_trans he.size he3.size) fun v4 w4 ho4 hb4 hg4 => ?_) rfl
      repeat (first | (first | refine FW_seq ?_ | refine FW_region ?_ | refine RL_nil ?_ | refine E_thn_n ?_ | refine FW_skip ?_ | refine FW_block ?_ | refine FW_exit ?_ | refine FW_ret ?_ | refine E_thn_x ?_ | refine E_thn_r ?_ | refine E_blk_n ?_ | refine E_blk_x ?_ | refine E_blk_o rfl ?_ | refine E_blk_r ?_) | (refine st ?_ rfl; (first | refine OP_move rfl ?_ | refine OP_assign rfl ?_ | refine OP_add rfl rfl (by omega) ?_ )))
      refine ⟨j + 1, v4, ⟨rfl, rfl, rfl, trivial⟩, ⟨by omega, ?_, (he.trans he3).below hb4 (Nat.le_refl _)⟩, by omega⟩
      have hx : ws[j]? = some (ws.getD j 0) := by rw [List.getD, List.getElem?_eq_getElem (by omega)]; rfl
      rw [spread_snoc ws j _ hx]
      simp only [Int.toNat_natCast, Nat.mul_one] at ho4
      exact ho4
  · simp only [cmpB, decide_eq_false_iff_not] at hc
    have : j = ws.length := by omega
    subst this
    rw [List.take_length] at ho
    repeat (first | (first | refine FW_seq ?_ | refine FW_region ?_ | refine RL_nil ?_ | refine E_thn_n ?_ | refine FW_skip ?_ | refine FW_block ?_ | refine FW_exit ?_ | refine FW_ret ?_ | refine E_thn_x ?_ | refine E_thn_r ?_ | refine E_blk_n ?_ | refine E_blk_x ?_ | refine E_blk_o rfl ?_ | refine E_blk_r ?_) | (refine st ?_ rfl; (first | refine OP_move rfl ?_ | refine OP_assign rfl ?_ )))
    exact E_end_r rfl ⟨ho, he⟩
end Go.Proofs.YtfjcmolccckhhaaDoor

namespace Go.Proofs.YtfjcmolccckhhaaDoor
open Go Go.RowKit Go.Eng
set_option linter.unusedVariables false
attribute [local irreducible] FW RL OP DR thn blk endp endg Calls
def KT (w : World) : Prop := ∀ j, j < 64 → w.cell? ⟨0, 0 + j, none⟩ = some (wordV (k256.getD j 0))
theorem KT.ext {w w' : World} (h : KT w) (he : Ext w w') : KT w' := fun j hj => cell_ext (h j hj) he
theorem KT.grown {w w' : World} {b : Nat} (h : KT w) (hg : w.grownBy w' (some b)) (hb : b ≠ 0) : KT w' := fun j hj => cell_grown (h j hj) hg (fun e => hb (Option.some.inj e))
theorem KT.lt {w : World} (h : KT w) : 0 < w.heap.size := World.block_lt_of_cell? w _ (h 0 (by omega))
theorem at64 : ArrT Tryd.prog 99 64 98 := ⟨Tryd.underlying99, by kernel_rfl⟩
theorem at80 : ArrT Tryd.prog 115 80 98 := ⟨Tryd.underlying115, by kernel_rfl⟩
theorem at8 : ArrT Tryd.prog 112 8 98 := ⟨Tryd.underlying112, by kernel_rfl⟩
theorem at5 : ArrT Tryd.prog 109 5 98 := ⟨Tryd.underlying109, by kernel_rfl⟩
theorem s32 : (Tryd.prog.info? 98).map (·.size) = some 1 := by kernel_rfl
theorem z64 : (Tryd.prog.info? 99).map (·.zero) = some (some (.agg (Array.replicate 64 (.int .u32 0)))) := by kernel_rfl
theorem z80 : (Tryd.prog.info? 115).map (·.zero) = some (some (.agg (Array.replicate 80 (.int .u32 0)))) := by kernel_rfl
theorem z8 : (Tryd.prog.info? 112).map (·.zero) = some (some (.agg (Array.replicate 8 (.int .u32 0)))) := by kernel_rfl
theorem z5 : (Tryd.prog.info? 109).map (·.zero) = some (some (.agg (Array.replicate 5 (.int .u32 0)))) := by kernel_rfl
theorem n64 : (Tryd.prog.info? 99).map (·.size) = some 64 := by kernel_rfl
theorem n8 : (Tryd.prog.info? 112).map (·.size) = some 8 := by kernel_rfl
theorem n5 : (Tryd.prog.info? 109).map (·.size) = some 5 := by kernel_rfl
theorem zero_words {w : World} {b n : Nat} (h : Blk w b (Value.agg (Array.replicate n (.int .u32 0))).cells.toList) : BlkW w b (List.replicate n 0) := by
  unfold BlkW; rw [List.map_replicate, show wordV 0 = .int .u32 0 from rfl]; simpa [Value.cells] using h
theorem ent_rot : Ent Tryd.prog 123 := Ent.mk Tryd.func123 (by kernel_rfl) rfl
theorem ent_rotr : Ent Tryd.prog 104 := Ent.mk Tryd.func104 (by kernel_rfl) rfl
theorem ent_word : Ent Tryd.prog 122 := Ent.mk Tryd.func122 (by kernel_rfl) rfl
theorem ent_rword : Ent Tryd.prog 103 := Ent.mk Tryd.func103 (by kernel_rfl) rfl
theorem rm7 (x : UInt32) (w : World) : Calls Tryd.prog 123 #[wordV x, .int .i64 (-7)] w (Ret fun v w' => v = wordV (ror x 7) ∧ w = w') := by rw [← rol_ror x 25 7 (by decide)]; exact rot_any x (-7) 25 w (by decide) rfl
theorem rm18 (x : UInt32) (w : World) : Calls Tryd.prog 123 #[wordV x, .int .i64 (-18)] w (Ret fun v w' => v = wordV (ror x 18) ∧ w = w') := by rw [← rol_ror x 14 18 (by decide)]; exact rot_any x (-18) 14 w (by decide) rfl
theorem rm17 (x : UInt32) (w : World) : Calls Tryd.prog 123 #[wordV x, .int .i64 (-17)] w (Ret fun v w' => v = wordV (ror x 17) ∧ w = w') := by rw [← rol_ror x 15 17 (by decide)]; exact rot_any x (-17) 15 w (by decide) rfl
theorem rm19 (x : UInt32) (w : World) : Calls Tryd.prog 123 #[wordV x, .int .i64 (-19)] w (Ret fun v w' => v = wordV (ror x 19) ∧ w = w') := by rw [← rol_ror x 13 19 (by decide)]; exact rot_any x (-19) 13 w (by decide) rfl
theorem rm6 (x : UInt32) (w : World) : Calls Tryd.prog 123 #[wordV x, .int .i64 (-6)] w (Ret fun v w' => v = wordV (ror x 6) ∧ w = w') := by rw [← rol_ror x 26 6 (by decide)]; exact rot_any x (-6) 26 w (by decide) rfl
theorem rm11 (x : UInt32) (w : World) : Calls Tryd.prog 123 #[wordV x, .int .i64 (-11)] w (Ret fun v w' => v = wordV (ror x 11) ∧ w = w') := by rw [← rol_ror x 21 11 (by decide)]; exact rot_any x (-11) 21 w (by decide) rfl
theorem rm25 (x : UInt32) (w : World) : Calls Tryd.prog 123 #[wordV x, .int .i64 (-25)] w (Ret fun v w' => v = wordV (ror x 25) ∧ w = w') := by rw [← rol_ror x 7 25 (by decide)]; exact rot_any x (-25) 7 w (by decide) rfl
theorem rm2 (x : UInt32) (w : World) : Calls Tryd.prog 123 #[wordV x, .int .i64 (-2)] w (Ret fun v w' => v = wordV (ror x 2) ∧ w = w') := by rw [← rol_ror x 30 2 (by decide)]; exact rot_any x (-2) 30 w (by decide) rfl
theorem rm13 (x : UInt32) (w : World) : Calls Tryd.prog 123 #[wordV x, .int .i64 (-13)] w (Ret fun v w' => v = wordV (ror x 13) ∧ w = w') := by rw [← rol_ror x 19 13 (by decide)]; exact rot_any x (-13) 19 w (by decide) rfl
theorem rm22 (x : UInt32) (w : World) : Calls Tryd.prog 123 #[wordV x, .int .i64 (-22)] w (Ret fun v w' => v = wordV (ror x 22) ∧ w = w') := by rw [← rol_ror x 10 22 (by decide)]; exact rot_any x (-22) 10 w (by decide) rfl
theorem rp1 (x : UInt32) (w : World) : Calls Tryd.prog 123 #[wordV x, .int .i64 1] w (Ret fun v w' => v = wordV (rol x 1) ∧ w = w') := rot_any x 1 1 w (by decide) rfl
theorem rp5 (x : UInt32) (w : World) : Calls Tryd.prog 123 #[wordV x, .int .i64 5] w (Ret fun v w' => v = wordV (rol x 5) ∧ w = w') := rot_any x 5 5 w (by decide) rfl
theorem rp30 (x : UInt32) (w : World) : Calls Tryd.prog 123 #[wordV x, .int .i64 30] w (Ret fun v w' => v = wordV (rol x 30) ∧ w = w') := rot_any x 30 30 w (by decide) rfl
theorem rr7 (x : UInt32) (w : World) : Calls Tryd.prog 104 #[wordV x, .int .u64 7] w (Ret fun v w' => v = wordV (ror x 7) ∧ w = w') := ref_rotr x 7 w (by decide)
theorem rr18 (x : UInt32) (w : World) : Calls Tryd.prog 104 #[wordV x, .int .u64 18] w (Ret fun v w' => v = wordV (ror x 18) ∧ w = w') := ref_rotr x 18 w (by decide)
theorem rr17 (x : UInt32) (w : World) : Calls Tryd.prog 104 #[wordV x, .int .u64 17] w (Ret fun v w' => v = wordV (ror x 17) ∧ w = w') := ref_rotr x 17 w (by decide)
theorem rr19 (x : UInt32) (w : World) : Calls Tryd.prog 104 #[wordV x, .int .u64 19] w (Ret fun v w' => v = wordV (ror x 19) ∧ w = w') := ref_rotr x 19 w (by decide)
theorem rr6 (x : UInt32) (w : World) : Calls Tryd.prog 104 #[wordV x, .int .u64 6] w (Ret fun v w' => v = wordV (ror x 6) ∧ w = w') := ref_rotr x 6 w (by decide)
theorem rr11 (x : UInt32) (w : World) : Calls Tryd.prog 104 #[wordV x, .int .u64 11] w (Ret fun v w' => v = wordV (ror x 11) ∧ w = w') := ref_rotr x 11 w (by decide)
theorem rr25 (x : UInt32) (w : World) : Calls Tryd.prog 104 #[wordV x, .int .u64 25] w (Ret fun v w' => v = wordV (ror x 25) ∧ w = w') := ref_rotr x 25 w (by decide)
theorem rr2 (x : UInt32) (w : World) : Calls Tryd.prog 104 #[wordV x, .int .u64 2] w (Ret fun v w' => v = wordV (ror x 2) ∧ w = w') := ref_rotr x 2 w (by decide)
theorem rr13 (x : UInt32) (w : World) : Calls Tryd.prog 104 #[wordV x, .int .u64 13] w (Ret fun v w' => v = wordV (ror x 13) ∧ w = w') := ref_rotr x 13 w (by decide)
theorem rr22 (x : UInt32) (w : World) : Calls Tryd.prog 104 #[wordV x, .int .u64 22] w (Ret fun v w' => v = wordV (ror x 22) ∧ w = w') := ref_rotr x 22 w (by decide)
set_option maxHeartbeats 8000000 in
theorem dig_comp256 (w : World) (b : Nat) (h : List UInt32) (v : Value) (l : List UInt8) (hK : KT w) (hb : BlkW w b h) (hh : h.length = 8) (hne : b ≠ 0) (hB : Bytes w v l) (hl : l.length = 64) (hvb : ∀ g, v.ownBlock = some g → g ≠ b) :
    Calls Tryd.prog 118 #[.pointer (some ⟨b, 0, none⟩), v] w (Ret fun r w' => BlkW w' b (comp256 h l) ∧ w.grownBy w' (some b)) := by
  refine calls_of_FW [.v (.pointer (some ⟨b, 0, none⟩)), .v v] Tryd.func118 rfl Tryd.ntmps118 rfl rfl ?_
  repeat (first | (first | refine FW_seq ?_ | refine FW_region ?_ | refine RL_nil ?_ | refine E_thn_n ?_ | refine FW_skip ?_ | refine FW_block ?_ | refine FW_exit ?_ | refine FW_ret ?_ | refine E_thn_x ?_ | refine E_thn_r ?_ | refine E_blk_n ?_ | refine E_blk_x ?_ | refine E_blk_o rfl ?_ | refine E_blk_r ?_) | (refine st ?_ rfl; (first | fail )))
  refine st (OP_alloc z64 fun bw w1 hw1 hbw he1 => ?_) rfl
  have hw1 := zero_words hw1
  repeat (first | (first | refine FW_seq ?_ | refine FW_region ?_ | refine RL_nil ?_ | refine E_thn_n ?_ | refine FW_skip ?_ | refine FW_block ?_ | refine FW_exit ?_ | refine FW_ret ?_ | refine E_thn_x ?_ | refine E_thn_r ?_ | refine E_blk_n ?_ | refine E_blk_x ?_ | refine E_blk_o rfl ?_ | refine E_blk_r ?_) | (refine st ?_ rfl; (first | refine OP_move rfl ?_ )))
  have e2 : w.heap.size ≤ w1.heap.size := he1.size
  -- the schedule
  refine FW_loop2 (fun (t : Nat) (_ : Unit) => [(0, .v (.pointer (some ⟨b, 0, none⟩))), (1, .v v), (4, .v (.pointer (some ⟨bw, 0, none⟩))), (17, .v (.int .i64 (t : Int)))])
    (fun t _ w' => t ≤ 64 ∧ BlkW w' bw (sch256 l t ++ List.replicate (64 - t) 0) ∧ Ext w w') (fun t _ => 64 - t) 0 () ⟨rfl, rfl, rfl, rfl, trivial⟩ ⟨by omega, hw1, he1⟩ ?_
  rintro t _ wr ⟨ht, hw, he⟩
  repeat (first | (first | refine FW_seq ?_ | refine FW_region ?_ | refine RL_nil ?_ | refine E_thn_n ?_ | refine FW_skip ?_ | refine FW_block ?_ | refine FW_exit ?_ | refine FW_ret ?_ | refine E_thn_x ?_ | refine E_thn_r ?_ | refine E_blk_n ?_ | refine E_blk_x ?_ | refine E_blk_o rfl ?_ | refine E_blk_r ?_) | (refine st ?_ rfl; (first | refine OP_cmp rfl rfl rfl rfl rfl ?_ )))
  refine FW_cond rfl (fun hc => ?_) (fun hc => ?_)
  · simp only [cmpB, decide_eq_true_eq] at hc
    have hlen : (sch256 l t).length = t := sch256_len l t
    obtain ⟨ws, hws⟩ : ∃ ws, ws = sch256 l t ++ List.replicate (64 - t) 0 := ⟨_, rfl⟩
    have hwl : ws.length = 64 := by rw [hws]; simp [hlen]; omega
    rw [← hws] at hw
    repeat (first | (first | refine FW_seq ?_ | refine FW_region ?_ | refine RL_nil ?_ | refine E_thn_n ?_ | refine FW_skip ?_ | refine FW_block ?_ | refine FW_exit ?_ | refine FW_ret ?_ | refine E_thn_x ?_ | refine E_thn_r ?_ | refine E_blk_n ?_ | refine E_blk_x ?_ | refine E_blk_o rfl ?_ | refine E_blk_r ?_) | (refine st ?_ rfl; (first | refine OP_move rfl ?_ | refine OP_assign rfl ?_ | refine OP_cmp rfl rfl rfl rfl rfl ?_ )))
    refine FW_cond rfl (fun hc2 => ?_) (fun hc2 => ?_)
    · simp only [cmpB, decide_eq_true_eq] at hc2
      repeat (first | (first | refine FW_seq ?_ | refine FW_region ?_ | refine RL_nil ?_ | refine E_thn_n ?_ | refine FW_skip ?_ | refine FW_block ?_ | refine FW_exit ?_ | refine FW_ret ?_ | refine E_thn_x ?_ | refine E_thn_r ?_ | refine E_blk_n ?_ | refine E_blk_x ?_ | refine E_blk_o rfl ?_ | refine E_blk_r ?_) | (refine st ?_ rfl; (first | refine OP_move rfl ?_ )))
      refine st (OP_call32 ent_word rfl (dig_word wr v l _ (hB.ext he) (by omega)) fun w2 he2 => ?_) rfl
      have hw2 := hw.ext he2
      refine st (OP_ixa at64 rfl rfl rfl (by omega) ?_) rfl
      refine st0 (OP_stw s32 rfl rfl hw2 (by omega) fun _ w3 hw3 hg3 => ?_)
      repeat (first | (first | refine FW_seq ?_ | refine FW_region ?_ | refine RL_nil ?_ | refine E_thn_n ?_ | refine FW_skip ?_ | refine FW_block ?_ | refine FW_exit ?_ | refine FW_ret ?_ | refine E_thn_x ?_ | refine E_thn_r ?_ | refine E_blk_n ?_ | refine E_blk_x ?_ | refine E_blk_o rfl ?_ | refine E_blk_r ?_) | (refine st ?_ rfl; (first | refine OP_move rfl ?_ | refine OP_add rfl rfl (by omega) ?_ )))
      refine ⟨t + 1, (), ⟨rfl, rfl, rfl, rfl, trivial⟩, ⟨by omega, ?_, ((he.trans he2).grown hg3 (fun k hk => by obtain rfl := Option.some.inj hk; exact hbw))⟩, by omega⟩
      have e : ((4 * (t : Int)).toNat) = 4 * t := by omega
      rw [hws, e, Int.toNat_natCast] at hw3
      have := set_snoc (sch256 l t) (64 - t) 0 (be32 l (4 * t)) (by omega)
      rw [hlen] at this
      rw [this] at hw3
      rw [sch256, next256, if_pos (by omega)]
      exact hw3
    · simp only [cmpB, decide_eq_false_iff_not] at hc2
      repeat (first | (first | refine FW_seq ?_ | refine FW_region ?_ | refine RL_nil ?_ | refine E_thn_n ?_ | refine FW_skip ?_ | refine FW_block ?_ | refine FW_exit ?_ | refine FW_ret ?_ | refine E_thn_x ?_ | refine E_thn_r ?_ | refine E_blk_n ?_ | refine E_blk_x ?_ | refine E_blk_o rfl ?_ | refine E_blk_r ?_) | (refine st ?_ rfl; (first | fail )))
      refine FW_draw mixed 10 (by kernel_rfl) ?_
      repeat (first | refine dr rfl (fun w_ he_ => OP_move rfl ⟨Ext.refl _, rfl⟩) ?_ | refine dr rfl (fun w_ he_ => OP_assign rfl ⟨Ext.refl _, rfl⟩) ?_ | refine dr rfl (fun w_ he_ => OP_sub rfl rfl (by omega) ⟨Ext.refl _, rfl⟩) ?_ | refine dr rfl (fun w_ he_ => OP_ixa (t := 99) at64 rfl rfl rfl (by omega) ⟨Ext.refl _, rfl⟩) ?_ | refine dr rfl (fun w_ he_ => OP_load (s := .u32 _) Tryd.underlying98 rfl rfl (BlkW.at (by assumption) he_ _ (by omega)) rfl ⟨Ext.refl _, rfl⟩) ?_ )
      refine dr_end fun w2 he2 => ?_
      have hw2 := hw.ext he2
      repeat (first | (first | (first | refine FW_seq ?_ | refine FW_region ?_ | refine RL_nil ?_ | refine E_thn_n ?_ | refine FW_skip ?_ | refine FW_block ?_ | refine FW_exit ?_ | refine FW_ret ?_ | refine E_thn_x ?_ | refine E_thn_r ?_ | refine E_blk_n ?_ | refine E_blk_x ?_ | refine E_blk_o rfl ?_ | refine E_blk_r ?_) | (refine st ?_ rfl; (first | refine OP_move rfl ?_ | refine OP_assign rfl ?_ | refine OP_b32 rfl rfl rfl ?_ | refine OP_shr32 rfl rfl rfl (by decide) ?_ ))) | (refine st ?_ rfl; (first | refine OP_call32s ent_rot rfl (rm7 _ _) ?_ | refine OP_call32s ent_rot rfl (rm18 _ _) ?_ | refine OP_call32s ent_rot rfl (rm17 _ _) ?_ | refine OP_call32s ent_rot rfl (rm19 _ _) ?_ )))
      refine FW_draw mixed 15 (by kernel_rfl) ?_
      repeat (first | refine dr rfl (fun w_ he_ => OP_move rfl ⟨Ext.refl _, rfl⟩) ?_ | refine dr rfl (fun w_ he_ => OP_sub rfl rfl (by omega) ⟨Ext.refl _, rfl⟩) ?_ | refine dr rfl (fun w_ he_ => OP_b32 rfl rfl rfl ⟨Ext.refl _, rfl⟩) ?_ | refine dr rfl (fun w_ he_ => OP_ixa (t := 99) at64 rfl rfl rfl (by omega) ⟨Ext.refl _, rfl⟩) ?_ | refine dr rfl (fun w_ he_ => OP_load (s := .u32 _) Tryd.underlying98 rfl rfl (BlkW.at (by assumption) he_ _ (by omega)) rfl ⟨Ext.refl _, rfl⟩) ?_ )
      refine dr_end fun w3 he3 => ?_
      have hw3 := hw2.ext he3
      refine st0 (OP_stw s32 rfl rfl hw3 (by omega) fun _ w4 hw4 hg4 => ?_)
      repeat (first | (first | refine FW_seq ?_ | refine FW_region ?_ | refine RL_nil ?_ | refine E_thn_n ?_ | refine FW_skip ?_ | refine FW_block ?_ | refine FW_exit ?_ | refine FW_ret ?_ | refine E_thn_x ?_ | refine E_thn_r ?_ | refine E_blk_n ?_ | refine E_blk_x ?_ | refine E_blk_o rfl ?_ | refine E_blk_r ?_) | (refine st ?_ rfl; (first | refine OP_move rfl ?_ | refine OP_add rfl rfl (by omega) ?_ )))
      refine ⟨t + 1, (), ⟨rfl, rfl, rfl, rfl, trivial⟩, ⟨by omega, ?_, (((he.trans he2).trans he3).grown hg4 (fun k hk => by obtain rfl := Option.some.inj hk; exact hbw))⟩, by omega⟩
      have g2 : ws.getD ((t : Int) - 2).toNat 0 = (sch256 l t).getD (t - 2) 0 := by rw [hws, show ((t : Int) - 2).toNat = t - 2 from by omega]; exact getD_left _ _ _ _ (by omega)
      have g7 : ws.getD ((t : Int) - 7).toNat 0 = (sch256 l t).getD (t - 7) 0 := by rw [hws, show ((t : Int) - 7).toNat = t - 7 from by omega]; exact getD_left _ _ _ _ (by omega)
      have g15 : ws.getD ((t : Int) - 15).toNat 0 = (sch256 l t).getD (t - 15) 0 := by rw [hws, show ((t : Int) - 15).toNat = t - 15 from by omega]; exact getD_left _ _ _ _ (by omega)
      have g16 : ws.getD ((t : Int) - 16).toNat 0 = (sch256 l t).getD (t - 16) 0 := by rw [hws, show ((t : Int) - 16).toNat = t - 16 from by omega]; exact getD_left _ _ _ _ (by omega)
      rw [g2, g7, g15, g16, hws, Int.toNat_natCast] at hw4
      have hsn := set_snoc (sch256 l t) (64 - t) 0 (next256 l (sch256 l t) t) (by omega)
      rw [hlen] at hsn
      rw [next256, if_neg (by omega)] at hsn
      rw [sch256, next256, if_neg (by omega), show 64 - (t + 1) = 64 - t - 1 from by omega, ← hsn]
      exact hw4
  · simp only [cmpB, decide_eq_false_iff_not] at hc
    have ht64 : t = 64 := by omega
    subst ht64
    simp only [Nat.sub_self, List.replicate_zero, List.append_nil] at hw
    clear hw1 hc ht e2
    have hbr := hb.ext he
    have hKr := hK.ext he
    repeat (first | (first | refine FW_seq ?_ | refine FW_region ?_ | refine RL_nil ?_ | refine E_thn_n ?_ | refine FW_skip ?_ | refine FW_block ?_ | refine FW_exit ?_ | refine FW_ret ?_ | refine E_thn_x ?_ | refine E_thn_r ?_ | refine E_blk_n ?_ | refine E_blk_x ?_ | refine E_blk_o rfl ?_ | refine E_blk_r ?_) | (refine st ?_ rfl; (first | refine OP_move rfl ?_ | refine OP_nilCheck rfl ?_ )))
    refine st (OP_loada (t := 112) Tryd.underlying112 rfl n8 rfl hbr (by simp [hh]) ?_) rfl
    refine st (OP_alloc z8 fun bs w2 hs2 hbs he2 => ?_) rfl
    have hs2 := zero_words hs2
    refine st0 (OP_storea (d := .bool) n8 rfl rfl (Hold.one wordV_1 h) hs2 (by simp) (by simp [hh]) fun _ w3 hs3 hg3 => ?_)
    have he3 : Ext w w3 := (he.trans he2).grown hg3 (fun k hk => by obtain rfl := Option.some.inj hk; exact Nat.le_trans he.size hbs)
    have hbsw : w.heap.size ≤ bs := Nat.le_trans he.size hbs
    have hne2 : bw ≠ bs := by have := hw.lt; omega
    have hw3 : BlkW w3 bw (sch256 l 64) := (hw.ext he2).grown hg3 (fun e => hne2 (Option.some.inj e).symm)
    repeat (first | (first | refine FW_seq ?_ | refine FW_region ?_ | refine RL_nil ?_ | refine E_thn_n ?_ | refine FW_skip ?_ | refine FW_block ?_ | refine FW_exit ?_ | refine FW_ret ?_ | refine E_thn_x ?_ | refine E_thn_r ?_ | refine E_blk_n ?_ | refine E_blk_x ?_ | refine E_blk_o rfl ?_ | refine E_blk_r ?_) | (refine st ?_ rfl; (first | refine OP_move rfl ?_ )))
    refine FW_loop2 (fun (t : Nat) (_ : Unit) => [(0, .v (.pointer (some ⟨b, 0, none⟩))), (4, .v (.pointer (some ⟨bw, 0, none⟩))), (10, .v (.pointer (some ⟨bs, 0, none⟩))), (70, .v (.int .i64 (t : Int)))])
      (fun t _ w' => t ≤ 64 ∧ BlkW w' bw (sch256 l 64) ∧ BlkW w' bs (rnds256 (sch256 l 64) h t) ∧ Ext w w') (fun t _ => 64 - t) 0 () ⟨rfl, rfl, rfl, rfl, trivial⟩ ⟨by omega, hw3, hs3, he3⟩ ?_
    clear hw hbr hKr he hw3 hs3 he3 hg3 hs2 he2
    rintro t _ wr ⟨ht, hw, hs, he⟩
    have hKr := hK.ext he
    have hwl : (sch256 l 64).length = 64 := sch256_len l 64
    obtain ⟨ws, hws⟩ : ∃ ws, ws = sch256 l 64 := ⟨_, rfl⟩
    rw [← hws] at hw hs hwl ⊢
    have hsl : (rnds256 ws h t).length = 8 := rnds256_len ws h hh t
    obtain ⟨s, hsd⟩ : ∃ s, s = rnds256 ws h t := ⟨_, rfl⟩
    rw [← hsd] at hs hsl
    repeat (first | (first | refine FW_seq ?_ | refine FW_region ?_ | refine RL_nil ?_ | refine E_thn_n ?_ | refine FW_skip ?_ | refine FW_block ?_ | refine FW_exit ?_ | refine FW_ret ?_ | refine E_thn_x ?_ | refine E_thn_r ?_ | refine E_blk_n ?_ | refine E_blk_x ?_ | refine E_blk_o rfl ?_ | refine E_blk_r ?_) | (refine st ?_ rfl; (first | refine OP_cmp rfl rfl rfl rfl rfl ?_ )))
    refine FW_cond rfl (fun hc => ?_) (fun hc => ?_)
    · simp only [cmpB, decide_eq_true_eq] at hc
      repeat (first | (first | refine FW_seq ?_ | refine FW_region ?_ | refine RL_nil ?_ | refine E_thn_n ?_ | refine FW_skip ?_ | refine FW_block ?_ | refine FW_exit ?_ | refine FW_ret ?_ | refine E_thn_x ?_ | refine E_thn_r ?_ | refine E_blk_n ?_ | refine E_blk_x ?_ | refine E_blk_o rfl ?_ | refine E_blk_r ?_) | (refine st ?_ rfl; (first | refine OP_move rfl ?_ | refine OP_assign rfl ?_ )))
      refine FW_draw mixed 6 (by kernel_rfl) ?_
      repeat (first | refine dr rfl (fun w_ he_ => OP_assign rfl ⟨Ext.refl _, rfl⟩) ?_ | refine dr rfl (fun w_ he_ => OP_ixa (t := 112) at8 rfl rfl rfl (by omega) ⟨Ext.refl _, rfl⟩) ?_ | refine dr rfl (fun w_ he_ => OP_load (s := .u32 _) Tryd.underlying98 rfl rfl (BlkW.at (by assumption) he_ _ (by omega)) rfl ⟨Ext.refl _, rfl⟩) ?_ )
      refine dr_end fun w2 he2 => ?_
      have hw2 := hw.ext he2
      have hs2 := hs.ext he2
      have hK2 := hKr.ext he2
      repeat (first | (first | refine FW_seq ?_ | refine FW_region ?_ | refine RL_nil ?_ | refine E_thn_n ?_ | refine FW_skip ?_ | refine FW_block ?_ | refine FW_exit ?_ | refine FW_ret ?_ | refine E_thn_x ?_ | refine E_thn_r ?_ | refine E_blk_n ?_ | refine E_blk_x ?_ | refine E_blk_o rfl ?_ | refine E_blk_r ?_) | (refine st ?_ rfl; (first | fail )))
      clear hw hs hKr
      refine FW_draw mixed 31 (by kernel_rfl) ?_
      repeat (first | (first | refine dr rfl (fun w_ he_ => OP_move rfl ⟨Ext.refl _, rfl⟩) ?_ | refine dr rfl (fun w_ he_ => OP_assign rfl ⟨Ext.refl _, rfl⟩) ?_ | refine dr rfl (fun w_ he_ => OP_b32 rfl rfl rfl ⟨Ext.refl _, rfl⟩) ?_ | refine dr rfl (fun w_ he_ => OP_xor32 rfl ⟨Ext.refl _, rfl⟩) ?_ | refine dr rfl (fun w_ he_ => OP_ixa (t := 99) at64 rfl rfl rfl (by omega) ⟨Ext.refl _, rfl⟩) ?_ | refine dr rfl (fun w_ he_ => OP_ixa (t := 112) at8 rfl rfl rfl (by omega) ⟨Ext.refl _, rfl⟩) ?_ | refine dr rfl (fun w_ he_ => OP_load (s := .u32 _) Tryd.underlying98 rfl rfl (BlkW.at (by assumption) he_ _ (by omega)) rfl ⟨Ext.refl _, rfl⟩) ?_ | refine dr rfl (fun w_ he_ => OP_load (s := .u32 _) Tryd.underlying98 rfl rfl (KT.ext (by assumption) he_ _ (by omega)) rfl ⟨Ext.refl _, rfl⟩) ?_ ) | refine dr rfl (fun w_ he_ => OP_call32s ent_rot rfl (rm6 _ _) ⟨Ext.refl _, rfl⟩) ?_ | refine dr rfl (fun w_ he_ => OP_call32s ent_rot rfl (rm11 _ _) ⟨Ext.refl _, rfl⟩) ?_ | refine dr rfl (fun w_ he_ => OP_call32s ent_rot rfl (rm25 _ _) ⟨Ext.refl _, rfl⟩) ?_ )
      refine dr_end fun w3 he3 => ?_
      have hw3 := hw2.ext he3
      have hs3 := hs2.ext he3
      clear hw2 hs2 hK2
      repeat (first | (first | refine FW_seq ?_ | refine FW_region ?_ | refine RL_nil ?_ | refine E_thn_n ?_ | refine FW_skip ?_ | refine FW_block ?_ | refine FW_exit ?_ | refine FW_ret ?_ | refine E_thn_x ?_ | refine E_thn_r ?_ | refine E_blk_n ?_ | refine E_blk_x ?_ | refine E_blk_o rfl ?_ | refine E_blk_r ?_) | (refine st ?_ rfl; (first | fail )))
      refine FW_draw mixed 25 (by kernel_rfl) ?_
      repeat (first | (first | refine dr rfl (fun w_ he_ => OP_move rfl ⟨Ext.refl _, rfl⟩) ?_ | refine dr rfl (fun w_ he_ => OP_assign rfl ⟨Ext.refl _, rfl⟩) ?_ | refine dr rfl (fun w_ he_ => OP_b32 rfl rfl rfl ⟨Ext.refl _, rfl⟩) ?_ | refine dr rfl (fun w_ he_ => OP_ixa (t := 112) at8 rfl rfl rfl (by omega) ⟨Ext.refl _, rfl⟩) ?_ | refine dr rfl (fun w_ he_ => OP_load (s := .u32 _) Tryd.underlying98 rfl rfl (BlkW.at (by assumption) he_ _ (by omega)) rfl ⟨Ext.refl _, rfl⟩) ?_ ) | refine dr rfl (fun w_ he_ => OP_call32s ent_rot rfl (rm2 _ _) ⟨Ext.refl _, rfl⟩) ?_ | refine dr rfl (fun w_ he_ => OP_call32s ent_rot rfl (rm13 _ _) ⟨Ext.refl _, rfl⟩) ?_ | refine dr rfl (fun w_ he_ => OP_call32s ent_rot rfl (rm22 _ _) ⟨Ext.refl _, rfl⟩) ?_ )
      refine dr_end fun w4 he4 => ?_
      have hw4 := hw3.ext he4
      have hs4 := hs3.ext he4
      clear hw3 hs3
      repeat (first | (first | refine FW_seq ?_ | refine FW_region ?_ | refine RL_nil ?_ | refine E_thn_n ?_ | refine FW_skip ?_ | refine FW_block ?_ | refine FW_exit ?_ | refine FW_ret ?_ | refine E_thn_x ?_ | refine E_thn_r ?_ | refine E_blk_n ?_ | refine E_blk_x ?_ | refine E_blk_o rfl ?_ | refine E_blk_r ?_) | (refine st ?_ rfl; (first | refine OP_move rfl ?_ | refine OP_b32 rfl rfl rfl ?_ | refine OP_load (s := .u32 _) (t := 98) Tryd.underlying98 rfl rfl (BlkW.at (by assumption) (Ext.refl _) _ (by omega)) rfl ?_ | refine OP_ixa (t := 112) at8 rfl rfl rfl (by omega) ?_ )))
      refine st (OP_bw at8 z8 rfl rfl rfl ?_) rfl
      refine st0 (OP_stws n8 rfl rfl hs4 hsl rfl fun _ w5 hs5 hg5 => ?_)
      repeat (first | (first | refine FW_seq ?_ | refine FW_region ?_ | refine RL_nil ?_ | refine E_thn_n ?_ | refine FW_skip ?_ | refine FW_block ?_ | refine FW_exit ?_ | refine FW_ret ?_ | refine E_thn_x ?_ | refine E_thn_r ?_ | refine E_blk_n ?_ | refine E_blk_x ?_ | refine E_blk_o rfl ?_ | refine E_blk_r ?_) | (refine st ?_ rfl; (first | refine OP_move rfl ?_ | refine OP_add rfl rfl (by omega) ?_ )))
      refine ⟨t + 1, (), ⟨rfl, rfl, rfl, rfl, trivial⟩, ⟨by omega, Blk.grown hw4 hg5 (fun e => hne2 (Option.some.inj e).symm), ?_, ((((he.trans he2).trans he3).trans he4).grown hg5 (fun k hk => by obtain rfl := Option.some.inj hk; exact hbsw))⟩, by omega⟩
      show BlkW w5 bs (rnd256 (k256.getD t 0) (ws.getD t 0) (rnds256 ws h t))
      rw [← hsd]
      exact hs5
    · simp only [cmpB, decide_eq_false_iff_not] at hc
      have ht64 : t = 64 := by omega
      subst ht64
      clear hc ht hw hKr hwl
      have hbr := hb.ext he
      have hbl := hb.lt
      repeat (first | (first | refine FW_seq ?_ | refine FW_region ?_ | refine RL_nil ?_ | refine E_thn_n ?_ | refine FW_skip ?_ | refine FW_block ?_ | refine FW_exit ?_ | refine FW_ret ?_ | refine E_thn_x ?_ | refine E_thn_r ?_ | refine E_blk_n ?_ | refine E_blk_x ?_ | refine E_blk_o rfl ?_ | refine E_blk_r ?_) | (refine st ?_ rfl; (first | refine OP_move rfl ?_ )))
      -- the sum
      refine FW_loop2 (fun (i : Nat) (_ : Unit) => [(0, .v (.pointer (some ⟨b, 0, none⟩))), (10, .v (.pointer (some ⟨bs, 0, none⟩))), (152, .v (.int .i64 (i : Int)))])
        (fun i _ w' => i ≤ 8 ∧ BlkW w' b (addl h s i) ∧ BlkW w' bs s ∧ w.grownBy w' (some b)) (fun i _ => 8 - i) 0 () ⟨rfl, rfl, rfl, trivial⟩ ⟨by omega, by simpa [addl] using hbr, hs, grownBy.of_ext he _⟩ ?_
      clear hs he hbr wr
      rintro i _ wr ⟨hi, ha, hs, hg⟩
      repeat (first | (first | refine FW_seq ?_ | refine FW_region ?_ | refine RL_nil ?_ | refine E_thn_n ?_ | refine FW_skip ?_ | refine FW_block ?_ | refine FW_exit ?_ | refine FW_ret ?_ | refine E_thn_x ?_ | refine E_thn_r ?_ | refine E_blk_n ?_ | refine E_blk_x ?_ | refine E_blk_o rfl ?_ | refine E_blk_r ?_) | (refine st ?_ rfl; (first | refine OP_cmp rfl rfl rfl rfl rfl ?_ )))
      refine FW_cond rfl (fun hc => ?_) (fun hc => ?_)
      · simp only [cmpB, decide_eq_true_eq] at hc
        have hal : (addl h s i).length = 8 := by rw [addl_len h s i (by omega) (by omega)]; exact hh
        have hag := addl_get h s i (by omega) (by omega)
        have has := addl_set h s i (by omega) (by omega)
        obtain ⟨q, hq⟩ : ∃ q, q = addl h s i := ⟨_, rfl⟩
        rw [← hq] at ha hal hag has
        repeat (first | (first | refine FW_seq ?_ | refine FW_region ?_ | refine RL_nil ?_ | refine E_thn_n ?_ | refine FW_skip ?_ | refine FW_block ?_ | refine FW_exit ?_ | refine FW_ret ?_ | refine E_thn_x ?_ | refine E_thn_r ?_ | refine E_blk_n ?_ | refine E_blk_x ?_ | refine E_blk_o rfl ?_ | refine E_blk_r ?_) | (refine st ?_ rfl; (first | refine OP_move rfl ?_ | refine OP_assign rfl ?_ )))
        refine FW_draw mixed 11 (by kernel_rfl) ?_
        repeat (first | refine dr rfl (fun w_ he_ => OP_move rfl ⟨Ext.refl _, rfl⟩) ?_ | refine dr rfl (fun w_ he_ => OP_b32 rfl rfl rfl ⟨Ext.refl _, rfl⟩) ?_ | refine dr rfl (fun w_ he_ => OP_nilCheck rfl ⟨Ext.refl _, rfl⟩) ?_ | refine dr rfl (fun w_ he_ => OP_ixa (t := 112) at8 rfl rfl rfl (by omega) ⟨Ext.refl _, rfl⟩) ?_ | refine dr rfl (fun w_ he_ => OP_load (s := .u32 _) Tryd.underlying98 rfl rfl (BlkW.at (by assumption) he_ _ (by omega)) rfl ⟨Ext.refl _, rfl⟩) ?_ )
        refine dr_end fun w2 he2 => ?_
        have ha2 := Blk.ext ha he2
        refine st0 (OP_stw s32 rfl rfl ha2 (by omega) fun _ w3 ha3 hg3 => ?_)
        repeat (first | (first | refine FW_seq ?_ | refine FW_region ?_ | refine RL_nil ?_ | refine E_thn_n ?_ | refine FW_skip ?_ | refine FW_block ?_ | refine FW_exit ?_ | refine FW_ret ?_ | refine E_thn_x ?_ | refine E_thn_r ?_ | refine E_blk_n ?_ | refine E_blk_x ?_ | refine E_blk_o rfl ?_ | refine E_blk_r ?_) | (refine st ?_ rfl; (first | refine OP_move rfl ?_ | refine OP_add rfl rfl (by omega) ?_ )))
        refine ⟨i + 1, (), ⟨rfl, rfl, rfl, trivial⟩, ⟨by omega, ?_, (hs.ext he2).grown hg3 (fun e => by have := Option.some.inj e; omega), Go.Eng.grownBy.trans (Go.Eng.grownBy.ext hg he2) hg3⟩, by omega⟩
        rw [← has]
        rw [Int.toNat_natCast, hag] at ha3
        exact ha3
      · simp only [cmpB, decide_eq_false_iff_not] at hc
        have : i = 8 := by omega
        subst this
        repeat (first | (first | refine FW_seq ?_ | refine FW_region ?_ | refine RL_nil ?_ | refine E_thn_n ?_ | refine FW_skip ?_ | refine FW_block ?_ | refine FW_exit ?_ | refine FW_ret ?_ | refine E_thn_x ?_ | refine E_thn_r ?_ | refine E_blk_n ?_ | refine E_blk_x ?_ | refine E_blk_o rfl ?_ | refine E_blk_r ?_) | (refine st ?_ rfl; (first | fail )))
        refine E_end_n rfl ⟨?_, hg⟩
        rw [comp256, ← hws, ← hsd]
        exact ha
end Go.Proofs.YtfjcmolccckhhaaDoor

namespace Go.Proofs.YtfjcmolccckhhaaDoor
open Go Go.RowKit Go.Eng
set_option linter.unusedVariables false
attribute [local irreducible] FW RL OP DR thn blk endp endg Calls
theorem sv32 {a b : UInt32} (h : a = b) : some (SV.u32 a) = some (SV.u32 b) := by rw [h]
theorem five (h : List UInt32) (hh : h.length = 5) : ∃ x0 x1 x2 x3 x4, h = [x0, x1, x2, x3, x4] := by
  match h, hh with
  | [x0, x1, x2, x3, x4], _ => exact ⟨x0, x1, x2, x3, x4, rfl⟩
set_option maxHeartbeats 8000000 in
theorem dig_comp1 (w : World) (b : Nat) (h : List UInt32) (v : Value) (l : List UInt8) (hb : BlkW w b h) (hh : h.length = 5) (hB : Bytes w v l) (hl : l.length = 64) :
    Calls Tryd.prog 116 #[.pointer (some ⟨b, 0, none⟩), v] w (Ret fun r w' => BlkW w' b (comp1 h l) ∧ w.grownBy w' (some b)) := by
  refine calls_of_FW [.v (.pointer (some ⟨b, 0, none⟩)), .v v] Tryd.func116 rfl Tryd.ntmps116 rfl rfl ?_
  repeat (first | (first | refine FW_seq ?_ | refine FW_region ?_ | refine RL_nil ?_ | refine E_thn_n ?_ | refine FW_skip ?_ | refine FW_block ?_ | refine FW_exit ?_ | refine FW_ret ?_ | refine E_thn_x ?_ | refine E_thn_r ?_ | refine E_blk_n ?_ | refine E_blk_x ?_ | refine E_blk_o rfl ?_ | refine E_blk_r ?_) | (refine st ?_ rfl; (first | fail )))
  refine st (OP_alloc z80 fun bw w1 hw1 hbw he1 => ?_) rfl
  have hw1 := zero_words hw1
  repeat (first | (first | refine FW_seq ?_ | refine FW_region ?_ | refine RL_nil ?_ | refine E_thn_n ?_ | refine FW_skip ?_ | refine FW_block ?_ | refine FW_exit ?_ | refine FW_ret ?_ | refine E_thn_x ?_ | refine E_thn_r ?_ | refine E_blk_n ?_ | refine E_blk_x ?_ | refine E_blk_o rfl ?_ | refine E_blk_r ?_) | (refine st ?_ rfl; (first | refine OP_move rfl ?_ )))
  refine FW_loop2 (fun (t : Nat) (_ : Unit) => [(0, .v (.pointer (some ⟨b, 0, none⟩))), (1, .v v), (4, .v (.pointer (some ⟨bw, 0, none⟩))), (14, .v (.int .i64 (t : Int)))])
    (fun t _ w' => t ≤ 80 ∧ BlkW w' bw (sch1 l t ++ List.replicate (80 - t) 0) ∧ Ext w w') (fun t _ => 80 - t) 0 () ⟨rfl, rfl, rfl, rfl, trivial⟩ ⟨by omega, hw1, he1⟩ ?_
  rintro t _ wr ⟨ht, hw, he⟩
  repeat (first | (first | refine FW_seq ?_ | refine FW_region ?_ | refine RL_nil ?_ | refine E_thn_n ?_ | refine FW_skip ?_ | refine FW_block ?_ | refine FW_exit ?_ | refine FW_ret ?_ | refine E_thn_x ?_ | refine E_thn_r ?_ | refine E_blk_n ?_ | refine E_blk_x ?_ | refine E_blk_o rfl ?_ | refine E_blk_r ?_) | (refine st ?_ rfl; (first | refine OP_cmp rfl rfl rfl rfl rfl ?_ )))
  refine FW_cond rfl (fun hc => ?_) (fun hc => ?_)
  · simp only [cmpB, decide_eq_true_eq] at hc
    have hlen : (sch1 l t).length = t := sch1_len l t
    obtain ⟨ws, hws⟩ : ∃ ws, ws = sch1 l t ++ List.replicate (80 - t) 0 := ⟨_, rfl⟩
    have hwl : ws.length = 80 := by rw [hws]; simp [hlen]; omega
    rw [← hws] at hw
    repeat (first | (first | refine FW_seq ?_ | refine FW_region ?_ | refine RL_nil ?_ | refine E_thn_n ?_ | refine FW_skip ?_ | refine FW_block ?_ | refine FW_exit ?_ | refine FW_ret ?_ | refine E_thn_x ?_ | refine E_thn_r ?_ | refine E_blk_n ?_ | refine E_blk_x ?_ | refine E_blk_o rfl ?_ | refine E_blk_r ?_) | (refine st ?_ rfl; (first | refine OP_move rfl ?_ | refine OP_assign rfl ?_ | refine OP_cmp rfl rfl rfl rfl rfl ?_ )))
    refine FW_cond rfl (fun hc2 => ?_) (fun hc2 => ?_)
    · simp only [cmpB, decide_eq_true_eq] at hc2
      repeat (first | (first | refine FW_seq ?_ | refine FW_region ?_ | refine RL_nil ?_ | refine E_thn_n ?_ | refine FW_skip ?_ | refine FW_block ?_ | refine FW_exit ?_ | refine FW_ret ?_ | refine E_thn_x ?_ | refine E_thn_r ?_ | refine E_blk_n ?_ | refine E_blk_x ?_ | refine E_blk_o rfl ?_ | refine E_blk_r ?_) | (refine st ?_ rfl; (first | refine OP_move rfl ?_ )))
      refine st (OP_call32 ent_word rfl (dig_word wr v l _ (hB.ext he) (by omega)) fun w2 he2 => ?_) rfl
      have hw2 := hw.ext he2
      refine st (OP_ixa at80 rfl rfl rfl (by omega) ?_) rfl
      refine st0 (OP_stw s32 rfl rfl hw2 (by omega) fun _ w3 hw3 hg3 => ?_)
      repeat (first | (first | refine FW_seq ?_ | refine FW_region ?_ | refine RL_nil ?_ | refine E_thn_n ?_ | refine FW_skip ?_ | refine FW_block ?_ | refine FW_exit ?_ | refine FW_ret ?_ | refine E_thn_x ?_ | refine E_thn_r ?_ | refine E_blk_n ?_ | refine E_blk_x ?_ | refine E_blk_o rfl ?_ | refine E_blk_r ?_) | (refine st ?_ rfl; (first | refine OP_move rfl ?_ | refine OP_add rfl rfl (by omega) ?_ )))
      refine ⟨t + 1, (), ⟨rfl, rfl, rfl, rfl, trivial⟩, ⟨by omega, ?_, ((he.trans he2).grown hg3 (fun k hk => by obtain rfl := Option.some.inj hk; exact hbw))⟩, by omega⟩
      have e : ((4 * (t : Int)).toNat) = 4 * t := by omega
      rw [hws, e, Int.toNat_natCast] at hw3
      have := set_snoc (sch1 l t) (80 - t) 0 (be32 l (4 * t)) (by omega)
      rw [hlen] at this
      rw [this] at hw3
      rw [sch1, next1, if_pos (by omega)]
      exact hw3
    · simp only [cmpB, decide_eq_false_iff_not] at hc2
      repeat (first | (first | refine FW_seq ?_ | refine FW_region ?_ | refine RL_nil ?_ | refine E_thn_n ?_ | refine FW_skip ?_ | refine FW_block ?_ | refine FW_exit ?_ | refine FW_ret ?_ | refine E_thn_x ?_ | refine E_thn_r ?_ | refine E_blk_n ?_ | refine E_blk_x ?_ | refine E_blk_o rfl ?_ | refine E_blk_r ?_) | (refine st ?_ rfl; (first | fail )))
      refine FW_draw mixed 22 (by kernel_rfl) ?_
      repeat (first | (first | refine dr rfl (fun w_ he_ => OP_move rfl ⟨Ext.refl _, rfl⟩) ?_ | refine dr rfl (fun w_ he_ => OP_sub rfl rfl (by omega) ⟨Ext.refl _, rfl⟩) ?_ | refine dr rfl (fun w_ he_ => OP_b32 rfl rfl rfl ⟨Ext.refl _, rfl⟩) ?_ | refine dr rfl (fun w_ he_ => OP_ixa (t := 115) at80 rfl rfl rfl (by omega) ⟨Ext.refl _, rfl⟩) ?_ | refine dr rfl (fun w_ he_ => OP_load (s := .u32 _) Tryd.underlying98 rfl rfl (BlkW.at (by assumption) he_ _ (by omega)) rfl ⟨Ext.refl _, rfl⟩) ?_ ) | refine dr rfl (fun w_ he_ => OP_call32s ent_rot rfl (rp1 _ _) ⟨Ext.refl _, rfl⟩) ?_ )
      refine dr_end fun w2 he2 => ?_
      have hw2 := hw.ext he2
      refine st0 (OP_stw s32 rfl rfl hw2 (by omega) fun _ w4 hw4 hg4 => ?_)
      repeat (first | (first | refine FW_seq ?_ | refine FW_region ?_ | refine RL_nil ?_ | refine E_thn_n ?_ | refine FW_skip ?_ | refine FW_block ?_ | refine FW_exit ?_ | refine FW_ret ?_ | refine E_thn_x ?_ | refine E_thn_r ?_ | refine E_blk_n ?_ | refine E_blk_x ?_ | refine E_blk_o rfl ?_ | refine E_blk_r ?_) | (refine st ?_ rfl; (first | refine OP_move rfl ?_ | refine OP_add rfl rfl (by omega) ?_ )))
      refine ⟨t + 1, (), ⟨rfl, rfl, rfl, rfl, trivial⟩, ⟨by omega, ?_, ((he.trans he2).grown hg4 (fun k hk => by obtain rfl := Option.some.inj hk; exact hbw))⟩, by omega⟩
      have g3 : ws.getD ((t : Int) - 3).toNat 0 = (sch1 l t).getD (t - 3) 0 := by rw [hws, show ((t : Int) - 3).toNat = t - 3 from by omega]; exact getD_left _ _ _ _ (by omega)
      have g8 : ws.getD ((t : Int) - 8).toNat 0 = (sch1 l t).getD (t - 8) 0 := by rw [hws, show ((t : Int) - 8).toNat = t - 8 from by omega]; exact getD_left _ _ _ _ (by omega)
      have g14 : ws.getD ((t : Int) - 14).toNat 0 = (sch1 l t).getD (t - 14) 0 := by rw [hws, show ((t : Int) - 14).toNat = t - 14 from by omega]; exact getD_left _ _ _ _ (by omega)
      have g16 : ws.getD ((t : Int) - 16).toNat 0 = (sch1 l t).getD (t - 16) 0 := by rw [hws, show ((t : Int) - 16).toNat = t - 16 from by omega]; exact getD_left _ _ _ _ (by omega)
      rw [g3, g8, g14, g16, hws, Int.toNat_natCast] at hw4
      have hsn := set_snoc (sch1 l t) (80 - t) 0 (next1 l (sch1 l t) t) (by omega)
      rw [hlen] at hsn
      rw [next1, if_neg (by omega)] at hsn
      rw [sch1, next1, if_neg (by omega), show 80 - (t + 1) = 80 - t - 1 from by omega, ← hsn]
      exact hw4
  · simp only [cmpB, decide_eq_false_iff_not] at hc
    have ht80 : t = 80 := by omega
    subst ht80
    simp only [Nat.sub_self, List.replicate_zero, List.append_nil] at hw
    clear hw1 hc ht
    have hbr := hb.ext he
    repeat (first | (first | refine FW_seq ?_ | refine FW_region ?_ | refine RL_nil ?_ | refine E_thn_n ?_ | refine FW_skip ?_ | refine FW_block ?_ | refine FW_exit ?_ | refine FW_ret ?_ | refine E_thn_x ?_ | refine E_thn_r ?_ | refine E_blk_n ?_ | refine E_blk_x ?_ | refine E_blk_o rfl ?_ | refine E_blk_r ?_) | (refine st ?_ rfl; (first | fail )))
    refine FW_draw mixed 25 (by kernel_rfl) ?_
    repeat (first | refine dr rfl (fun w_ he_ => OP_move rfl ⟨Ext.refl _, rfl⟩) ?_ | refine dr rfl (fun w_ he_ => OP_assign rfl ⟨Ext.refl _, rfl⟩) ?_ | refine dr rfl (fun w_ he_ => OP_nilCheck rfl ⟨Ext.refl _, rfl⟩) ?_ | refine dr rfl (fun w_ he_ => OP_ixa (t := 109) at5 rfl rfl rfl (by omega) ⟨Ext.refl _, rfl⟩) ?_ | refine dr rfl (fun w_ he_ => OP_load (s := .u32 _) Tryd.underlying98 rfl rfl (BlkW.at (by assumption) he_ _ (by omega)) rfl ⟨Ext.refl _, rfl⟩) ?_ )
    refine dr_end fun w2 he2 => ?_
    have hw2 := hw.ext he2
    have he2 := he.trans he2
    repeat (first | (first | refine FW_seq ?_ | refine FW_region ?_ | refine RL_nil ?_ | refine E_thn_n ?_ | refine FW_skip ?_ | refine FW_block ?_ | refine FW_exit ?_ | refine FW_ret ?_ | refine E_thn_x ?_ | refine E_thn_r ?_ | refine E_blk_n ?_ | refine E_blk_x ?_ | refine E_blk_o rfl ?_ | refine E_blk_r ?_) | (refine st ?_ rfl; (first | refine OP_move rfl ?_ )))
    refine FW_loop2 (fun (t : Nat) (_ : Unit) => [(0, .v (.pointer (some ⟨b, 0, none⟩))), (4, .v (.pointer (some ⟨bw, 0, none⟩))),
        (6, .u32 (rnds1 (sch1 l 80) ⟨h.getD 0 0, h.getD 1 0, h.getD 2 0, h.getD 3 0, h.getD 4 0⟩ t).a), (7, .u32 (rnds1 (sch1 l 80) ⟨h.getD 0 0, h.getD 1 0, h.getD 2 0, h.getD 3 0, h.getD 4 0⟩ t).b),
        (8, .u32 (rnds1 (sch1 l 80) ⟨h.getD 0 0, h.getD 1 0, h.getD 2 0, h.getD 3 0, h.getD 4 0⟩ t).c), (9, .u32 (rnds1 (sch1 l 80) ⟨h.getD 0 0, h.getD 1 0, h.getD 2 0, h.getD 3 0, h.getD 4 0⟩ t).d),
        (10, .u32 (rnds1 (sch1 l 80) ⟨h.getD 0 0, h.getD 1 0, h.getD 2 0, h.getD 3 0, h.getD 4 0⟩ t).e), (67, .v (.int .i64 (t : Int)))])
      (fun t _ w' => t ≤ 80 ∧ BlkW w' bw (sch1 l 80) ∧ Ext w w') (fun t _ => 80 - t) 0 () ⟨rfl, rfl, rfl, rfl, rfl, rfl, rfl, rfl, trivial⟩ ⟨by omega, hw2, he2⟩ ?_
    clear hw hbr hw2 he2 he
    rintro t _ wr ⟨ht, hw, he⟩
    have hwl : (sch1 l 80).length = 80 := sch1_len l 80
    obtain ⟨ws, hws⟩ : ∃ ws, ws = sch1 l 80 := ⟨_, rfl⟩
    rw [← hws] at hw hwl ⊢
    obtain ⟨s, hsd⟩ : ∃ s, s = rnds1 ws ⟨h.getD 0 0, h.getD 1 0, h.getD 2 0, h.getD 3 0, h.getD 4 0⟩ t := ⟨_, rfl⟩
    rw [← hsd]
    repeat (first | (first | refine FW_seq ?_ | refine FW_region ?_ | refine RL_nil ?_ | refine E_thn_n ?_ | refine FW_skip ?_ | refine FW_block ?_ | refine FW_exit ?_ | refine FW_ret ?_ | refine E_thn_x ?_ | refine E_thn_r ?_ | refine E_blk_n ?_ | refine E_blk_x ?_ | refine E_blk_o rfl ?_ | refine E_blk_r ?_) | (refine st ?_ rfl; (first | refine OP_cmp rfl rfl rfl rfl rfl ?_ )))
    refine FW_cond rfl (fun hc => ?_) (fun hc => ?_)
    · simp only [cmpB, decide_eq_true_eq] at hc
      have hq : ((t : Int) / 20 = 0 ↔ t < 20) ∧ ((t : Int) / 20 = 1 ↔ 20 ≤ t ∧ t < 40) ∧ ((t : Int) / 20 = 2 ↔ 40 ≤ t ∧ t < 60) := by omega
      repeat (first | (first | refine FW_region ?_ | refine RL_nil ?_ | refine E_thn_n ?_ | refine FW_skip ?_ | refine FW_block ?_ | refine FW_exit ?_ | refine FW_ret ?_ | refine E_thn_x ?_ | refine E_thn_r ?_ | refine E_blk_n ?_ | refine E_blk_x ?_ | refine E_blk_o rfl ?_ | refine E_blk_r ?_) | (refine st ?_ rfl; (first | fail )))
      refine FW_seq ?_
      repeat (first | (first | refine FW_region ?_ | refine RL_nil ?_ | refine E_thn_n ?_ | refine FW_skip ?_ | refine FW_block ?_ | refine FW_exit ?_ | refine FW_ret ?_ | refine E_thn_x ?_ | refine E_thn_r ?_ | refine E_blk_n ?_ | refine E_blk_x ?_ | refine E_blk_o rfl ?_ | refine E_blk_r ?_) | (refine st ?_ rfl; (first | fail )))
      refine FW_seq ?_
      repeat (first | (first | refine FW_region ?_ | refine RL_nil ?_ | refine E_thn_n ?_ | refine FW_skip ?_ | refine FW_block ?_ | refine FW_exit ?_ | refine FW_ret ?_ | refine E_thn_x ?_ | refine E_thn_r ?_ | refine E_blk_n ?_ | refine E_blk_x ?_ | refine E_blk_o rfl ?_ | refine E_blk_r ?_) | (refine st ?_ rfl; (first | refine OP_move rfl ?_ | refine OP_assign rfl ?_ )))
      refine FW_seq ?_
      repeat (first | (first | refine FW_region ?_ | refine RL_nil ?_ | refine E_thn_n ?_ | refine FW_skip ?_ | refine FW_block ?_ | refine FW_exit ?_ | refine FW_ret ?_ | refine E_thn_x ?_ | refine E_thn_r ?_ | refine E_blk_n ?_ | refine E_blk_x ?_ | refine E_blk_o rfl ?_ | refine E_blk_r ?_) | (refine st ?_ rfl; (first | refine OP_assign rfl ?_ )))
      refine FW_cut (fun (_ : Unit) => [(0, .v (.pointer (some ⟨b, 0, none⟩))), (4, .v (.pointer (some ⟨bw, 0, none⟩))), (6, .u32 s.a), (7, .u32 s.b), (8, .u32 s.c), (9, .u32 s.d), (10, .u32 s.e), (67, .v (.int .i64 (t : Int))), (11, .v (.int .i64 (t : Int))), (12, .u32 (f1 t s.b s.c s.d)), (13, .u32 (k1 t))])
        (fun _ w' => wr = w') ?_ ?_
      · repeat (first | (first | refine FW_seq ?_ | refine FW_region ?_ | refine RL_nil ?_ | refine E_thn_n ?_ | refine FW_skip ?_ | refine FW_block ?_ | refine FW_exit ?_ | refine FW_ret ?_ | refine E_thn_x ?_ | refine E_thn_r ?_ | refine E_blk_n ?_ | refine E_blk_x ?_ | refine E_blk_o rfl ?_ | refine E_blk_r ?_) | (refine st ?_ rfl; (first | refine OP_move rfl ?_ | refine OP_assign rfl ?_ | refine OP_cmp rfl rfl rfl rfl rfl ?_ | refine OP_quo rfl rfl (by omega) ?_ )))
        refine FW_cond rfl (fun h1 => ?_) (fun h1 => ?_)
        · simp only [cmpB, beq_iff_eq] at h1
          repeat (first | (first | refine FW_seq ?_ | refine FW_region ?_ | refine RL_nil ?_ | refine E_thn_n ?_ | refine FW_skip ?_ | refine FW_block ?_ | refine FW_exit ?_ | refine FW_ret ?_ | refine E_thn_x ?_ | refine E_thn_r ?_ | refine E_blk_n ?_ | refine E_blk_x ?_ | refine E_blk_o rfl ?_ | refine E_blk_r ?_) | (refine st ?_ rfl; (first | refine OP_move rfl ?_ | refine OP_assign rfl ?_ | refine OP_b32 rfl rfl rfl ?_ | refine OP_xor32 rfl ?_ )))
          refine ⟨(), ⟨rfl, rfl, rfl, rfl, rfl, rfl, rfl, rfl, rfl, sv32 ?_, sv32 ?_, trivial⟩, rfl⟩
          · rw [f1, if_pos (by omega)]; rfl
          · rw [k1, if_pos (by omega)]; rfl
        · simp only [cmpB, beq_eq_false_iff_ne] at h1
          repeat (first | (first | refine FW_seq ?_ | refine FW_region ?_ | refine RL_nil ?_ | refine E_thn_n ?_ | refine FW_skip ?_ | refine FW_block ?_ | refine FW_exit ?_ | refine FW_ret ?_ | refine E_thn_x ?_ | refine E_thn_r ?_ | refine E_blk_n ?_ | refine E_blk_x ?_ | refine E_blk_o rfl ?_ | refine E_blk_r ?_) | (refine st ?_ rfl; (first | refine OP_assign rfl ?_ | refine OP_cmp rfl rfl rfl rfl rfl ?_ )))
          refine FW_cond rfl (fun h2 => ?_) (fun h2 => ?_)
          · simp only [cmpB, beq_iff_eq] at h2
            repeat (first | (first | refine FW_seq ?_ | refine FW_region ?_ | refine RL_nil ?_ | refine E_thn_n ?_ | refine FW_skip ?_ | refine FW_block ?_ | refine FW_exit ?_ | refine FW_ret ?_ | refine E_thn_x ?_ | refine E_thn_r ?_ | refine E_blk_n ?_ | refine E_blk_x ?_ | refine E_blk_o rfl ?_ | refine E_blk_r ?_) | (refine st ?_ rfl; (first | refine OP_move rfl ?_ | refine OP_assign rfl ?_ | refine OP_b32 rfl rfl rfl ?_ )))
            refine ⟨(), ⟨rfl, rfl, rfl, rfl, rfl, rfl, rfl, rfl, rfl, sv32 ?_, sv32 ?_, trivial⟩, rfl⟩
            · rw [f1, if_neg (by omega), if_pos (by omega)]; rfl
            · rw [k1, if_neg (by omega), if_pos (by omega)]; rfl
          · simp only [cmpB, beq_eq_false_iff_ne] at h2
            repeat (first | (first | refine FW_seq ?_ | refine FW_region ?_ | refine RL_nil ?_ | refine E_thn_n ?_ | refine FW_skip ?_ | refine FW_block ?_ | refine FW_exit ?_ | refine FW_ret ?_ | refine E_thn_x ?_ | refine E_thn_r ?_ | refine E_blk_n ?_ | refine E_blk_x ?_ | refine E_blk_o rfl ?_ | refine E_blk_r ?_) | (refine st ?_ rfl; (first | refine OP_assign rfl ?_ | refine OP_cmp rfl rfl rfl rfl rfl ?_ )))
            refine FW_cond rfl (fun h3 => ?_) (fun h3 => ?_)
            · simp only [cmpB, beq_iff_eq] at h3
              repeat (first | (first | refine FW_seq ?_ | refine FW_region ?_ | refine RL_nil ?_ | refine E_thn_n ?_ | refine FW_skip ?_ | refine FW_block ?_ | refine FW_exit ?_ | refine FW_ret ?_ | refine E_thn_x ?_ | refine E_thn_r ?_ | refine E_blk_n ?_ | refine E_blk_x ?_ | refine E_blk_o rfl ?_ | refine E_blk_r ?_) | (refine st ?_ rfl; (first | refine OP_move rfl ?_ | refine OP_assign rfl ?_ | refine OP_b32 rfl rfl rfl ?_ )))
              refine ⟨(), ⟨rfl, rfl, rfl, rfl, rfl, rfl, rfl, rfl, rfl, sv32 ?_, sv32 ?_, trivial⟩, rfl⟩
              · rw [f1, if_neg (by omega), if_neg (by omega), if_pos (by omega)]; rfl
              · rw [k1, if_neg (by omega), if_neg (by omega), if_pos (by omega)]; rfl
            · simp only [cmpB, beq_eq_false_iff_ne] at h3
              repeat (first | (first | refine FW_seq ?_ | refine FW_region ?_ | refine RL_nil ?_ | refine E_thn_n ?_ | refine FW_skip ?_ | refine FW_block ?_ | refine FW_exit ?_ | refine FW_ret ?_ | refine E_thn_x ?_ | refine E_thn_r ?_ | refine E_blk_n ?_ | refine E_blk_x ?_ | refine E_blk_o rfl ?_ | refine E_blk_r ?_) | (refine st ?_ rfl; (first | refine OP_move rfl ?_ | refine OP_assign rfl ?_ | refine OP_b32 rfl rfl rfl ?_ )))
              refine ⟨(), ⟨rfl, rfl, rfl, rfl, rfl, rfl, rfl, rfl, rfl, sv32 ?_, sv32 ?_, trivial⟩, rfl⟩
              · rw [f1, if_neg (by omega), if_neg (by omega), if_neg (by omega)]; rfl
              · rw [k1, if_neg (by omega), if_neg (by omega), if_neg (by omega)]; rfl
      · rintro _ w' rfl
        repeat (first | (first | refine FW_seq ?_ | refine FW_region ?_ | refine RL_nil ?_ | refine E_thn_n ?_ | refine FW_skip ?_ | refine FW_block ?_ | refine FW_exit ?_ | refine FW_ret ?_ | refine E_thn_x ?_ | refine E_thn_r ?_ | refine E_blk_n ?_ | refine E_blk_x ?_ | refine E_blk_o rfl ?_ | refine E_blk_r ?_) | (refine st ?_ rfl; (first | fail )))
        refine FW_draw mixed 22 (by kernel_rfl) ?_
        repeat (first | (first | refine dr rfl (fun w_ he_ => OP_move rfl ⟨Ext.refl _, rfl⟩) ?_ | refine dr rfl (fun w_ he_ => OP_assign rfl ⟨Ext.refl _, rfl⟩) ?_ | refine dr rfl (fun w_ he_ => OP_b32 rfl rfl rfl ⟨Ext.refl _, rfl⟩) ?_ | refine dr rfl (fun w_ he_ => OP_ixa (t := 115) at80 rfl rfl rfl (by omega) ⟨Ext.refl _, rfl⟩) ?_ | refine dr rfl (fun w_ he_ => OP_load (s := .u32 _) Tryd.underlying98 rfl rfl (BlkW.at (by assumption) he_ _ (by omega)) rfl ⟨Ext.refl _, rfl⟩) ?_ ) | refine dr rfl (fun w_ he_ => OP_call32s ent_rot rfl (rp5 _ _) ⟨Ext.refl _, rfl⟩) ?_ | refine dr rfl (fun w_ he_ => OP_call32s ent_rot rfl (rp30 _ _) ⟨Ext.refl _, rfl⟩) ?_ )
        refine dr_end fun w2 he2 => ?_
        repeat (first | (first | refine FW_seq ?_ | refine FW_region ?_ | refine RL_nil ?_ | refine E_thn_n ?_ | refine FW_skip ?_ | refine FW_block ?_ | refine FW_exit ?_ | refine FW_ret ?_ | refine E_thn_x ?_ | refine E_thn_r ?_ | refine E_blk_n ?_ | refine E_blk_x ?_ | refine E_blk_o rfl ?_ | refine E_blk_r ?_) | (refine st ?_ rfl; (first | refine OP_move rfl ?_ | refine OP_add rfl rfl (by omega) ?_ )))
        refine ⟨t + 1, (), ⟨rfl, rfl, sv32 ?_, sv32 ?_, sv32 ?_, sv32 ?_, sv32 ?_, rfl, trivial⟩, ⟨by omega, hw.ext he2, he.trans he2⟩, by omega⟩
        all_goals rw [rnds1, ← hsd]
        all_goals rfl
    · simp only [cmpB, decide_eq_false_iff_not] at hc
      have ht80 : t = 80 := by omega
      subst ht80
      have hbr := hb.ext he
      have hbl := hb.lt
      clear hw hwl
      obtain ⟨x0, x1, x2, x3, x4, rfl⟩ := five h hh
      have hg0 : w.grownBy wr (some b) := grownBy.of_ext he _
      have ha0 : BlkW wr b [x0, x1, x2, x3, x4] := hbr
      have hl0 : [x0, x1, x2, x3, x4].length = 5 := rfl
      clear hbr
      repeat (first | (first | refine FW_seq ?_ | refine FW_region ?_ | refine RL_nil ?_ | refine E_thn_n ?_ | refine FW_skip ?_ | refine FW_block ?_ | refine FW_exit ?_ | refine FW_ret ?_ | refine E_thn_x ?_ | refine E_thn_r ?_ | refine E_blk_n ?_ | refine E_blk_x ?_ | refine E_blk_o rfl ?_ | refine E_blk_r ?_) | (refine st ?_ rfl; (first | fail )))
      refine FW_draw mixed 8 (by kernel_rfl) ?_
      repeat (first | refine dr rfl (fun w_ he_ => OP_move rfl ⟨Ext.refl _, rfl⟩) ?_ | refine dr rfl (fun w_ he_ => OP_b32 rfl rfl rfl ⟨Ext.refl _, rfl⟩) ?_ | refine dr rfl (fun w_ he_ => OP_nilCheck rfl ⟨Ext.refl _, rfl⟩) ?_ | refine dr rfl (fun w_ he_ => OP_ixa (t := 109) at5 rfl rfl rfl (by omega) ⟨Ext.refl _, rfl⟩) ?_ | refine dr rfl (fun w_ he_ => OP_load (s := .u32 _) Tryd.underlying98 rfl rfl (BlkW.at (by assumption) he_ _ (by omega)) rfl ⟨Ext.refl _, rfl⟩) ?_ )
      refine dr_end fun u0 hu0 => ?_
      refine st0 (OP_stw s32 rfl rfl (Blk.ext ha0 hu0) (by omega) fun _ v0 hb0 hv0 => ?_)
      have ha1 : BlkW v0 b [x0 + s.a, x1, x2, x3, x4] := hb0
      have hg1 : w.grownBy v0 (some b) := Go.Eng.grownBy.trans (Go.Eng.grownBy.ext hg0 hu0) hv0
      have hl1 : [x0 + s.a, x1, x2, x3, x4].length = 5 := rfl
      clear ha0 hb0 hl0
      repeat (first | (first | refine FW_seq ?_ | refine FW_region ?_ | refine RL_nil ?_ | refine E_thn_n ?_ | refine FW_skip ?_ | refine FW_block ?_ | refine FW_exit ?_ | refine FW_ret ?_ | refine E_thn_x ?_ | refine E_thn_r ?_ | refine E_blk_n ?_ | refine E_blk_x ?_ | refine E_blk_o rfl ?_ | refine E_blk_r ?_) | (refine st ?_ rfl; (first | fail )))
      refine FW_draw mixed 8 (by kernel_rfl) ?_
      repeat (first | refine dr rfl (fun w_ he_ => OP_move rfl ⟨Ext.refl _, rfl⟩) ?_ | refine dr rfl (fun w_ he_ => OP_b32 rfl rfl rfl ⟨Ext.refl _, rfl⟩) ?_ | refine dr rfl (fun w_ he_ => OP_nilCheck rfl ⟨Ext.refl _, rfl⟩) ?_ | refine dr rfl (fun w_ he_ => OP_ixa (t := 109) at5 rfl rfl rfl (by omega) ⟨Ext.refl _, rfl⟩) ?_ | refine dr rfl (fun w_ he_ => OP_load (s := .u32 _) Tryd.underlying98 rfl rfl (BlkW.at (by assumption) he_ _ (by omega)) rfl ⟨Ext.refl _, rfl⟩) ?_ )
      refine dr_end fun u1 hu1 => ?_
      refine st0 (OP_stw s32 rfl rfl (Blk.ext ha1 hu1) (by omega) fun _ v1 hb1 hv1 => ?_)
      have ha2 : BlkW v1 b [x0 + s.a, x1 + s.b, x2, x3, x4] := hb1
      have hg2 : w.grownBy v1 (some b) := Go.Eng.grownBy.trans (Go.Eng.grownBy.ext hg1 hu1) hv1
      have hl2 : [x0 + s.a, x1 + s.b, x2, x3, x4].length = 5 := rfl
      clear ha1 hb1 hl1
      repeat (first | (first | refine FW_seq ?_ | refine FW_region ?_ | refine RL_nil ?_ | refine E_thn_n ?_ | refine FW_skip ?_ | refine FW_block ?_ | refine FW_exit ?_ | refine FW_ret ?_ | refine E_thn_x ?_ | refine E_thn_r ?_ | refine E_blk_n ?_ | refine E_blk_x ?_ | refine E_blk_o rfl ?_ | refine E_blk_r ?_) | (refine st ?_ rfl; (first | fail )))
      refine FW_draw mixed 8 (by kernel_rfl) ?_
      repeat (first | refine dr rfl (fun w_ he_ => OP_move rfl ⟨Ext.refl _, rfl⟩) ?_ | refine dr rfl (fun w_ he_ => OP_b32 rfl rfl rfl ⟨Ext.refl _, rfl⟩) ?_ | refine dr rfl (fun w_ he_ => OP_nilCheck rfl ⟨Ext.refl _, rfl⟩) ?_ | refine dr rfl (fun w_ he_ => OP_ixa (t := 109) at5 rfl rfl rfl (by omega) ⟨Ext.refl _, rfl⟩) ?_ | refine dr rfl (fun w_ he_ => OP_load (s := .u32 _) Tryd.underlying98 rfl rfl (BlkW.at (by assumption) he_ _ (by omega)) rfl ⟨Ext.refl _, rfl⟩) ?_ )
      refine dr_end fun u2 hu2 => ?_
      refine st0 (OP_stw s32 rfl rfl (Blk.ext ha2 hu2) (by omega) fun _ v2 hb2 hv2 => ?_)
      have ha3 : BlkW v2 b [x0 + s.a, x1 + s.b, x2 + s.c, x3, x4] := hb2
      have hg3 : w.grownBy v2 (some b) := Go.Eng.grownBy.trans (Go.Eng.grownBy.ext hg2 hu2) hv2
      have hl3 : [x0 + s.a, x1 + s.b, x2 + s.c, x3, x4].length = 5 := rfl
      clear ha2 hb2 hl2
      repeat (first | (first | refine FW_seq ?_ | refine FW_region ?_ | refine RL_nil ?_ | refine E_thn_n ?_ | refine FW_skip ?_ | refine FW_block ?_ | refine FW_exit ?_ | refine FW_ret ?_ | refine E_thn_x ?_ | refine E_thn_r ?_ | refine E_blk_n ?_ | refine E_blk_x ?_ | refine E_blk_o rfl ?_ | refine E_blk_r ?_) | (refine st ?_ rfl; (first | fail )))
      refine FW_draw mixed 8 (by kernel_rfl) ?_
      repeat (first | refine dr rfl (fun w_ he_ => OP_move rfl ⟨Ext.refl _, rfl⟩) ?_ | refine dr rfl (fun w_ he_ => OP_b32 rfl rfl rfl ⟨Ext.refl _, rfl⟩) ?_ | refine dr rfl (fun w_ he_ => OP_nilCheck rfl ⟨Ext.refl _, rfl⟩) ?_ | refine dr rfl (fun w_ he_ => OP_ixa (t := 109) at5 rfl rfl rfl (by omega) ⟨Ext.refl _, rfl⟩) ?_ | refine dr rfl (fun w_ he_ => OP_load (s := .u32 _) Tryd.underlying98 rfl rfl (BlkW.at (by assumption) he_ _ (by omega)) rfl ⟨Ext.refl _, rfl⟩) ?_ )
      refine dr_end fun u3 hu3 => ?_
      refine st0 (OP_stw s32 rfl rfl (Blk.ext ha3 hu3) (by omega) fun _ v3 hb3 hv3 => ?_)
      have ha4 : BlkW v3 b [x0 + s.a, x1 + s.b, x2 + s.c, x3 + s.d, x4] := hb3
      have hg4 : w.grownBy v3 (some b) := Go.Eng.grownBy.trans (Go.Eng.grownBy.ext hg3 hu3) hv3
      have hl4 : [x0 + s.a, x1 + s.b, x2 + s.c, x3 + s.d, x4].length = 5 := rfl
      clear ha3 hb3 hl3
      repeat (first | (first | refine FW_seq ?_ | refine FW_region ?_ | refine RL_nil ?_ | refine E_thn_n ?_ | refine FW_skip ?_ | refine FW_block ?_ | refine FW_exit ?_ | refine FW_ret ?_ | refine E_thn_x ?_ | refine E_thn_r ?_ | refine E_blk_n ?_ | refine E_blk_x ?_ | refine E_blk_o rfl ?_ | refine E_blk_r ?_) | (refine st ?_ rfl; (first | fail )))
      refine FW_draw mixed 8 (by kernel_rfl) ?_
      repeat (first | refine dr rfl (fun w_ he_ => OP_move rfl ⟨Ext.refl _, rfl⟩) ?_ | refine dr rfl (fun w_ he_ => OP_b32 rfl rfl rfl ⟨Ext.refl _, rfl⟩) ?_ | refine dr rfl (fun w_ he_ => OP_nilCheck rfl ⟨Ext.refl _, rfl⟩) ?_ | refine dr rfl (fun w_ he_ => OP_ixa (t := 109) at5 rfl rfl rfl (by omega) ⟨Ext.refl _, rfl⟩) ?_ | refine dr rfl (fun w_ he_ => OP_load (s := .u32 _) Tryd.underlying98 rfl rfl (BlkW.at (by assumption) he_ _ (by omega)) rfl ⟨Ext.refl _, rfl⟩) ?_ )
      refine dr_end fun u4 hu4 => ?_
      refine st0 (OP_stw s32 rfl rfl (Blk.ext ha4 hu4) (by omega) fun _ v4 hb4 hv4 => ?_)
      have ha5 : BlkW v4 b [x0 + s.a, x1 + s.b, x2 + s.c, x3 + s.d, x4 + s.e] := hb4
      have hg5 : w.grownBy v4 (some b) := Go.Eng.grownBy.trans (Go.Eng.grownBy.ext hg4 hu4) hv4
      have hl5 : [x0 + s.a, x1 + s.b, x2 + s.c, x3 + s.d, x4 + s.e].length = 5 := rfl
      clear ha4 hb4 hl4
      repeat (first | (first | refine FW_seq ?_ | refine FW_region ?_ | refine RL_nil ?_ | refine E_thn_n ?_ | refine FW_skip ?_ | refine FW_block ?_ | refine FW_exit ?_ | refine FW_ret ?_ | refine E_thn_x ?_ | refine E_thn_r ?_ | refine E_blk_n ?_ | refine E_blk_x ?_ | refine E_blk_o rfl ?_ | refine E_blk_r ?_) | (refine st ?_ rfl; (first | fail )))
      refine E_end_n rfl ⟨?_, hg5⟩
      simp only [comp1]
      rw [← hws, ← hsd]
      exact ha5
end Go.Proofs.YtfjcmolccckhhaaDoor

namespace Go.Proofs.YtfjcmolccckhhaaDoor
open Go Go.RowKit Go.Eng
set_option linter.unusedVariables false
attribute [local irreducible] FW RL OP DR thn blk endp endg Calls
theorem ent_dig_pad : Ent Tryd.prog 115 := Ent.mk Tryd.func115 (by kernel_rfl) rfl
theorem ent_dig_compress1 : Ent Tryd.prog 116 := Ent.mk Tryd.func116 (by kernel_rfl) rfl
theorem ent_dig_compress256 : Ent Tryd.prog 118 := Ent.mk Tryd.func118 (by kernel_rfl) rfl
theorem ent_dig_spread : Ent Tryd.prog 117 := Ent.mk Tryd.func117 (by kernel_rfl) rfl
theorem ent_ref_pad : Ent Tryd.prog 102 := Ent.mk Tryd.func102 (by kernel_rfl) rfl
theorem ent_ref_bytes : Ent Tryd.prog 105 := Ent.mk Tryd.func105 (by kernel_rfl) rfl
theorem ent_ref_constants : Ent Tryd.prog 101 := Ent.mk Tryd.func101 (by kernel_rfl) rfl
theorem blk_words {w : World} {b : Nat} {hs : List UInt32} (n : Nat) (h : BlkW w b hs) (hl : hs.length = n) (hn : n ≤ 80) : Words w (.slice (some ⟨b, 0, none⟩) n n) hs := by
  have := Blk.sl (sz := 1) (n := n) h (by simp [hl]) (Nat.le_trans hn (by decide))
  subst hl; exact this
theorem fold64_step (f : List UInt32 → List UInt8 → List UInt32) (n : Nat) (h : List UInt32) (q : List UInt8) : fold64 f (n + 1) h q = fold64 f n (f h (q.take 64)) (q.drop 64) := rfl
set_option maxHeartbeats 8000000 in
theorem dig_sum (w : World) (alg : Int) (v : Value) (l : List UInt8) (hK : KT w) (hB : Bytes w v l) (hl : l.length ≤ 4294967296) :
    Calls Tryd.prog 99 #[.int .i64 alg, v] w (Ret fun r w' => OwnB w.heap.size w' r (sumB alg l) ∧ Ext w w') := by
  refine calls_of_FW [.v (.int .i64 alg), .v v] Tryd.func99 rfl Tryd.ntmps99 rfl rfl ?_
  have hklt := hK.lt
  repeat (first | (first | refine FW_seq ?_ | refine FW_region ?_ | refine RL_nil ?_ | refine E_thn_n ?_ | refine FW_skip ?_ | refine FW_block ?_ | refine FW_exit ?_ | refine FW_ret ?_ | refine E_thn_x ?_ | refine E_thn_r ?_ | refine E_blk_n ?_ | refine E_blk_x ?_ | refine E_blk_o rfl ?_ | refine E_blk_r ?_) | (refine st ?_ rfl; (first | refine OP_move rfl ?_ | refine OP_assign rfl ?_ | refine OP_cmp rfl rfl rfl rfl rfl ?_ )))
  refine FW_cond rfl (fun ha => ?_) (fun ha => ?_)
  · simp only [cmpB, beq_iff_eq] at ha
    repeat (first | (first | refine FW_seq ?_ | refine FW_region ?_ | refine RL_nil ?_ | refine E_thn_n ?_ | refine FW_skip ?_ | refine FW_block ?_ | refine FW_exit ?_ | refine FW_ret ?_ | refine E_thn_x ?_ | refine E_thn_r ?_ | refine E_blk_n ?_ | refine E_blk_x ?_ | refine E_blk_o rfl ?_ | refine E_blk_r ?_) | (refine st ?_ rfl; (first | fail )))
    refine st (OP_bw at5 z5 rfl rfl rfl ?_) rfl
    refine st (OP_alloc z5 fun b w1 hb1 hbw0 he1 => ?_) rfl
    have hb1 := zero_words hb1
    refine st0 (OP_stws n5 rfl rfl hb1 rfl rfl fun _ w2 hb2 hg2 => ?_)
    have he2 : Ext w w2 := he1.grown hg2 (fun k hk => by obtain rfl := Option.some.inj hk; exact hbw0)
    have hbl := hb2.lt
    repeat (first | (first | refine FW_seq ?_ | refine FW_region ?_ | refine RL_nil ?_ | refine E_thn_n ?_ | refine FW_skip ?_ | refine FW_block ?_ | refine FW_exit ?_ | refine FW_ret ?_ | refine E_thn_x ?_ | refine E_thn_r ?_ | refine E_blk_n ?_ | refine E_blk_x ?_ | refine E_blk_o rfl ?_ | refine E_blk_r ?_) | (refine st ?_ rfl; (first | refine OP_move rfl ?_ )))
    refine st (OP_call ent_dig_pad rfl (dig_pad w2 v l (hB.ext he2) hl) fun p w3 ⟨ho3, he3⟩ => ?_) rfl
    have hb3 := hb2.ext he3
    repeat (first | (first | refine FW_seq ?_ | refine FW_region ?_ | refine RL_nil ?_ | refine E_thn_n ?_ | refine FW_skip ?_ | refine FW_block ?_ | refine FW_exit ?_ | refine FW_ret ?_ | refine E_thn_x ?_ | refine E_thn_r ?_ | refine E_blk_n ?_ | refine E_blk_x ?_ | refine E_blk_o rfl ?_ | refine E_blk_r ?_) | (refine st ?_ rfl; (first | refine OP_assign rfl ?_ )))
    refine FW_loop2 (fun (n : Nat) (pv : Value) => [(5, .v (.pointer (some ⟨b, 0, none⟩))), (6, .v pv)])
      (fun n pv w' => ∃ hs q, q.length = 64 * n ∧ Bytes w' pv q ∧ (∀ g, pv.ownBlock = some g → b < g) ∧ BlkW w' b hs ∧ hs.length = 5 ∧ fold64 comp1 n hs q = fold64 comp1 ((padB l).length / 64) h1 (padB l) ∧ Ext w w') (fun n _ => n)
      ((padB l).length / 64) p ⟨rfl, rfl, trivial⟩ ⟨_, _, by rw [padB_len]; omega, ho3.hold, fun g hg => by have := ho3.lt hg; omega, hb3, rfl, rfl, he2.trans he3⟩ ?_
    rintro n pv wr ⟨hs, q, hq, hpv, hblk, hbw, hlen, hf, he⟩
    repeat (first | (first | refine FW_seq ?_ | refine FW_region ?_ | refine RL_nil ?_ | refine E_thn_n ?_ | refine FW_skip ?_ | refine FW_block ?_ | refine FW_exit ?_ | refine FW_ret ?_ | refine E_thn_x ?_ | refine E_thn_r ?_ | refine E_blk_n ?_ | refine E_blk_x ?_ | refine E_blk_o rfl ?_ | refine E_blk_r ?_) | (refine st ?_ rfl; (first | refine OP_move rfl ?_ | refine OP_cmp rfl rfl rfl rfl rfl ?_ | refine OP_len (t := 22) Tryd.underlying22 rfl (by assumption) ?_ )))
    refine FW_cond rfl (fun hc => ?_) (fun hc => ?_)
    · simp only [cmpB, gt_iff_lt, decide_eq_true_eq] at hc
      obtain ⟨m, rfl⟩ : ∃ m, n = m + 1 := ⟨n - 1, by omega⟩
      repeat (first | (first | refine FW_seq ?_ | refine FW_region ?_ | refine RL_nil ?_ | refine E_thn_n ?_ | refine FW_skip ?_ | refine FW_block ?_ | refine FW_exit ?_ | refine FW_ret ?_ | refine E_thn_x ?_ | refine E_thn_r ?_ | refine E_blk_n ?_ | refine E_blk_x ?_ | refine E_blk_o rfl ?_ | refine E_blk_r ?_) | (refine st ?_ rfl; (first | refine OP_move rfl ?_ )))
      refine st (OP_cut_h ts8 rfl hpv rfl (by omega) fun u hu hou => ?_) rfl
      refine st (OP_call ent_dig_compress1 rfl (dig_comp1 wr b hs u _ hbw hlen hu (by simp; omega)) fun _ w4 ⟨hb4, hg4⟩ => ?_) rfl
      have hpv4 := hpv.grown hg4 (fun g hg e => by have := hblk g hg; have := Option.some.inj e; omega)
      have he4 : Ext w w4 := he.grown hg4 (fun k hk => by obtain rfl := Option.some.inj hk; exact hbw0)
      repeat (first | (first | refine FW_seq ?_ | refine FW_region ?_ | refine RL_nil ?_ | refine E_thn_n ?_ | refine FW_skip ?_ | refine FW_block ?_ | refine FW_exit ?_ | refine FW_ret ?_ | refine E_thn_x ?_ | refine E_thn_r ?_ | refine E_blk_n ?_ | refine E_blk_x ?_ | refine E_blk_o rfl ?_ | refine E_blk_r ?_) | (refine st ?_ rfl; (first | refine OP_move rfl ?_ )))
      refine st (OP_cut_l ts8 rfl hpv4 rfl (by omega) fun u' hu' hou' => ?_) rfl
      repeat (first | (first | refine FW_seq ?_ | refine FW_region ?_ | refine RL_nil ?_ | refine E_thn_n ?_ | refine FW_skip ?_ | refine FW_block ?_ | refine FW_exit ?_ | refine FW_ret ?_ | refine E_thn_x ?_ | refine E_thn_r ?_ | refine E_blk_n ?_ | refine E_blk_x ?_ | refine E_blk_o rfl ?_ | refine E_blk_r ?_) | (refine st ?_ rfl; (first | refine OP_assign rfl ?_ )))
      exact ⟨m, u', ⟨rfl, rfl, trivial⟩, ⟨_, _, by simp; omega, hu', fun g hg => hblk g (hou' ▸ hg), hb4, rfl, by rw [fold64_step] at hf; exact hf, he4⟩, by omega⟩
    · simp only [cmpB, gt_iff_lt, decide_eq_false_iff_not] at hc
      have hn : n = 0 := by omega
      subst hn
      repeat (first | (first | refine FW_seq ?_ | refine FW_region ?_ | refine RL_nil ?_ | refine E_thn_n ?_ | refine FW_skip ?_ | refine FW_block ?_ | refine FW_exit ?_ | refine FW_ret ?_ | refine E_thn_x ?_ | refine E_thn_r ?_ | refine E_blk_n ?_ | refine E_blk_x ?_ | refine E_blk_o rfl ?_ | refine E_blk_r ?_) | (refine st ?_ rfl; (first | fail )))
      refine st (OP_slicea (b := b) at5 rfl ?_) rfl
      refine st (OP_call ent_dig_spread rfl (dig_spread wr _ hs (blk_words 5 hbw hlen (by decide)) (by omega)) fun r w5 ⟨ho5, he5⟩ => ?_) rfl
      repeat (first | (first | refine FW_seq ?_ | refine FW_region ?_ | refine RL_nil ?_ | refine E_thn_n ?_ | refine FW_skip ?_ | refine FW_block ?_ | refine FW_exit ?_ | refine FW_ret ?_ | refine E_thn_x ?_ | refine E_thn_r ?_ | refine E_blk_n ?_ | refine E_blk_x ?_ | refine E_blk_o rfl ?_ | refine E_blk_r ?_) | (refine st ?_ rfl; (first | refine OP_assign rfl ?_ )))
      refine E_end_r rfl ⟨?_, he.trans he5⟩
      have e0 : hs = fold64 comp1 ((padB l).length / 64) h1 (padB l) := hf
      rw [sumB, if_pos ha, sha1, ← e0]
      exact ho5.base_le (Nat.le_trans he.size (Nat.le_refl _))
  · simp only [cmpB, beq_eq_false_iff_ne, ne_eq] at ha
    repeat (first | (first | refine FW_seq ?_ | refine FW_region ?_ | refine RL_nil ?_ | refine E_thn_n ?_ | refine FW_skip ?_ | refine FW_block ?_ | refine FW_exit ?_ | refine FW_ret ?_ | refine E_thn_x ?_ | refine E_thn_r ?_ | refine E_blk_n ?_ | refine E_blk_x ?_ | refine E_blk_o rfl ?_ | refine E_blk_r ?_) | (refine st ?_ rfl; (first | refine OP_assign rfl ?_ | refine OP_cmp rfl rfl rfl rfl rfl ?_ )))
    refine FW_cond rfl (fun ha2 => ?_) (fun ha2 => ?_)
    · simp only [cmpB, beq_iff_eq] at ha2
      repeat (first | (first | refine FW_seq ?_ | refine FW_region ?_ | refine RL_nil ?_ | refine E_thn_n ?_ | refine FW_skip ?_ | refine FW_block ?_ | refine FW_exit ?_ | refine FW_ret ?_ | refine E_thn_x ?_ | refine E_thn_r ?_ | refine E_blk_n ?_ | refine E_blk_x ?_ | refine E_blk_o rfl ?_ | refine E_blk_r ?_) | (refine st ?_ rfl; (first | fail )))
      refine st (OP_bw at8 z8 rfl rfl rfl ?_) rfl
      refine st (OP_alloc z8 fun b w1 hb1 hbw0 he1 => ?_) rfl
      have hb1 := zero_words hb1
      refine st0 (OP_stws n8 rfl rfl hb1 rfl rfl fun _ w2 hb2 hg2 => ?_)
      have he2 : Ext w w2 := he1.grown hg2 (fun k hk => by obtain rfl := Option.some.inj hk; exact hbw0)
      have hbl := hb2.lt
      repeat (first | (first | refine FW_seq ?_ | refine FW_region ?_ | refine RL_nil ?_ | refine E_thn_n ?_ | refine FW_skip ?_ | refine FW_block ?_ | refine FW_exit ?_ | refine FW_ret ?_ | refine E_thn_x ?_ | refine E_thn_r ?_ | refine E_blk_n ?_ | refine E_blk_x ?_ | refine E_blk_o rfl ?_ | refine E_blk_r ?_) | (refine st ?_ rfl; (first | refine OP_move rfl ?_ )))
      refine st (OP_call ent_dig_pad rfl (dig_pad w2 v l (hB.ext he2) hl) fun p w3 ⟨ho3, he3⟩ => ?_) rfl
      have hb3 := hb2.ext he3
      repeat (first | (first | refine FW_seq ?_ | refine FW_region ?_ | refine RL_nil ?_ | refine E_thn_n ?_ | refine FW_skip ?_ | refine FW_block ?_ | refine FW_exit ?_ | refine FW_ret ?_ | refine E_thn_x ?_ | refine E_thn_r ?_ | refine E_blk_n ?_ | refine E_blk_x ?_ | refine E_blk_o rfl ?_ | refine E_blk_r ?_) | (refine st ?_ rfl; (first | refine OP_assign rfl ?_ )))
      refine FW_loop2 (fun (n : Nat) (pv : Value) => [(7, .v (.pointer (some ⟨b, 0, none⟩))), (8, .v pv)])
        (fun n pv w' => ∃ hs q, q.length = 64 * n ∧ Bytes w' pv q ∧ (∀ g, pv.ownBlock = some g → b < g) ∧ BlkW w' b hs ∧ hs.length = 8 ∧ fold64 comp256 n hs q = fold64 comp256 ((padB l).length / 64) h256 (padB l) ∧ Ext w w') (fun n _ => n)
        ((padB l).length / 64) p ⟨rfl, rfl, trivial⟩ ⟨_, _, by rw [padB_len]; omega, ho3.hold, fun g hg => by have := ho3.lt hg; omega, hb3, rfl, rfl, he2.trans he3⟩ ?_
      rintro n pv wr ⟨hs, q, hq, hpv, hblk, hbw, hlen, hf, he⟩
      repeat (first | (first | refine FW_seq ?_ | refine FW_region ?_ | refine RL_nil ?_ | refine E_thn_n ?_ | refine FW_skip ?_ | refine FW_block ?_ | refine FW_exit ?_ | refine FW_ret ?_ | refine E_thn_x ?_ | refine E_thn_r ?_ | refine E_blk_n ?_ | refine E_blk_x ?_ | refine E_blk_o rfl ?_ | refine E_blk_r ?_) | (refine st ?_ rfl; (first | refine OP_move rfl ?_ | refine OP_cmp rfl rfl rfl rfl rfl ?_ | refine OP_len (t := 22) Tryd.underlying22 rfl (by assumption) ?_ )))
      refine FW_cond rfl (fun hc => ?_) (fun hc => ?_)
      · simp only [cmpB, gt_iff_lt, decide_eq_true_eq] at hc
        obtain ⟨m, rfl⟩ : ∃ m, n = m + 1 := ⟨n - 1, by omega⟩
        repeat (first | (first | refine FW_seq ?_ | refine FW_region ?_ | refine RL_nil ?_ | refine E_thn_n ?_ | refine FW_skip ?_ | refine FW_block ?_ | refine FW_exit ?_ | refine FW_ret ?_ | refine E_thn_x ?_ | refine E_thn_r ?_ | refine E_blk_n ?_ | refine E_blk_x ?_ | refine E_blk_o rfl ?_ | refine E_blk_r ?_) | (refine st ?_ rfl; (first | refine OP_move rfl ?_ )))
        refine st (OP_cut_h ts8 rfl hpv rfl (by omega) fun u hu hou => ?_) rfl
        refine st (OP_call ent_dig_compress256 rfl (dig_comp256 wr b hs u _ (hK.ext he) hbw hlen (by omega) hu (by simp; omega) (fun g hg => by have := hblk g (hou ▸ hg); omega)) fun _ w4 ⟨hb4, hg4⟩ => ?_) rfl
        have hpv4 := hpv.grown hg4 (fun g hg e => by have := hblk g hg; have := Option.some.inj e; omega)
        have he4 : Ext w w4 := he.grown hg4 (fun k hk => by obtain rfl := Option.some.inj hk; exact hbw0)
        repeat (first | (first | refine FW_seq ?_ | refine FW_region ?_ | refine RL_nil ?_ | refine E_thn_n ?_ | refine FW_skip ?_ | refine FW_block ?_ | refine FW_exit ?_ | refine FW_ret ?_ | refine E_thn_x ?_ | refine E_thn_r ?_ | refine E_blk_n ?_ | refine E_blk_x ?_ | refine E_blk_o rfl ?_ | refine E_blk_r ?_) | (refine st ?_ rfl; (first | refine OP_move rfl ?_ )))
        refine st (OP_cut_l ts8 rfl hpv4 rfl (by omega) fun u' hu' hou' => ?_) rfl
        repeat (first | (first | refine FW_seq ?_ | refine FW_region ?_ | refine RL_nil ?_ | refine E_thn_n ?_ | refine FW_skip ?_ | refine FW_block ?_ | refine FW_exit ?_ | refine FW_ret ?_ | refine E_thn_x ?_ | refine E_thn_r ?_ | refine E_blk_n ?_ | refine E_blk_x ?_ | refine E_blk_o rfl ?_ | refine E_blk_r ?_) | (refine st ?_ rfl; (first | refine OP_assign rfl ?_ )))
        exact ⟨m, u', ⟨rfl, rfl, trivial⟩, ⟨_, _, by simp; omega, hu', fun g hg => hblk g (hou' ▸ hg), hb4, comp256_len _ _ hlen, by rw [fold64_step] at hf; exact hf, he4⟩, by omega⟩
      · simp only [cmpB, gt_iff_lt, decide_eq_false_iff_not] at hc
        have hn : n = 0 := by omega
        subst hn
        repeat (first | (first | refine FW_seq ?_ | refine FW_region ?_ | refine RL_nil ?_ | refine E_thn_n ?_ | refine FW_skip ?_ | refine FW_block ?_ | refine FW_exit ?_ | refine FW_ret ?_ | refine E_thn_x ?_ | refine E_thn_r ?_ | refine E_blk_n ?_ | refine E_blk_x ?_ | refine E_blk_o rfl ?_ | refine E_blk_r ?_) | (refine st ?_ rfl; (first | fail )))
        refine st (OP_slicea (b := b) at8 rfl ?_) rfl
        refine st (OP_call ent_dig_spread rfl (dig_spread wr _ hs (blk_words 8 hbw hlen (by decide)) (by omega)) fun r w5 ⟨ho5, he5⟩ => ?_) rfl
        repeat (first | (first | refine FW_seq ?_ | refine FW_region ?_ | refine RL_nil ?_ | refine E_thn_n ?_ | refine FW_skip ?_ | refine FW_block ?_ | refine FW_exit ?_ | refine FW_ret ?_ | refine E_thn_x ?_ | refine E_thn_r ?_ | refine E_blk_n ?_ | refine E_blk_x ?_ | refine E_blk_o rfl ?_ | refine E_blk_r ?_) | (refine st ?_ rfl; (first | refine OP_assign rfl ?_ )))
        refine E_end_r rfl ⟨?_, he.trans he5⟩
        have e0 : hs = fold64 comp256 ((padB l).length / 64) h256 (padB l) := hf
        rw [sumB, if_neg ha, if_pos ha2, sha256, ← e0]
        exact ho5.base_le (Nat.le_trans he.size (Nat.le_refl _))
    · simp only [cmpB, beq_eq_false_iff_ne, ne_eq] at ha2
      repeat (first | (first | refine FW_seq ?_ | refine FW_region ?_ | refine RL_nil ?_ | refine E_thn_n ?_ | refine FW_skip ?_ | refine FW_block ?_ | refine FW_exit ?_ | refine FW_ret ?_ | refine E_thn_x ?_ | refine E_thn_r ?_ | refine E_blk_n ?_ | refine E_blk_x ?_ | refine E_blk_o rfl ?_ | refine E_blk_r ?_) | (refine st ?_ rfl; (first | refine OP_assign rfl ?_ )))
      refine E_end_r rfl ⟨?_, Ext.refl _⟩
      rw [sumB, if_neg ha, if_neg ha2]
      exact Own.nil _ _ _ _
end Go.Proofs.YtfjcmolccckhhaaDoor

namespace Go.Proofs.YtfjcmolccckhhaaDoor
open Go Go.RowKit Go.Eng
set_option linter.unusedVariables false
attribute [local irreducible] FW RL OP DR thn blk endp endg Calls
theorem E_endg_cell {P : Program} {fn : Func} {R : Value → World → Prop} {L : Lst} {w : World} {p ty b : Nat} {c : List Value} {d : TypeDesc} (hr : fn.results = #[.cell p ty]) (hp : lkp p L = some (.v (.pointer (some ⟨b, 0, none⟩)))) (hb : Blk w b c)
    (hu : P.underlying ty = some d) (hd : (match d with | .struct _ | .array _ _ => true | _ => false) = true) (hi : (P.info? ty).map (·.size) = some c.length) (h : R (.agg c.toArray) w) : endg P fn R .ret L w := by
  obtain ⟨T, hT⟩ := id hb
  unfold endg
  refine ⟨_, fun a ha => results_cell_row hr a.tmps w b T c.toArray (0, 0) d ?_ hT hu hd (by simpa using hi), h⟩
  have := ha p _ hp
  simpa [SV.den] using this
theorem _root_.Go.Eng.Own.blk {α : Type} {f : α → Value} {e base g : Nat} {w : World} {v : Value} {l : List α} (h : Own f e base w v l) (ht : Tight v) (hg : v.ownBlock = some g) : v = .slice (some ⟨g, 0, none⟩) l.length l.length ∧ Blk w g (l.map f) := by
  obtain ⟨hl, h⟩ := h
  rcases h with ⟨rfl, _⟩ | ⟨g', cap, cur, rfl, hb, hh, h1, h2, h3, h4⟩
  · cases hg
  · obtain ⟨a, n, hv⟩ := ht
    simp only [Value.slice.injEq] at hv
    obtain ⟨rfl, rfl, rfl⟩ := hv
    obtain rfl := Option.some.inj hg
    refine ⟨rfl, e, ?_⟩
    rw [hh]
    rw [List.take_of_length_le (by simp [h3])] at h4
    rw [← h4]
theorem _root_.Go.Eng.Own.shape {α : Type} {f : α → Value} {e base : Nat} {w : World} {v : Value} {l : List α} (h : Own f e base w v l) (hl : l.length ≠ 0) : ∃ g cap, v = .slice (some ⟨g, 0, none⟩) l.length cap ∧ base ≤ g ∧ g < w.heap.size ∧ Cs w ⟨g, 0, none⟩ (l.map f) := by
  have hh := h.hold
  obtain ⟨_, h0⟩ := id h
  rcases h0 with ⟨rfl, h0⟩ | ⟨g, cap, cur, rfl, hb, hg, _⟩
  · exact absurd h0 hl
  · refine ⟨g, cap, rfl, hb, (Array.getElem?_eq_some_iff.1 hg).1, ?_⟩
    obtain ⟨a, c2, he, _, _, _, _, h6⟩ := hh
    simp only [Value.slice.injEq] at he
    exact h6 _ he.1.symm
theorem OP_stwk {P : Program} {L : Lst} {w : World} {ty : TypeId} {K : SV → World → Prop} {t : Nat} {x y : Operand} {b j : Nat} {ws : List UInt32} {a : UInt32} (hsz : (P.info? t).map (·.size) = some 1) (hx : evo L x = some (.v (.pointer (some ((⟨b, 0, none⟩ : Addr).add j))))) (hy : evo L y = some (.u32 a)) (hb : BlkW w b ws) (hj : j < ws.length)
    (hk : ∀ s' w', BlkW w' b (ws.set j a) → w.grownBy w' (some b) → K s' w') : OP P L (.store t x y) ty w K :=
  OP_stw hsz (by rw [hx, Addr.add_lit]) hy hb hj hk
set_option maxHeartbeats 4000000 in
theorem ref_constants (w : World) : Calls Tryd.prog 101 #[] w (Ret fun r w' => r = .agg (k256.map wordV).toArray ∧ Ext w w') := by
  refine calls_of_FWg [] Tryd.func101 rfl Tryd.ntmps101 rfl ?_
  repeat (first | (first | refine FW_seq ?_ | refine FW_region ?_ | refine RL_nil ?_ | refine E_thn_n ?_ | refine FW_skip ?_ | refine FW_block ?_ | refine FW_exit ?_ | refine FW_ret ?_ | refine E_thn_x ?_ | refine E_thn_r ?_ | refine E_blk_n ?_ | refine E_blk_x ?_ | refine E_blk_o rfl ?_ | refine E_blk_r ?_) | (refine st ?_ rfl; (first | fail )))
  refine st (OP_alloc z64 fun b w1 hb1 hbw0 he1 => ?_) rfl
  have hb1 := zero_words hb1
  repeat (first | (first | refine FW_seq ?_ | refine FW_region ?_ | refine RL_nil ?_ | refine E_thn_n ?_ | refine FW_skip ?_ | refine FW_block ?_ | refine FW_exit ?_ | refine FW_ret ?_ | refine E_thn_x ?_ | refine E_thn_r ?_ | refine E_blk_n ?_ | refine E_blk_x ?_ | refine E_blk_o rfl ?_ | refine E_blk_r ?_) | (refine st ?_ rfl; (first | fail )))
  refine st (OP_bw at64 z64 rfl rfl rfl ?_) rfl
  refine st0 (OP_stws n64 rfl rfl hb1 rfl rfl fun _ w2 hb2 hg2 => ?_)
  have he2 : Ext w w2 := he1.grown hg2 (fun k hk => by obtain rfl := Option.some.inj hk; exact hbw0)
  repeat (first | (first | refine FW_seq ?_ | refine FW_region ?_ | refine RL_nil ?_ | refine E_thn_n ?_ | refine FW_skip ?_ | refine FW_block ?_ | refine FW_exit ?_ | refine FW_ret ?_ | refine E_thn_x ?_ | refine E_thn_r ?_ | refine E_blk_n ?_ | refine E_blk_x ?_ | refine E_blk_o rfl ?_ | refine E_blk_r ?_) | (refine st ?_ rfl; (first | fail )))
  exact E_endg_cell rfl rfl hb2 Tryd.underlying99 rfl n64 ⟨rfl, he2⟩
set_option maxHeartbeats 16000000 in
theorem ref_sum256 (w : World) (v : Value) (l : List UInt8) (hB : Bytes w v l) (hl : l.length ≤ 4294967296) :
    Calls Tryd.prog 71 #[v] w (Ret fun r w' => OwnB w.heap.size w' r (sha256 l) ∧ Ext w w') := by
  refine calls_of_FW [.v v] Tryd.func71 rfl Tryd.ntmps71 rfl rfl ?_
  repeat (first | (first | refine FW_seq ?_ | refine FW_region ?_ | refine RL_nil ?_ | refine E_thn_n ?_ | refine FW_skip ?_ | refine FW_block ?_ | refine FW_exit ?_ | refine FW_ret ?_ | refine E_thn_x ?_ | refine E_thn_r ?_ | refine E_blk_n ?_ | refine E_blk_x ?_ | refine E_blk_o rfl ?_ | refine E_blk_r ?_) | (refine st ?_ rfl; (first | refine OP_assign rfl ?_ )))
  refine st (OP_call ent_ref_constants rfl (ref_constants w) fun kv w1 ⟨hkv, he1⟩ => ?_) rfl
  subst hkv
  refine st (OP_alloc z64 fun kb w2 hk2 hkb he2 => ?_) rfl
  have hk2 := zero_words hk2
  refine st0 (OP_stws n64 rfl rfl hk2 rfl rfl fun _ w3 hk3 hg3 => ?_)
  have hkb : w.heap.size ≤ kb := Nat.le_trans he1.size hkb
  have he3 : Ext w w3 := (he1.trans he2).grown hg3 (fun k hk => by obtain rfl := Option.some.inj hk; exact hkb)
  repeat (first | (first | refine FW_seq ?_ | refine FW_region ?_ | refine RL_nil ?_ | refine E_thn_n ?_ | refine FW_skip ?_ | refine FW_block ?_ | refine FW_exit ?_ | refine FW_ret ?_ | refine E_thn_x ?_ | refine E_thn_r ?_ | refine E_blk_n ?_ | refine E_blk_x ?_ | refine E_blk_o rfl ?_ | refine E_blk_r ?_) | (refine st ?_ rfl; (first | fail )))
  refine st (OP_li (base := w.heap.size) word_ok wordV_1 ts32 rfl rfl rfl he3.size fun hv w4 ho4 ht4 hob4 he4 => ?_) rfl
  obtain ⟨hhv, hb4⟩ := ho4.blk ht4 hob4
  have hk4 := Blk.ext hk3 he4
  have hkh : kb < w3.heap.size := hk3.lt
  obtain ⟨hb, hhb⟩ : ∃ hb, hb = w3.heap.size := ⟨_, rfl⟩
  rw [← hhb] at hob4 hhv hb4 hkh
  have hwb : w.heap.size ≤ hb := by rw [hhb]; exact he3.size
  subst hhv
  have he4' : Ext w w4 := he3.trans he4
  clear ho4 ht4 hk2 hg3
  repeat (first | (first | refine FW_seq ?_ | refine FW_region ?_ | refine RL_nil ?_ | refine E_thn_n ?_ | refine FW_skip ?_ | refine FW_block ?_ | refine FW_exit ?_ | refine FW_ret ?_ | refine E_thn_x ?_ | refine E_thn_r ?_ | refine E_blk_n ?_ | refine E_blk_x ?_ | refine E_blk_o rfl ?_ | refine E_blk_r ?_) | (refine st ?_ rfl; (first | refine OP_move rfl ?_ | refine OP_assign rfl ?_ )))
  refine st (OP_call ent_ref_pad rfl (ref_pad w4 v l (hB.ext he4') hl) fun p w5 ⟨ho5, he5⟩ => ?_) rfl
  have hb5 := Blk.ext hb4 he5
  have hk5 := Blk.ext hk4 he5
  have hbl : hb < w4.heap.size := hb4.lt
  repeat (first | (first | refine FW_seq ?_ | refine FW_region ?_ | refine RL_nil ?_ | refine E_thn_n ?_ | refine FW_skip ?_ | refine FW_block ?_ | refine FW_exit ?_ | refine FW_ret ?_ | refine E_thn_x ?_ | refine E_thn_r ?_ | refine E_blk_n ?_ | refine E_blk_x ?_ | refine E_blk_o rfl ?_ | refine E_blk_r ?_) | (refine st ?_ rfl; (first | refine OP_assign rfl ?_ )))
  obtain ⟨x, hx⟩ : ∃ x, x = padB l := ⟨_, rfl⟩
  obtain ⟨N, hN⟩ : ∃ N, N = x.length / 64 := ⟨_, rfl⟩
  have hxl : x.length = 64 * N := by rw [hN, hx, padB_len]; omega
  have hNb : N ≤ 67108866 := by rw [hN, hx, padB_len]; omega
  rw [← hx] at ho5
  have hpb : ∀ g, p.ownBlock = some g → hb < g := fun g hg => by have := ho5.lt hg; omega
  refine FW_loop2 (fun (n : Nat) (_ : Unit) => [(3, .v (.pointer (some ⟨kb, 0, none⟩))), (4, .v (.slice (some ⟨hb, 0, none⟩) 8 8)), (5, .v p), (6, .v (.int .i64 ((64 * n : Nat) : Int)))])
    (fun n _ w' => n ≤ N ∧ ∃ hs, Bytes w' p x ∧ BlkW w' hb hs ∧ hs.length = 8 ∧ BlkW w' kb k256 ∧ fold64 comp256 (N - n) hs (x.drop (64 * n)) = fold64 comp256 N h256 x ∧ Ext w w') (fun n _ => N - n)
    0 () ⟨rfl, rfl, rfl, rfl, trivial⟩ ⟨by omega, _, ho5.hold, hb5, rfl, hk5, rfl, he4'.trans he5⟩ ?_
  clear hb5 hk5 ho5 he5 hb4 hk4 he4' he4 he3 he2 he1 hk3
  rintro n _ wr ⟨hn, hs, hp, hh, hlen, hk, hf, he⟩
  repeat (first | (first | refine FW_seq ?_ | refine FW_region ?_ | refine RL_nil ?_ | refine E_thn_n ?_ | refine FW_skip ?_ | refine FW_block ?_ | refine FW_exit ?_ | refine FW_ret ?_ | refine E_thn_x ?_ | refine E_thn_r ?_ | refine E_blk_n ?_ | refine E_blk_x ?_ | refine E_blk_o rfl ?_ | refine E_blk_r ?_) | (refine st ?_ rfl; (first | refine OP_move rfl ?_ | refine OP_cmp rfl rfl rfl rfl rfl ?_ | refine OP_len (t := 22) Tryd.underlying22 rfl (by assumption) ?_ )))
  refine FW_cond rfl (fun hc => ?_) (fun hc => ?_)
  · simp only [cmpB, decide_eq_true_eq] at hc
    have hnN : n < N := by omega
    obtain ⟨bl, hbld⟩ : ∃ bl, bl = (x.drop (64 * n)).take 64 := ⟨_, rfl⟩
    have hfn : fold64 comp256 (N - (n + 1)) (comp256 hs bl) (x.drop (64 * (n + 1))) = fold64 comp256 N h256 x := by
      rw [← hf, show N - n = (N - (n + 1)) + 1 from by omega, fold64_step, List.drop_drop, hbld]; rfl
    have hbl64 : bl.length = 64 := by rw [hbld]; simp; omega
    repeat (first | (first | refine FW_seq ?_ | refine FW_region ?_ | refine RL_nil ?_ | refine E_thn_n ?_ | refine FW_skip ?_ | refine FW_block ?_ | refine FW_exit ?_ | refine FW_ret ?_ | refine E_thn_x ?_ | refine E_thn_r ?_ | refine E_blk_n ?_ | refine E_blk_x ?_ | refine E_blk_o rfl ?_ | refine E_blk_r ?_) | (refine st ?_ rfl; (first | fail )))
    refine st (OP_alloc z64 fun bw w1 hw1a hbw he1 => ?_) rfl
    have hw1 := zero_words hw1a
    repeat (first | (first | refine FW_seq ?_ | refine FW_region ?_ | refine RL_nil ?_ | refine E_thn_n ?_ | refine FW_skip ?_ | refine FW_block ?_ | refine FW_exit ?_ | refine FW_ret ?_ | refine E_thn_x ?_ | refine E_thn_r ?_ | refine E_blk_n ?_ | refine E_blk_x ?_ | refine E_blk_o rfl ?_ | refine E_blk_r ?_) | (refine st ?_ rfl; (first | refine OP_assign rfl ?_ )))
    refine FW_loop2 (fun (t : Nat) (_ : Unit) => [(3, .v (.pointer (some ⟨kb, 0, none⟩))), (4, .v (.slice (some ⟨hb, 0, none⟩) 8 8)), (5, .v p), (6, .v (.int .i64 ((64 * n : Nat) : Int))), (7, .v (.pointer (some ⟨bw, 0, none⟩))), (8, .v (.int .i64 (t : Int)))])
      (fun t _ w' => t ≤ 64 ∧ BlkW w' bw (sch256 bl t ++ List.replicate (64 - t) 0) ∧ Ext wr w') (fun t _ => 64 - t) 0 () ⟨rfl, rfl, rfl, rfl, rfl, rfl, trivial⟩ ⟨by omega, hw1, he1⟩ ?_
    clear hw1 hw1a he1 hf w1
    rintro t _ w1 ⟨ht, hw, he1⟩
    repeat (first | (first | refine FW_seq ?_ | refine FW_region ?_ | refine RL_nil ?_ | refine E_thn_n ?_ | refine FW_skip ?_ | refine FW_block ?_ | refine FW_exit ?_ | refine FW_ret ?_ | refine E_thn_x ?_ | refine E_thn_r ?_ | refine E_blk_n ?_ | refine E_blk_x ?_ | refine E_blk_o rfl ?_ | refine E_blk_r ?_) | (refine st ?_ rfl; (first | refine OP_move rfl ?_ | refine OP_cmp rfl rfl rfl rfl rfl ?_ )))
    refine FW_cond rfl (fun hc => ?_) (fun hc => ?_)
    · simp only [cmpB, decide_eq_true_eq] at hc
      have hslen : (sch256 bl t).length = t := sch256_len bl t
      obtain ⟨ws, hws⟩ : ∃ ws, ws = sch256 bl t ++ List.replicate (64 - t) 0 := ⟨_, rfl⟩
      have hwl : ws.length = 64 := by rw [hws]; simp [hslen]; omega
      rw [← hws] at hw
      repeat (first | (first | refine FW_seq ?_ | refine FW_region ?_ | refine RL_nil ?_ | refine E_thn_n ?_ | refine FW_skip ?_ | refine FW_block ?_ | refine FW_exit ?_ | refine FW_ret ?_ | refine E_thn_x ?_ | refine E_thn_r ?_ | refine E_blk_n ?_ | refine E_blk_x ?_ | refine E_blk_o rfl ?_ | refine E_blk_r ?_) | (refine st ?_ rfl; (first | refine OP_move rfl ?_ | refine OP_cmp rfl rfl rfl rfl rfl ?_ )))
      refine FW_cond rfl (fun hc2 => ?_) (fun hc2 => ?_)
      · simp only [cmpB, decide_eq_true_eq] at hc2
        repeat (first | (first | refine FW_seq ?_ | refine FW_region ?_ | refine RL_nil ?_ | refine E_thn_n ?_ | refine FW_skip ?_ | refine FW_block ?_ | refine FW_exit ?_ | refine FW_ret ?_ | refine E_thn_x ?_ | refine E_thn_r ?_ | refine E_blk_n ?_ | refine E_blk_x ?_ | refine E_blk_o rfl ?_ | refine E_blk_r ?_) | (refine st ?_ rfl; (first | refine OP_move rfl ?_ | refine OP_add rfl rfl (by omega) ?_ )))
        refine st (OP_cut_lh ts8 rfl (hp.ext he1) rfl rfl (by omega) fun u hu _ => ?_) rfl
        have hub : Bytes w1 u bl := by
          have e : (x.drop (((64 * n : Nat) : Int)).toNat).take ((((64 * n : Nat) : Int) + 64).toNat - (((64 * n : Nat) : Int)).toNat) = bl := by
            rw [hbld, show ((((64 * n : Nat) : Int) + 64).toNat - (((64 * n : Nat) : Int)).toNat) = 64 from by omega, Int.toNat_natCast]
          rw [← e]; exact hu
        repeat (first | (first | refine FW_seq ?_ | refine FW_region ?_ | refine RL_nil ?_ | refine E_thn_n ?_ | refine FW_skip ?_ | refine FW_block ?_ | refine FW_exit ?_ | refine FW_ret ?_ | refine E_thn_x ?_ | refine E_thn_r ?_ | refine E_blk_n ?_ | refine E_blk_x ?_ | refine E_blk_o rfl ?_ | refine E_blk_r ?_) | (refine st ?_ rfl; (first | refine OP_move rfl ?_ )))
        refine st (OP_call32 ent_rword rfl (ref_word w1 u bl _ hub (by omega)) fun w2 he2 => ?_) rfl
        have hw2 := hw.ext he2
        refine st (OP_ixa at64 rfl rfl rfl (by omega) ?_) rfl
        refine st0 (OP_stw s32 rfl rfl hw2 (by omega) fun _ w3 hw3 hg3 => ?_)
        repeat (first | (first | refine FW_seq ?_ | refine FW_region ?_ | refine RL_nil ?_ | refine E_thn_n ?_ | refine FW_skip ?_ | refine FW_block ?_ | refine FW_exit ?_ | refine FW_ret ?_ | refine E_thn_x ?_ | refine E_thn_r ?_ | refine E_blk_n ?_ | refine E_blk_x ?_ | refine E_blk_o rfl ?_ | refine E_blk_r ?_) | (refine st ?_ rfl; (first | refine OP_move rfl ?_ | refine OP_assign rfl ?_ | refine OP_add rfl rfl (by omega) ?_ )))
        refine ⟨t + 1, (), ⟨rfl, rfl, rfl, rfl, rfl, rfl, trivial⟩, ⟨by omega, ?_, ((he1.trans he2).grown hg3 (fun k hk => by obtain rfl := Option.some.inj hk; exact hbw))⟩, by omega⟩
        have e : ((4 * (t : Int)).toNat) = 4 * t := by omega
        rw [hws, e, Int.toNat_natCast] at hw3
        have := set_snoc (sch256 bl t) (64 - t) 0 (be32 bl (4 * t)) (by omega)
        rw [hslen] at this
        rw [this] at hw3
        rw [sch256, next256, if_pos (by omega)]
        exact hw3
      · simp only [cmpB, decide_eq_false_iff_not] at hc2
        repeat (first | (first | refine FW_seq ?_ | refine FW_region ?_ | refine RL_nil ?_ | refine E_thn_n ?_ | refine FW_skip ?_ | refine FW_block ?_ | refine FW_exit ?_ | refine FW_ret ?_ | refine E_thn_x ?_ | refine E_thn_r ?_ | refine E_blk_n ?_ | refine E_blk_x ?_ | refine E_blk_o rfl ?_ | refine E_blk_r ?_) | (refine st ?_ rfl; (first | fail )))
        refine FW_draw mixed 17 (by kernel_rfl) ?_
        repeat (first | (first | refine dr rfl (fun w_ he_ => OP_move rfl ⟨Ext.refl _, rfl⟩) ?_ | refine dr rfl (fun w_ he_ => OP_sub rfl rfl (by omega) ⟨Ext.refl _, rfl⟩) ?_ | refine dr rfl (fun w_ he_ => OP_b32 rfl rfl rfl ⟨Ext.refl _, rfl⟩) ?_ | refine dr rfl (fun w_ he_ => OP_shr32 rfl rfl rfl (by decide) ⟨Ext.refl _, rfl⟩) ?_ | refine dr rfl (fun w_ he_ => OP_ixa (t := 99) at64 rfl rfl rfl (by omega) ⟨Ext.refl _, rfl⟩) ?_ | refine dr rfl (fun w_ he_ => OP_load (s := .u32 _) Tryd.underlying98 rfl rfl (BlkW.at (by assumption) he_ _ (by omega)) rfl ⟨Ext.refl _, rfl⟩) ?_ ) | refine dr rfl (fun w_ he_ => OP_call32s ent_rotr rfl (rr7 _ _) ⟨Ext.refl _, rfl⟩) ?_ | refine dr rfl (fun w_ he_ => OP_call32s ent_rotr rfl (rr18 _ _) ⟨Ext.refl _, rfl⟩) ?_ )
        refine dr_end fun w2 he2 => ?_
        have hw2 := hw.ext he2
        repeat (first | (first | refine FW_seq ?_ | refine FW_region ?_ | refine RL_nil ?_ | refine E_thn_n ?_ | refine FW_skip ?_ | refine FW_block ?_ | refine FW_exit ?_ | refine FW_ret ?_ | refine E_thn_x ?_ | refine E_thn_r ?_ | refine E_blk_n ?_ | refine E_blk_x ?_ | refine E_blk_o rfl ?_ | refine E_blk_r ?_) | (refine st ?_ rfl; (first | refine OP_assign rfl ?_ )))
        refine FW_draw mixed 17 (by kernel_rfl) ?_
        repeat (first | (first | refine dr rfl (fun w_ he_ => OP_move rfl ⟨Ext.refl _, rfl⟩) ?_ | refine dr rfl (fun w_ he_ => OP_sub rfl rfl (by omega) ⟨Ext.refl _, rfl⟩) ?_ | refine dr rfl (fun w_ he_ => OP_b32 rfl rfl rfl ⟨Ext.refl _, rfl⟩) ?_ | refine dr rfl (fun w_ he_ => OP_shr32 rfl rfl rfl (by decide) ⟨Ext.refl _, rfl⟩) ?_ | refine dr rfl (fun w_ he_ => OP_ixa (t := 99) at64 rfl rfl rfl (by omega) ⟨Ext.refl _, rfl⟩) ?_ | refine dr rfl (fun w_ he_ => OP_load (s := .u32 _) Tryd.underlying98 rfl rfl (BlkW.at (by assumption) he_ _ (by omega)) rfl ⟨Ext.refl _, rfl⟩) ?_ ) | refine dr rfl (fun w_ he_ => OP_call32s ent_rotr rfl (rr17 _ _) ⟨Ext.refl _, rfl⟩) ?_ | refine dr rfl (fun w_ he_ => OP_call32s ent_rotr rfl (rr19 _ _) ⟨Ext.refl _, rfl⟩) ?_ )
        refine dr_end fun w3 he3 => ?_
        have hw3 := hw2.ext he3
        repeat (first | (first | refine FW_seq ?_ | refine FW_region ?_ | refine RL_nil ?_ | refine E_thn_n ?_ | refine FW_skip ?_ | refine FW_block ?_ | refine FW_exit ?_ | refine FW_ret ?_ | refine E_thn_x ?_ | refine E_thn_r ?_ | refine E_blk_n ?_ | refine E_blk_x ?_ | refine E_blk_o rfl ?_ | refine E_blk_r ?_) | (refine st ?_ rfl; (first | refine OP_assign rfl ?_ )))
        refine FW_draw mixed 15 (by kernel_rfl) ?_
        repeat (first | refine dr rfl (fun w_ he_ => OP_move rfl ⟨Ext.refl _, rfl⟩) ?_ | refine dr rfl (fun w_ he_ => OP_sub rfl rfl (by omega) ⟨Ext.refl _, rfl⟩) ?_ | refine dr rfl (fun w_ he_ => OP_b32 rfl rfl rfl ⟨Ext.refl _, rfl⟩) ?_ | refine dr rfl (fun w_ he_ => OP_ixa (t := 99) at64 rfl rfl rfl (by omega) ⟨Ext.refl _, rfl⟩) ?_ | refine dr rfl (fun w_ he_ => OP_load (s := .u32 _) Tryd.underlying98 rfl rfl (BlkW.at (by assumption) he_ _ (by omega)) rfl ⟨Ext.refl _, rfl⟩) ?_ )
        refine dr_end fun w4 he4 => ?_
        have hw4 := hw3.ext he4
        refine st0 (OP_stw s32 rfl rfl hw4 (by omega) fun _ w5 hw5 hg5 => ?_)
        repeat (first | (first | refine FW_seq ?_ | refine FW_region ?_ | refine RL_nil ?_ | refine E_thn_n ?_ | refine FW_skip ?_ | refine FW_block ?_ | refine FW_exit ?_ | refine FW_ret ?_ | refine E_thn_x ?_ | refine E_thn_r ?_ | refine E_blk_n ?_ | refine E_blk_x ?_ | refine E_blk_o rfl ?_ | refine E_blk_r ?_) | (refine st ?_ rfl; (first | refine OP_move rfl ?_ | refine OP_assign rfl ?_ | refine OP_add rfl rfl (by omega) ?_ )))
        refine ⟨t + 1, (), ⟨rfl, rfl, rfl, rfl, rfl, rfl, trivial⟩, ⟨by omega, ?_, ((((he1.trans he2).trans he3).trans he4).grown hg5 (fun k hk => by obtain rfl := Option.some.inj hk; exact hbw))⟩, by omega⟩
        have g2 : ws.getD ((t : Int) - 2).toNat 0 = (sch256 bl t).getD (t - 2) 0 := by rw [hws, show ((t : Int) - 2).toNat = t - 2 from by omega]; exact getD_left _ _ _ _ (by omega)
        have g7 : ws.getD ((t : Int) - 7).toNat 0 = (sch256 bl t).getD (t - 7) 0 := by rw [hws, show ((t : Int) - 7).toNat = t - 7 from by omega]; exact getD_left _ _ _ _ (by omega)
        have g15 : ws.getD ((t : Int) - 15).toNat 0 = (sch256 bl t).getD (t - 15) 0 := by rw [hws, show ((t : Int) - 15).toNat = t - 15 from by omega]; exact getD_left _ _ _ _ (by omega)
        have g16 : ws.getD ((t : Int) - 16).toNat 0 = (sch256 bl t).getD (t - 16) 0 := by rw [hws, show ((t : Int) - 16).toNat = t - 16 from by omega]; exact getD_left _ _ _ _ (by omega)
        rw [g2, g7, g15, g16, hws, Int.toNat_natCast] at hw5
        have hsn := set_snoc (sch256 bl t) (64 - t) 0 (next256 bl (sch256 bl t) t) (by omega)
        rw [hslen] at hsn
        rw [next256, if_neg (by omega)] at hsn
        rw [sch256, next256, if_neg (by omega), show 64 - (t + 1) = 64 - t - 1 from by omega, ← hsn]
        exact hw5
    · simp only [cmpB, decide_eq_false_iff_not] at hc
      have ht64 : t = 64 := by omega
      subst ht64
      simp only [Nat.sub_self, List.replicate_zero, List.append_nil] at hw
      clear hc ht
      have hwl : (sch256 bl 64).length = 64 := sch256_len bl 64
      obtain ⟨ws, hws⟩ : ∃ ws, ws = sch256 bl 64 := ⟨_, rfl⟩
      rw [← hws] at hw hwl
      have hh1 := Blk.ext hh he1
      repeat (first | (first | refine FW_seq ?_ | refine FW_region ?_ | refine RL_nil ?_ | refine E_thn_n ?_ | refine FW_skip ?_ | refine FW_block ?_ | refine FW_exit ?_ | refine FW_ret ?_ | refine E_thn_x ?_ | refine E_thn_r ?_ | refine E_blk_n ?_ | refine E_blk_x ?_ | refine E_blk_o rfl ?_ | refine E_blk_r ?_) | (refine st ?_ rfl; (first | fail )))
      refine st (OP_li (base := w1.heap.size) word_ok wordV_1 ts32 rfl rfl rfl (Nat.le_refl _) fun e w2 ho2 ht2 hob2 he2 => ?_) rfl
      repeat (first | (first | refine FW_seq ?_ | refine FW_region ?_ | refine RL_nil ?_ | refine E_thn_n ?_ | refine FW_skip ?_ | refine FW_block ?_ | refine FW_exit ?_ | refine FW_ret ?_ | refine E_thn_x ?_ | refine E_thn_r ?_ | refine E_blk_n ?_ | refine E_blk_x ?_ | refine E_blk_o rfl ?_ | refine E_blk_r ?_) | (refine st ?_ rfl; (first | refine OP_move rfl ?_ )))
      refine st (OP_app ts32 wordV_1 rfl rfl ho2 (blk_words 8 (Blk.ext hh1 he2) hlen (by decide)) (by simp [hlen]) he2.size fun u w3 ho3 he3 _ => ?_) rfl
      rw [List.nil_append] at ho3
      obtain ⟨vb, cap, rfl, hvb, hvl, hcs⟩ := ho3.shape (by omega)
      rw [hlen]
      have he13 : Ext w1 w3 := he2.below he3 (Nat.le_refl _)
      have hw3 := hw.ext he13
      have hbwl : bw < w1.heap.size := hw.lt
      have hhbl : hb < wr.heap.size := hh.lt
      have hkbl : kb < wr.heap.size := hk.lt
      have hwr1 : wr.heap.size ≤ w1.heap.size := he1.size
      repeat (first | (first | refine FW_seq ?_ | refine FW_region ?_ | refine RL_nil ?_ | refine E_thn_n ?_ | refine FW_skip ?_ | refine FW_block ?_ | refine FW_exit ?_ | refine FW_ret ?_ | refine E_thn_x ?_ | refine E_thn_r ?_ | refine E_blk_n ?_ | refine E_blk_x ?_ | refine E_blk_o rfl ?_ | refine E_blk_r ?_) | (refine st ?_ rfl; (first | refine OP_assign rfl ?_ )))
      refine FW_loop3 (fun (t : Nat) (vb cap : Nat) => [(3, .v (.pointer (some ⟨kb, 0, none⟩))), (4, .v (.slice (some ⟨hb, 0, none⟩) 8 8)), (5, .v p), (6, .v (.int .i64 ((64 * n : Nat) : Int))), (7, .v (.pointer (some ⟨bw, 0, none⟩))), (11, .v (.slice (some ⟨vb, 0, none⟩) 8 cap)), (12, .v (.int .i64 (t : Int)))])
        (fun t vb _ w' => t ≤ 64 ∧ BlkW w' bw ws ∧ Cs w' ⟨vb, 0, none⟩ ((rnds256 ws hs t).map wordV) ∧ w1.heap.size ≤ vb ∧ vb < w'.heap.size ∧ Ext w1 w') (fun t _ _ => 64 - t) 0 vb cap ⟨rfl, rfl, rfl, rfl, rfl, rfl, rfl, trivial⟩ ⟨by omega, hw3, hcs, hvb, hvl, he13⟩ ?_
      clear hw hw3 he13 he3 he2 ho2 ht2 hob2 ho3 hcs hvb hvl vb cap hh1
      rintro t vb cap w2 ⟨ht, hw, hcs, hvb, hvl, he2⟩
      have hsl : (rnds256 ws hs t).length = 8 := rnds256_len ws hs hlen t
      obtain ⟨s, hsd⟩ : ∃ s, s = rnds256 ws hs t := ⟨_, rfl⟩
      rw [← hsd] at hcs hsl
      have hk2 := (hk.ext he1).ext he2
      have hkl : k256.length = 64 := rfl
      repeat (first | (first | refine FW_seq ?_ | refine FW_region ?_ | refine RL_nil ?_ | refine E_thn_n ?_ | refine FW_skip ?_ | refine FW_block ?_ | refine FW_exit ?_ | refine FW_ret ?_ | refine E_thn_x ?_ | refine E_thn_r ?_ | refine E_blk_n ?_ | refine E_blk_x ?_ | refine E_blk_o rfl ?_ | refine E_blk_r ?_) | (refine st ?_ rfl; (first | refine OP_move rfl ?_ | refine OP_cmp rfl rfl rfl rfl rfl ?_ )))
      refine FW_cond rfl (fun hc => ?_) (fun hc => ?_)
      · simp only [cmpB, decide_eq_true_eq] at hc
        repeat (first | (first | refine FW_seq ?_ | refine FW_region ?_ | refine RL_nil ?_ | refine E_thn_n ?_ | refine FW_skip ?_ | refine FW_block ?_ | refine FW_exit ?_ | refine FW_ret ?_ | refine E_thn_x ?_ | refine E_thn_r ?_ | refine E_blk_n ?_ | refine E_blk_x ?_ | refine E_blk_o rfl ?_ | refine E_blk_r ?_) | (refine st ?_ rfl; (first | fail )))
        refine FW_draw mixed 8 (by kernel_rfl) ?_
        repeat (first | refine dr rfl (fun w_ he_ => OP_move rfl ⟨Ext.refl _, rfl⟩) ?_ | refine dr rfl (fun w_ he_ => OP_assign rfl ⟨Ext.refl _, rfl⟩) ?_ | refine dr rfl (fun w_ he_ => OP_ixk ts32 rfl rfl rfl (by omega) ⟨Ext.refl _, rfl⟩) ?_ | refine dr rfl (fun w_ he_ => OP_load (s := .u32 _) Tryd.underlying98 rfl rfl (words_at (by assumption) he_ _ (by omega)) rfl ⟨Ext.refl _, rfl⟩) ?_ )
        refine dr_end fun w3 he3 => ?_
        have hw3 := hw.ext he3
        have hcs3 := hcs.ext he3
        have hk3 := Blk.ext hk2 he3
        clear hw hcs hk2
        repeat (first | (first | refine FW_seq ?_ | refine FW_region ?_ | refine RL_nil ?_ | refine E_thn_n ?_ | refine FW_skip ?_ | refine FW_block ?_ | refine FW_exit ?_ | refine FW_ret ?_ | refine E_thn_x ?_ | refine E_thn_r ?_ | refine E_blk_n ?_ | refine E_blk_x ?_ | refine E_blk_o rfl ?_ | refine E_blk_r ?_) | (refine st ?_ rfl; (first | fail )))
        refine FW_draw mixed 33 (by kernel_rfl) ?_
        repeat (first | (first | refine dr rfl (fun w_ he_ => OP_move rfl ⟨Ext.refl _, rfl⟩) ?_ | refine dr rfl (fun w_ he_ => OP_b32 rfl rfl rfl ⟨Ext.refl _, rfl⟩) ?_ | refine dr rfl (fun w_ he_ => OP_xor32 rfl ⟨Ext.refl _, rfl⟩) ?_ | refine dr rfl (fun w_ he_ => OP_ixa (t := 99) at64 rfl rfl rfl (by omega) ⟨Ext.refl _, rfl⟩) ?_ | refine dr rfl (fun w_ he_ => OP_load (s := .u32 _) Tryd.underlying98 rfl rfl (BlkW.at (by assumption) he_ _ (by omega)) rfl ⟨Ext.refl _, rfl⟩) ?_ | refine dr rfl (fun w_ he_ => OP_ixk ts32 rfl rfl rfl (by omega) ⟨Ext.refl _, rfl⟩) ?_ | refine dr rfl (fun w_ he_ => OP_load (s := .u32 _) Tryd.underlying98 rfl rfl (words_at (by assumption) he_ _ (by omega)) rfl ⟨Ext.refl _, rfl⟩) ?_ ) | refine dr rfl (fun w_ he_ => OP_call32s ent_rotr rfl (rr6 _ _) ⟨Ext.refl _, rfl⟩) ?_ | refine dr rfl (fun w_ he_ => OP_call32s ent_rotr rfl (rr11 _ _) ⟨Ext.refl _, rfl⟩) ?_ | refine dr rfl (fun w_ he_ => OP_call32s ent_rotr rfl (rr25 _ _) ⟨Ext.refl _, rfl⟩) ?_ )
        refine dr_end fun w4 he4 => ?_
        have hw4 := hw3.ext he4
        have hcs4 := hcs3.ext he4
        clear hw3 hcs3 hk3
        repeat (first | (first | refine FW_seq ?_ | refine FW_region ?_ | refine RL_nil ?_ | refine E_thn_n ?_ | refine FW_skip ?_ | refine FW_block ?_ | refine FW_exit ?_ | refine FW_ret ?_ | refine E_thn_x ?_ | refine E_thn_r ?_ | refine E_blk_n ?_ | refine E_blk_x ?_ | refine E_blk_o rfl ?_ | refine E_blk_r ?_) | (refine st ?_ rfl; (first | refine OP_assign rfl ?_ )))
        refine FW_draw mixed 28 (by kernel_rfl) ?_
        repeat (first | (first | refine dr rfl (fun w_ he_ => OP_move rfl ⟨Ext.refl _, rfl⟩) ?_ | refine dr rfl (fun w_ he_ => OP_b32 rfl rfl rfl ⟨Ext.refl _, rfl⟩) ?_ | refine dr rfl (fun w_ he_ => OP_ixk ts32 rfl rfl rfl (by omega) ⟨Ext.refl _, rfl⟩) ?_ | refine dr rfl (fun w_ he_ => OP_load (s := .u32 _) Tryd.underlying98 rfl rfl (words_at (by assumption) he_ _ (by omega)) rfl ⟨Ext.refl _, rfl⟩) ?_ ) | refine dr rfl (fun w_ he_ => OP_call32s ent_rotr rfl (rr2 _ _) ⟨Ext.refl _, rfl⟩) ?_ | refine dr rfl (fun w_ he_ => OP_call32s ent_rotr rfl (rr13 _ _) ⟨Ext.refl _, rfl⟩) ?_ | refine dr rfl (fun w_ he_ => OP_call32s ent_rotr rfl (rr22 _ _) ⟨Ext.refl _, rfl⟩) ?_ )
        refine dr_end fun w5 he5 => ?_
        have hw5 := hw4.ext he5
        have hcs5 := hcs4.ext he5
        clear hw4 hcs4
        repeat (first | (first | refine FW_seq ?_ | refine FW_region ?_ | refine RL_nil ?_ | refine E_thn_n ?_ | refine FW_skip ?_ | refine FW_block ?_ | refine FW_exit ?_ | refine FW_ret ?_ | refine E_thn_x ?_ | refine E_thn_r ?_ | refine E_blk_n ?_ | refine E_blk_x ?_ | refine E_blk_o rfl ?_ | refine E_blk_r ?_) | (refine st ?_ rfl; (first | refine OP_assign rfl ?_ )))
        refine FW_draw mixed 22 (by kernel_rfl) ?_
        repeat (first | refine dr rfl (fun w_ he_ => OP_move rfl ⟨Ext.refl _, rfl⟩) ?_ | refine dr rfl (fun w_ he_ => OP_b32 rfl rfl rfl ⟨Ext.refl _, rfl⟩) ?_ | refine dr rfl (fun w_ he_ => OP_ixk ts32 rfl rfl rfl (by omega) ⟨Ext.refl _, rfl⟩) ?_ | refine dr rfl (fun w_ he_ => OP_load (s := .u32 _) Tryd.underlying98 rfl rfl (words_at (by assumption) he_ _ (by omega)) rfl ⟨Ext.refl _, rfl⟩) ?_ )
        refine dr_end fun w6 he6 => ?_
        have hw6 := hw5.ext he6
        clear hw5 hcs5
        have he26 : Ext w1 w6 := (((he2.trans he3).trans he4).trans he5).trans he6
        refine st (OP_li (base := w1.heap.size) word_ok wordV_1 ts32 rfl rfl rfl he26.size fun e w7 ho7 ht7 hob7 he7 => ?_) rfl
        obtain ⟨rfl, hb7⟩ := ho7.blk ht7 hob7
        repeat (first | (first | refine FW_seq ?_ | refine FW_region ?_ | refine RL_nil ?_ | refine E_thn_n ?_ | refine FW_skip ?_ | refine FW_block ?_ | refine FW_exit ?_ | refine FW_ret ?_ | refine E_thn_x ?_ | refine E_thn_r ?_ | refine E_blk_n ?_ | refine E_blk_x ?_ | refine E_blk_o rfl ?_ | refine E_blk_r ?_) | (refine st ?_ rfl; (first | refine OP_move rfl ?_ | refine OP_assign rfl ?_ | refine OP_add rfl rfl (by omega) ?_ )))
        refine ⟨t + 1, _, _, ⟨rfl, rfl, rfl, rfl, rfl, rfl, rfl, trivial⟩, ⟨by omega, hw6.ext he7, ?_, he26.size, hb7.lt, he26.trans he7⟩, by omega⟩
        show Cs w7 _ ((rnd256 (k256.getD t 0) (ws.getD t 0) (rnds256 ws hs t)).map wordV)
        rw [← hsd]
        have := hb7.cs 0
        rw [List.drop_zero] at this
        exact this
      · simp only [cmpB, decide_eq_false_iff_not] at hc
        have ht64 : t = 64 := by omega
        subst ht64
        clear hc ht hw hwl hk2
        have hh2 := (Blk.ext hh he1).ext he2
        repeat (first | (first | refine FW_seq ?_ | refine FW_region ?_ | refine RL_nil ?_ | refine E_thn_n ?_ | refine FW_skip ?_ | refine FW_block ?_ | refine FW_exit ?_ | refine FW_ret ?_ | refine E_thn_x ?_ | refine E_thn_r ?_ | refine E_blk_n ?_ | refine E_blk_x ?_ | refine E_blk_o rfl ?_ | refine E_blk_r ?_) | (refine st ?_ rfl; (first | refine OP_assign rfl ?_ )))
        have hg0 : wr.grownBy w2 (some hb) := grownBy.of_ext (he1.trans he2) _
        refine FW_loop2 (fun (i : Nat) (_ : Unit) => [(3, .v (.pointer (some ⟨kb, 0, none⟩))), (4, .v (.slice (some ⟨hb, 0, none⟩) 8 8)), (5, .v p), (6, .v (.int .i64 ((64 * n : Nat) : Int))), (11, .v (.slice (some ⟨vb, 0, none⟩) 8 cap)), (17, .v (.int .i64 (i : Int)))])
          (fun i _ w' => i ≤ 8 ∧ BlkW w' hb (addl hs s i) ∧ Cs w' ⟨vb, 0, none⟩ (s.map wordV) ∧ wr.grownBy w' (some hb)) (fun i _ => 8 - i) 0 () ⟨rfl, rfl, rfl, rfl, rfl, rfl, trivial⟩ ⟨by omega, by simpa [addl] using hh2, hcs, hg0⟩ ?_
        clear hcs hh2 hg0
        rintro i _ w3 ⟨hi, ha, hcs, hg⟩
        repeat (first | (first | refine FW_seq ?_ | refine FW_region ?_ | refine RL_nil ?_ | refine E_thn_n ?_ | refine FW_skip ?_ | refine FW_block ?_ | refine FW_exit ?_ | refine FW_ret ?_ | refine E_thn_x ?_ | refine E_thn_r ?_ | refine E_blk_n ?_ | refine E_blk_x ?_ | refine E_blk_o rfl ?_ | refine E_blk_r ?_) | (refine st ?_ rfl; (first | refine OP_move rfl ?_ | refine OP_cmp rfl rfl rfl rfl rfl ?_ )))
        refine FW_cond rfl (fun hc => ?_) (fun hc => ?_)
        · simp only [cmpB, decide_eq_true_eq] at hc
          have hal : (addl hs s i).length = 8 := by rw [addl_len hs s i (by omega) (by omega)]; exact hlen
          have hag := addl_get hs s i (by omega) (by omega)
          have has := addl_set hs s i (by omega) (by omega)
          obtain ⟨q, hq⟩ : ∃ q, q = addl hs s i := ⟨_, rfl⟩
          rw [← hq] at ha hal hag has
          have hcq : Cs w3 ⟨hb, 0, none⟩ (q.map wordV) := by have := ha.cs 0; rw [List.drop_zero] at this; exact this
          repeat (first | (first | refine FW_seq ?_ | refine FW_region ?_ | refine RL_nil ?_ | refine E_thn_n ?_ | refine FW_skip ?_ | refine FW_block ?_ | refine FW_exit ?_ | refine FW_ret ?_ | refine E_thn_x ?_ | refine E_thn_r ?_ | refine E_blk_n ?_ | refine E_blk_x ?_ | refine E_blk_o rfl ?_ | refine E_blk_r ?_) | (refine st ?_ rfl; (first | fail )))
          refine FW_draw mixed 10 (by kernel_rfl) ?_
          repeat (first | refine dr rfl (fun w_ he_ => OP_move rfl ⟨Ext.refl _, rfl⟩) ?_ | refine dr rfl (fun w_ he_ => OP_b32 rfl rfl rfl ⟨Ext.refl _, rfl⟩) ?_ | refine dr rfl (fun w_ he_ => OP_ixk ts32 rfl rfl rfl (by omega) ⟨Ext.refl _, rfl⟩) ?_ | refine dr rfl (fun w_ he_ => OP_load (s := .u32 _) Tryd.underlying98 rfl rfl (words_at (by assumption) he_ _ (by omega)) rfl ⟨Ext.refl _, rfl⟩) ?_ )
          refine dr_end fun w4 he4 => ?_
          have ha4 := Blk.ext ha he4
          refine st0 (OP_stwk s32 rfl rfl ha4 (by omega) fun _ w5 ha5 hg5 => ?_)
          repeat (first | (first | refine FW_seq ?_ | refine FW_region ?_ | refine RL_nil ?_ | refine E_thn_n ?_ | refine FW_skip ?_ | refine FW_block ?_ | refine FW_exit ?_ | refine FW_ret ?_ | refine E_thn_x ?_ | refine E_thn_r ?_ | refine E_blk_n ?_ | refine E_blk_x ?_ | refine E_blk_o rfl ?_ | refine E_blk_r ?_) | (refine st ?_ rfl; (first | refine OP_move rfl ?_ | refine OP_assign rfl ?_ | refine OP_add rfl rfl (by omega) ?_ )))
          refine ⟨i + 1, (), ⟨rfl, rfl, rfl, rfl, rfl, rfl, trivial⟩, ⟨by omega, ?_, (hcs.ext he4).grown hg5 (fun e => by have := Option.some.inj e; simp at this; omega), Go.Eng.grownBy.trans (Go.Eng.grownBy.ext hg he4) hg5⟩, by omega⟩
          rw [← has]
          rw [Nat.mul_one, Int.toNat_natCast, hag] at ha5
          exact ha5
        · simp only [cmpB, decide_eq_false_iff_not] at hc
          have : i = 8 := by omega
          subst this
          repeat (first | (first | refine FW_seq ?_ | refine FW_region ?_ | refine RL_nil ?_ | refine E_thn_n ?_ | refine FW_skip ?_ | refine FW_block ?_ | refine FW_exit ?_ | refine FW_ret ?_ | refine E_thn_x ?_ | refine E_thn_r ?_ | refine E_blk_n ?_ | refine E_blk_x ?_ | refine E_blk_o rfl ?_ | refine E_blk_r ?_) | (refine st ?_ rfl; (first | refine OP_move rfl ?_ | refine OP_assign rfl ?_ | refine OP_add rfl rfl (by omega) ?_ )))
          have hh3 : BlkW w3 hb (comp256 hs bl) := by rw [comp256, ← hws, ← hsd]; exact ha
          refine ⟨n + 1, (), ⟨rfl, rfl, rfl, ?_, trivial⟩, ⟨by omega, comp256 hs bl, hp.grown hg (fun g hg' e => by have := hpb g hg'; have := Option.some.inj e; omega), hh3, comp256_len _ _ hlen, Blk.grown hk hg (fun e => by have := Option.some.inj e; omega), hfn, he.grown hg (fun k hk => by obtain rfl := Option.some.inj hk; exact hwb)⟩, by omega⟩
          show some (SV.v (.int .i64 _)) = some (SV.v (.int .i64 _))
          rw [show ((64 * n : Nat) : Int) + 64 = ((64 * (n + 1) : Nat) : Int) from by omega]
  · simp only [cmpB, decide_eq_false_iff_not] at hc
    have hnN : n = N := by omega
    subst hnN
    repeat (first | (first | refine FW_seq ?_ | refine FW_region ?_ | refine RL_nil ?_ | refine E_thn_n ?_ | refine FW_skip ?_ | refine FW_block ?_ | refine FW_exit ?_ | refine FW_ret ?_ | refine E_thn_x ?_ | refine E_thn_r ?_ | refine E_blk_n ?_ | refine E_blk_x ?_ | refine E_blk_o rfl ?_ | refine E_blk_r ?_) | (refine st ?_ rfl; (first | refine OP_move rfl ?_ )))
    refine st (OP_call ent_ref_bytes rfl (ref_bytes wr _ hs (blk_words 8 hh hlen (by decide)) (by omega)) fun r w5 ⟨ho5, he5⟩ => ?_) rfl
    repeat (first | (first | refine FW_seq ?_ | refine FW_region ?_ | refine RL_nil ?_ | refine E_thn_n ?_ | refine FW_skip ?_ | refine FW_block ?_ | refine FW_exit ?_ | refine FW_ret ?_ | refine E_thn_x ?_ | refine E_thn_r ?_ | refine E_blk_n ?_ | refine E_blk_x ?_ | refine E_blk_o rfl ?_ | refine E_blk_r ?_) | (refine st ?_ rfl; (first | refine OP_assign rfl ?_ )))
    refine E_end_r rfl ⟨?_, he.trans he5⟩
    rw [Nat.sub_self] at hf
    have e0 : hs = fold64 comp256 n h256 x := hf
    rw [sha256, ← hx, ← hN, ← e0]
    exact ho5.base_le he.size
end Go.Proofs.YtfjcmolccckhhaaDoor

namespace Go.Proofs.YtfjcmolccckhhaaDoor
open Go Go.RowKit Go.Eng Go.Ax
set_option linter.unusedVariables false
abbrev I0 : World → Prop := KT
theorem bytes_cr {w : World} : ∀ (l : List UInt8), All2 (fun x c => CR .u8 x c w) l (l.map fun x => [byteV x])
  | [] => trivial
  | x :: l => ⟨by simp only [CR], bytes_cr l⟩
theorem flat_sing {α β : Type} (f : α → β) : ∀ (l : List α), (l.map fun x => [f x]).flatten = l.map f
  | [] => rfl
  | x :: l => by rw [List.map_cons, List.flatten_cons, flat_sing f l]; rfl
theorem semC_bytes {f : FuncId} {ins : List AV} {l : List UInt8} (h : ∀ ν O w vs, I0 w → Reps ⟨(· < 0), ν, O, w⟩ ins vs → Calls Tryd.prog f vs.toArray w (Ret fun r w' => OwnB w.heap.size w' r l ∧ Ext w w')) : SemC Tryd.prog I0 f ins [] (.sl .u8 l) [] := by
  intro ν O w args hG hR hP
  refine Ret.mono (h ν O w args (hG.inv _ (Stp.refl _ _)) hR) ?_
  rintro v w' ⟨ho, he⟩
  have hnone : ∀ ν' b, ¬ fblk ν' [] b := by rintro ν' b ⟨k, R, hk, _⟩; cases hk
  refine ⟨ν, fun _ _ => rfl, ?_, fun k R hk => (by cases hk), fun k k' R R' b hk => (by cases hk), Stp.of_ext he _⟩
  simp only [Rep]
  intro w'' hs
  have ho' := own_keep ho.G hs fun b hb hq => by
    rcases hq with hq | hq
    · have := hG.lt b hq.1
      have := (own_lt ho.G b hb).1
      simp only at *; omega
    · exact hnone _ _ hq
  refine ⟨l.map fun x => [byteV x], bytes_cr l, ?_⟩
  rw [flat_sing]
  exact Sl.of_ownG ho'
noncomputable def ov0 : Orc := fun q => match q with
  | .call f args H => bif Nat.beq f 99 then (match args, H with
      | [.i alg, .sl .u8 l], [] => bif fits l 32768 then some (.ret (.sl .u8 (sumB alg l)) []) else none
      | _, _ => none)
    else bif Nat.beq f 71 then (match args, H with
      | [.sl .u8 l], [] => bif fits l 32768 then some (.ret (.sl .u8 (sha256 l)) []) else none
      | _, _ => none)
    else ovC (.call f args H)
  | .loop _ _ _ _ _ _ => none
theorem len_of_fits {l : List UInt8} (h : fits l 32768 = true) : l.length ≤ 4294967296 := by
  simp only [fits_d, fits0, decide_eq_true_eq] at h; omega
theorem rd_bytes {ν : Nat → Value} {O : Nat → Prop} {w : World} {l : List UInt8} {v : Value} (h : Rep ⟨(· < 0), ν, O, w⟩ (.sl .u8 l) v) : Bytes w v l := by
  simp only [Rep] at h
  obtain ⟨cs, h1, h2⟩ := h w (Stp.refl _ _)
  have : cs.flatten = l.map byteV := by
    clear h h2
    induction l generalizing cs with
    | nil => cases cs with | nil => rfl | cons c cs => exact h1.elim
    | cons x l ih =>
      cases cs with
      | nil => exact h1.elim
      | cons c cs =>
        obtain ⟨h3, h4⟩ := h1
        simp only [CR] at h3
        rw [List.flatten_cons, ih cs h4, h3]; rfl
  rw [this] at h2; exact h2
theorem ov_ok : ∀ q r, ov0 q = some r → SemQ Tryd.prog I0 ⟨TT0, FT0, CT0, ov0⟩ q r := by
  intro q r h
  cases q with
  | loop f k n0 m L H => cases h
  | call f args H =>
    simp only [ov0] at h
    cases hb : Nat.beq f 99 with
    | true =>
      obtain rfl := Nat.eq_of_beq_eq_true hb
      rw [hb, cond_true] at h
      split at h
      · rename_i alg l
        cases hf : fits l 32768 with
        | false => rw [hf] at h; cases h
        | true =>
          rw [hf, cond_true] at h
          obtain rfl := Option.some.inj h
          refine semC_bytes fun ν O w vs hI hR => ?_
          simp only [Reps] at hR
          obtain ⟨v1, t1, rfl, h1, v2, t2, rfl, h2, rfl⟩ := hR
          simp only [Rep] at h1
          subst h1
          exact dig_sum w alg v2 l hI (rd_bytes h2) (len_of_fits hf)
      · cases h
    | false =>
      rw [hb, cond_false] at h
      cases hb2 : Nat.beq f 71 with
      | true =>
        obtain rfl := Nat.eq_of_beq_eq_true hb2
        rw [hb2, cond_true] at h
        split at h
        · rename_i l
          cases hf : fits l 32768 with
          | false => rw [hf] at h; cases h
          | true =>
            rw [hf, cond_true] at h
            obtain rfl := Option.some.inj h
            refine semC_bytes fun ν O w vs hI hR => ?_
            simp only [Reps] at hR
            obtain ⟨v2, t2, rfl, h2, rfl⟩ := hR
            exact ref_sum256 w v2 l (rd_bytes h2) (len_of_fits hf)
        · cases h
      | false => rw [hb2, cond_false] at h; exact ovC_ok _ _ h
noncomputable def E0 : Env := ⟨TT0, FT0, CT0, ov0⟩
theorem e0 : EnvOK Tryd.prog I0 E0 := ⟨tt0, ft0, ct0.get, by kernel_rfl, ov_ok⟩
theorem Y_ov {f : Nat} {args : List AV} {H : List Rs} {r : Rsp} (h : E0.ov (.call f args H) = some r) : Y E0 (.call f args H) = some r := by
  rw [Y.eq_1]; simp only [bodyY]; rw [h]
theorem fits_b {l : List UInt8} (hl : l.length ≤ 4294967296) : fits l 32768 = true := fits_t (by omega)
theorem e_dig_sum (alg : Int) (l : List UInt8) (hl : l.length ≤ 4294967296) : Y E0 (.call 99 [.i alg, .sl .u8 l] []) = some (.ret (.sl .u8 (sumB alg l)) []) :=
  Y_ov (by show (bif fits l 32768 then _ else _) = _; rw [fits_b hl]; rfl)
theorem ev_dig_sum1 (l : List UInt8) (hl : l.length ≤ 4294967296) : Y E0 (.call 99 [.i 1, .sl .u8 l] []) = some (.ret (.sl .u8 (sha256 l)) []) := e_dig_sum 1 l hl
theorem ev_sum256 (l : List UInt8) (hl : l.length ≤ 4294967296) : Y E0 (.call 71 [.sl .u8 l] []) = some (.ret (.sl .u8 (sha256 l)) []) :=
  Y_ov (by show (bif fits l 32768 then _ else _) = _; rw [fits_b hl]; rfl)
end Go.Proofs.YtfjcmolccckhhaaDoor

namespace Go.Proofs.YtfjcmolccckhhaaDoor
open Go Go.RowKit Go.Eng Go.ChangeShapes Go.WideShapes Go.ChangeAt Go.Ax
set_option linter.unusedVariables false
theorem trodAll_ext {H : Type} {enc : TypeId × Value → H} {P : Program} (hl : laidOutB P = true) {W W' : World} (he : Ext W W') {sp : Nat → Bool} :
    ∀ {ts : List TypeId} {vs : List Value} {ds : List (DataW H)} {ps : List MemPlace}, (ts.all fun t => P.readableRec t && decide (t < P.types.size)) = true →
    DataW.TrodAll enc P W 0 (fun _ => true) true ts vs ds ps → (∀ p ∈ ps, p.block < W.heap.size) → (∀ p ∈ ps, sp p.block = true) → DataW.TrodAll enc P W' 0 sp true ts vs ds ps
  | [], _, _, _, _, h, _, _ => by
    obtain ⟨rfl, rfl, rfl⟩ := trodAll_nil h
    exact trodAll_mk0
  | t :: ts, _, _, _, hr, h, hlt, hsp => by
    obtain ⟨v, vs1, d, ds1, a, b, rfl, rfl, rfl, h1, h2⟩ := trodAll_cons h
    simp only [List.all_cons, Bool.and_eq_true, decide_eq_true_eq] at hr
    exact ⟨a, b, WideElems.Trod_stays hl hr.1.1 hr.1.2 h1 (fun x hx => he.same (hlt x (by simp [hx]))) (fun x hx => hsp x (by simp [hx])),
      trodAll_ext hl he hr.2 h2 (fun x hx => hlt x (by simp [hx])) (fun x hx => hsp x (by simp [hx])), rfl⟩
theorem post_true {H : Type} {enc : TypeId × Value → H} {P : Program} {f : Func} {s : ChangeSpec} {W W' : World} {args : Array Value} {ds gs : List (DataW H)} {before : List MemPlace} {tb : TypeId}
    (hW : DataW.Whole enc P f.params.toList s.vars false W args.toList ds gs before) (hl : laidOutB P = true) (hr : (f.params.toList.all fun t => P.readableRec t && decide (t < P.types.size)) = true)
    (hv : s.vars = []) (hres : f.resultTypes = #[tb]) (htb : P.underlying tb = some .bool) (h1 : (s.fn H ds).results = [.lit (.bool true)]) (h2 : (s.fn H ds).args = ds) (h3 : (s.fn H ds).vars = []) (he : Ext W W') :
    s.post enc P f false true false false W args (.bool true) W' := by
  have hW' := hW
  have hlt : ∀ p ∈ before, p.block < W.heap.size := fun p hp => hW'.lt p hp
  obtain ⟨p, q, hA, hV, rfl, hfz, hnd⟩ := hW
  rw [hv] at hV
  obtain ⟨rfl, rfl⟩ := trodVars_none hV
  refine ⟨ds, [], _, [], p, [], hW', ?_, ?_, ?_, ?_, fun h => by cases h⟩
  · rw [hres, List.append_nil, h1]
    exact trodAll_cons_mk (shut_bool htb _) trodAll_mk0
  · rw [List.append_nil, h2]
    exact trodAll_ext hl he hr hA (fun x hx => hlt x (by simpa using hx)) (fun x hx => by simpa using hlt x (by simpa using hx))
  · rw [List.append_nil, h3, hv]; rfl
  · exact he.frame _
theorem laidOut : laidOutB Tryd.prog = true := by kernel_rfl
theorem own : ownKnob Tryd.prog.godebug = none := by kernel_rfl
theorem open_byte {H : Type} {enc : TypeId × Value → H} {P : Program} {t : TypeId} {W : World} {base : Nat} {v : Value} {d : DataW H} {p : List MemPlace} (ht : P.underlying t = some (.int .u8))
    (hval : Value.okWide P W .any base t v) (h : DataW.Trod enc P W 0 (fun _ => true) true t v d p) : ∃ b, v = byteV b := by
  obtain ⟨n, rfl, _, _, hw⟩ := open_int ht hval h
  have := bounds_u8 hw
  refine ⟨UInt8.ofNat n.toNat, ?_⟩
  simp only [byteV, UInt8.toNat_ofNat']
  congr 1
  omega
theorem arg_one {τ : Ty} {x : El τ} {v : Value} {w : World} {N : Nat → Prop} {ν : Nat → Value} {a : AV} (hf : flat τ x = [a]) (hc : v.cells.toList = [v]) (h : CR τ x v.cells.toList w) : Reps ⟨N, ν, No, w⟩ [a] [v] := by
  rw [hc] at h
  have := CR.reps (c := ⟨N, ν, No, w⟩) (fun w' hs => h.ext (Stp.ext hs))
  rw [hf] at this; exact this
theorem gTab : Tryd.prog.globalNamed "sealwright/digest.round256" = some 0 := by kernel_rfl
theorem gTabType : (Tryd.prog.globals[0]?).map (·.type) = some 99 := by kernel_rfl
theorem cellsTab : Tryd.prog.cellsOf 99 = 64 := by kernel_rfl
theorem cellsWord : Tryd.prog.cellsOf 98 = 1 := by kernel_rfl
def k256i : List Int := k256.map fun x => (x.toNat : Int)
theorem laid_tab : (Rows.laid_sealwright_digest_round256 : DataW Unit) = Lib.tabData .u32 k256i := by kernel_rfl
theorem kt {W : World} (h : laidMetH Tryd.prog [("sealwright/digest.round256", Rows.laid_sealwright_digest_round256)] W) : KT W := by
  have h' : laidMet Tryd.prog [("sealwright/digest.round256", Lib.tabData .u32 k256i)] W := by
    have := h
    rw [← laid_tab]
    exact h
  have ht := Lib.tabIs_of_head (rest := []) gTab gTabType Tryd.underlying99 Tryd.underlying98 cellsWord cellsTab h'
  intro j hj
  rw [Nat.zero_add, ht.cell gTab j (show j < k256i.length from hj)]
  have hj' : j < k256.length := hj
  simp [k256i, List.getD, hj', wordV]
noncomputable def laidWorld (os : Os) : World :=
  { World.holding Tryd.prog os ⟨#[], #[], []⟩ with heap := (World.holding Tryd.prog os ⟨#[], #[], []⟩).heap.modify 0 fun
      | .cells _ t frozen => .cells (k256i.map fun z => Value.int .u32 z).toArray t frozen
      | o => o }
theorem hI0 {w : World} (h : laidMetH Tryd.prog [("sealwright/digest.round256", Rows.laid_sealwright_digest_round256)] w) : ∀ w', Ext w w' → I0 w' := fun w' he => (kt h).ext he
end Go.Proofs.YtfjcmolccckhhaaDoor

namespace Go.Proofs.YtfjcmolccckhhaaDoor
open Go
def iniH : List Char := ([104, 97, 114, 110, 101, 115, 115] : List Nat).map Char.ofNat
def iniS : List Char := ([51, 99, 56, 50, 102, 48, 51, 51, 99, 101, 51, 55, 50, 50, 99, 52, 53, 48, 98, 97, 101, 57, 53, 56, 98, 49, 53, 48, 54, 54, 98, 52, 53, 48, 52, 102, 102, 56, 102, 53, 100, 55, 57, 100, 50, 98, 52, 98, 97, 98, 102, 101, 52, 51, 102, 57, 57, 48, 55, 99, 98, 55, 54, 50] : List Nat).map Char.ofNat
def iniC : List Char := ([99, 117, 116] : List Nat).map Char.ofNat
def iniR : List Char := ([97, 116, 32, 115, 101, 97, 108, 119, 114, 105, 103, 104, 116, 47, 115, 101, 97, 108, 119, 114, 105, 103, 104, 116, 108, 97, 119, 52, 46, 66, 111, 120, 84, 97, 109, 112, 101, 114, 101, 100, 32, 115, 101, 97, 108, 119, 114, 105, 103, 104, 116, 47, 115, 101, 97, 108, 119, 114, 105, 103, 104, 116, 108, 97, 119, 55, 46, 83, 105, 103, 110, 101, 114, 70, 111, 114, 109, 115, 32, 115, 101, 97, 108, 119, 114, 105, 103, 104, 116, 47, 115, 101, 97, 108, 119, 114, 105, 103, 104, 116, 108, 97, 119, 49, 49, 46, 87, 114, 97, 112, 77, 97, 107, 101, 32, 115, 101, 97, 108, 119, 114, 105, 103, 104, 116, 47, 115, 101, 97, 108, 119, 114, 105, 103, 104, 116, 108, 97, 119, 49, 49, 46, 87, 114, 97, 112, 83, 97, 109, 101] : List Nat).map Char.ofNat
def iniB : Char := Char.ofNat 32
def iniL : List Char := iniH ++ iniB :: (iniS ++ iniB :: (iniC ++ iniB :: iniR))
theorem iniE : Tryd.prog.initOrder = String.ofList iniL := by kernel_rfl
theorem words_cut : ∀ (w r : List Char), (w.all fun c => c != iniB) = true → wordsSigns (w ++ iniB :: r) = w :: wordsSigns r
  | [], r, _ => rfl
  | c :: w, r, h => by
    rw [List.all_cons, Bool.and_eq_true] at h
    have ih := words_cut w r h.2
    rw [List.cons_append]
    have hc : c ≠ iniB := by intro e; rw [e] at h; exact absurd h.1 (by decide)
    generalize wordsSigns r = g at ih ⊢
    unfold wordsSigns
    split
    · rename_i h1; cases h1
    · rename_i h1; cases h1; exact absurd rfl hc
    · rename_i h1; cases h1; rw [ih]
theorem iniW : wordsSigns Tryd.prog.initOrder.toList = iniH :: iniS :: iniC :: wordsSigns iniR := by
  rw [iniE, String.toList_ofList, iniL, words_cut _ _ (by decide +kernel), words_cut _ _ (by decide +kernel), words_cut _ _ (by decide +kernel)]
theorem tl {s : String} (l : List Char) (h : s = String.ofList l) : s.toList = l := by rw [h]; exact String.toList_ofList
theorem tlGc : "gc".toList = (([103, 99] : List Nat).map Char.ofNat) := tl _ (by kernel_rfl)
theorem tlSpec : "spec".toList = (([115, 112, 101, 99] : List Nat).map Char.ofNat) := tl _ (by kernel_rfl)
theorem tlCar : "carried".toList = (([99, 97, 114, 114, 105, 101, 100] : List Nat).map Char.ofNat) := tl _ (by kernel_rfl)
theorem tlCut : "cut".toList = iniC := tl _ (by kernel_rfl)
theorem tlHar : "harness".toList = iniH := tl _ (by kernel_rfl)
theorem tlW0 : "finals".toList = (([102, 105, 110, 97, 108, 115] : List Nat).map Char.ofNat) := tl _ (by kernel_rfl)
theorem tlW1 : "reflectrows".toList = (([114, 101, 102, 108, 101, 99, 116, 114, 111, 119, 115] : List Nat).map Char.ofNat) := tl _ (by kernel_rfl)
theorem tlW2 : "leanrows".toList = (([108, 101, 97, 110, 114, 111, 119, 115] : List Nat).map Char.ofNat) := tl _ (by kernel_rfl)
theorem tlW3 : "onebuild".toList = (([111, 110, 101, 98, 117, 105, 108, 100] : List Nat).map Char.ofNat) := tl _ (by kernel_rfl)
theorem tlW4 : "publicsums".toList = (([112, 117, 98, 108, 105, 99, 115, 117, 109, 115] : List Nat).map Char.ofNat) := tl _ (by kernel_rfl)
theorem tlW5 : "eqguard".toList = (([101, 113, 103, 117, 97, 114, 100] : List Nat).map Char.ofNat) := tl _ (by kernel_rfl)
theorem tlW6 : "ownunsafe".toList = (([111, 119, 110, 117, 110, 115, 97, 102, 101] : List Nat).map Char.ofNat) := tl _ (by kernel_rfl)
theorem tlW7 : "libbeside".toList = (([108, 105, 98, 98, 101, 115, 105, 100, 101] : List Nat).map Char.ofNat) := tl _ (by kernel_rfl)
theorem tlW8 : "ownbeside".toList = (([111, 119, 110, 98, 101, 115, 105, 100, 101] : List Nat).map Char.ofNat) := tl _ (by kernel_rfl)
theorem tlW9 : "reflbeside".toList = (([114, 101, 102, 108, 98, 101, 115, 105, 100, 101] : List Nat).map Char.ofNat) := tl _ (by kernel_rfl)
theorem tlW10 : "aliases".toList = (([97, 108, 105, 97, 115, 101, 115] : List Nat).map Char.ofNat) := tl _ (by kernel_rfl)
theorem tlW11 : "afterinit".toList = (([97, 102, 116, 101, 114, 105, 110, 105, 116] : List Nat).map Char.ofNat) := tl _ (by kernel_rfl)
theorem tlW12 : "crcplain".toList = (([99, 114, 99, 112, 108, 97, 105, 110] : List Nat).map Char.ofNat) := tl _ (by kernel_rfl)
theorem tlW13 : "roadunsafe".toList = (([114, 111, 97, 100, 117, 110, 115, 97, 102, 101] : List Nat).map Char.ofNat) := tl _ (by kernel_rfl)
theorem tlW14 : "fmthandon".toList = (([102, 109, 116, 104, 97, 110, 100, 111, 110] : List Nat).map Char.ofNat) := tl _ (by kernel_rfl)
theorem ini_skip (o : String) (os : List String) (l w : List Char) (ws : List (List Char)) (h : o.toList = l) (hw : (w == l) = false) : stripLifts (o :: os) (w :: ws) = stripLifts os (w :: ws) := by
  rw [stripLifts, h, hw, if_neg (by decide)]
theorem iniSt (X : List (List Char)) : stripLifts liftWords (iniC :: X) = ([], iniC :: X) := by
  unfold liftWords
  rw [ini_skip _ _ _ _ _ tlW0 (by decide +kernel)]
  rw [ini_skip _ _ _ _ _ tlW1 (by decide +kernel)]
  rw [ini_skip _ _ _ _ _ tlW2 (by decide +kernel)]
  rw [ini_skip _ _ _ _ _ tlW3 (by decide +kernel)]
  rw [ini_skip _ _ _ _ _ tlW4 (by decide +kernel)]
  rw [ini_skip _ _ _ _ _ tlW5 (by decide +kernel)]
  rw [ini_skip _ _ _ _ _ tlW6 (by decide +kernel)]
  rw [ini_skip _ _ _ _ _ tlW7 (by decide +kernel)]
  rw [ini_skip _ _ _ _ _ tlW8 (by decide +kernel)]
  rw [ini_skip _ _ _ _ _ tlW9 (by decide +kernel)]
  rw [ini_skip _ _ _ _ _ tlW10 (by decide +kernel)]
  rw [ini_skip _ _ _ _ _ tlW11 (by decide +kernel)]
  rw [ini_skip _ _ _ _ _ tlW12 (by decide +kernel)]
  rw [ini_skip _ _ _ _ _ tlW13 (by decide +kernel)]
  rw [ini_skip _ _ _ _ _ tlW14 (by decide +kernel)]
  rfl
theorem iniBe (X : List (List Char)) : behindMainWord (iniH :: iniS :: iniC :: X) = iniC :: X := by
  unfold behindMainWord; rw [tlHar]; kernel_rfl
theorem iniW2 : behindMainWord (wordsSigns Tryd.prog.initOrder.toList) = iniC :: wordsSigns iniR := by rw [iniW, iniBe]
theorem iniHd (P : Program) (X : List (List Char)) (h : behindMainWord (wordsSigns P.initOrder.toList) = iniC :: X) : P.headLifts = [] := by
  unfold Program.headLifts
  simp only [h, iniSt, tlCut]
  rfl
theorem mayOf (P : Program) (X : List (List Char)) (h : behindMainWord (wordsSigns P.initOrder.toList) = iniC :: X) (h1 : P.laysLater = false) (h2 : P.bearsReflect = false) (h3 : P.doorFits [] = true) : P.mayEnter = true := by
  unfold Program.mayEnter
  simp only [h, iniSt, tlCut, tlGc, tlSpec, tlCar, h1, h2, h3]
  rfl
theorem makeOf (P : Program) (X : List (List Char)) (h : behindMainWord (wordsSigns P.initOrder.toList) = iniC :: X) : P.make = some .cut := by
  unfold Program.make
  simp only [h, iniHd P X h, tlCut, tlGc, tlSpec, tlCar, tlW0]
  rw [if_neg (by decide +kernel), if_pos (by rw [show (iniC == iniC) = true from by decide +kernel]; rfl)]
theorem finOf (P : Program) (X : List (List Char)) (h : behindMainWord (wordsSigns P.initOrder.toList) = iniC :: X) : P.liftsFinal = false := by
  unfold Program.liftsFinal
  simp only [h, iniHd P X h, tlCut, tlGc, tlCar]
  rfl
theorem tlSum : "3c82f033ce3722c450bae958b15066b4504ff8f5d79d2b4babfe43f9907cb762".toList = iniS := tl _ (by kernel_rfl)
theorem mainOf (P : Program) (X : List (List Char)) (h : wordsSigns P.initOrder.toList = iniH :: iniS :: X) : P.mainIs = some (true, iniS) := by
  unfold Program.mainIs
  simp only [h, tlHar]
  rw [if_neg (by rw [show isSumSigns iniS = true from by decide +kernel]; decide), if_pos (by decide +kernel)]
theorem iniG : Tryd.prog.mainIs = some (true, "3c82f033ce3722c450bae958b15066b4504ff8f5d79d2b4babfe43f9907cb762".toList) := by rw [tlSum]; exact mainOf _ _ iniW
theorem iniM : Tryd.prog.mayEnter = true := mayOf _ _ iniW2 (by kernel_rfl) (by kernel_rfl) (by kernel_rfl)
theorem iniF : Tryd.prog.liftsFinal = false := finOf _ _ iniW2
theorem iniK : Tryd.prog.make = some .cut := makeOf _ _ iniW2
end Go.Proofs.YtfjcmolccckhhaaDoor

namespace Go.Proofs.YtfjcmolccckhhaaDoor
open Go Go.Ax
set_option linter.unusedVariables false
set_option linter.unusedSimpArgs false
attribute [local irreducible] iadd isub imul iquo irem ibit ineg ieq ine ilt ile ishl ishr beq' bnot and' seq' u8op u8rem u32op u64op u8shr u8shl u64shr u64shl u32shr u32shl i64w u8i u64i iu8 iu32 iu64 u8u64 u64u8 u32u8 u64cmp u8cmp u32cmp llen lget linb lset lcut lrep lapp lcpy lemp fits fitn ieqs sealed drawChk fpSame
set_option maxHeartbeats 1000000
set_option maxRecDepth 100000
theorem take_eq {α : Type} (a b : List α) (i : Nat) (hi : i < a.length) (hj : i < b.length) (h : a.take i = b.take i) (he : a[i] = b[i]) : a.take (i + 1) = b.take (i + 1) := by
  rw [List.take_succ_eq_append_getElem hi, List.take_succ_eq_append_getElem hj, h, he]
theorem ev_same_loop (a b : List UInt8) (hb : a.length ≤ 4294967296) (hl : a.length = b.length) : ∀ (k : Nat) (j : Int), j + k = a.length → 0 ≤ j → a.take j.toNat = b.take j.toNat →
    Y E0 (.loop 12 0 0 0 [(0, .sl .u8 a), (1, .sl .u8 b), (5, .i j)] []) = if a = b then some (.fin (.exit 0) 0 [] []) else some (.fin .ret 0 [(4, .b false)] [])
  | 0, j, hj, h0, ht => by
    have he : a = b := by rwa [List.take_of_length_le (by omega), List.take_of_length_le (by omega)] at ht
    rw [if_pos he]
    rw [Y_go]; conv => lhs; whnf
    rw [ilt_f (by (simp only [LL] at * <;> omega))]
    conv => lhs; whnf
  | k + 1, j, hj, h0, ht => by
    by_cases hab : a[j.toNat]'(by omega) = b[j.toNat]'(by omega)
    · have ih := ev_same_loop a b hb hl k (j + 1) (by omega) (by omega) (by rw [show (j + 1).toNat = j.toNat + 1 from by omega]; exact take_eq a b _ (by omega) (by omega) ht hab)
      have hz : u8cmp .neq (a[j.toNat]'(by omega)) (b[j.toNat]'(by omega)) = false := by rw [u8cmp_neq, ine_f (by rw [hab])]
      rw [← ih]
      rw [Y_go]; conv => lhs; whnf
      rw [ilt_t (by (simp only [LL] at * <;> omega))]
      conv => lhs; whnf
      rw [lget_i (by omega)]
      conv => lhs; whnf
      rw [lget_i (by omega)]
      conv => lhs; whnf
      rw [hz]; conv => lhs; whnf
      rw [drw (by kernel_rfl)]; conv => lhs; whnf
      rw [iadd_eq (by omega)]
    · have hne : a ≠ b := fun e => hab (by subst e; rfl)
      have hz : u8cmp .neq (a[j.toNat]'(by omega)) (b[j.toNat]'(by omega)) = true := by rw [u8cmp_neq, ine_t (fun e => hab (UInt8.toNat_inj.1 (by omega)))]
      rw [if_neg hne]
      rw [Y_go]; conv => lhs; whnf
      rw [ilt_t (by (simp only [LL] at * <;> omega))]
      conv => lhs; whnf
      rw [lget_i (by omega)]
      conv => lhs; whnf
      rw [lget_i (by omega)]
      conv => lhs; whnf
      rw [hz]; conv => lhs; whnf
      rw [drw (by kernel_rfl)]; conv => lhs; whnf
theorem ev_same (a b : List UInt8) (ha : a.length ≤ 4294967296) : Y E0 (.call 12 [.sl .u8 a, .sl .u8 b] []) = some (.ret (.b (decide (a = b))) []) := by
  by_cases h : a = b
  · rw [decide_eq_true h]
    rw [Y_go]; conv => lhs; whnf
    rcases Bool.eq_false_or_eq_true (ine (llen a) (llen b)) with hc0 | hc0
    · rw [hc0]; replace hc0 := of_ine_t hc0; try simp only [llen_eq] at hc0
      conv => lhs; whnf
      exact absurd (congrArg List.length h) (by omega)
    · rw [hc0]; replace hc0 := of_ine_f hc0; try simp only [llen_eq] at hc0
      conv => lhs; whnf
      rw [toReq_loop]
      rw [ev_same_loop a b ha (by omega) a.length 0 (by omega) (by omega) (by simp), if_pos h]
      conv => lhs; whnf
  · rw [decide_eq_false h]
    rw [Y_go]; conv => lhs; whnf
    rcases Bool.eq_false_or_eq_true (ine (llen a) (llen b)) with hc0 | hc0
    · rw [hc0]; replace hc0 := of_ine_t hc0; try simp only [llen_eq] at hc0
      conv => lhs; whnf
    · rw [hc0]; replace hc0 := of_ine_f hc0; try simp only [llen_eq] at hc0
      conv => lhs; whnf
      rw [toReq_loop]
      rw [ev_same_loop a b ha (by omega) a.length 0 (by omega) (by omega) (by simp), if_neg h]
      conv => lhs; whnf
end Go.Proofs.YtfjcmolccckhhaaDoor

namespace Go.Proofs.YtfjcmolccckhhaaDoor
open Go Go.Ax Go.Eng
set_option linter.unusedVariables false
set_option linter.unusedSimpArgs false
attribute [local irreducible] iadd isub imul iquo irem ibit ineg ieq ine ilt ile ishl ishr beq' bnot and' seq' u8op u8rem u32op u64op u8shr u8shl u64shr u64shl u32shr u32shl i64w u8i u64i iu8 iu32 iu64 u8u64 u64u8 u32u8 u64cmp u8cmp u32cmp llen lget linb lset lcut lrep lapp lcpy lemp fits fitn ieqs sealed drawChk fpSame
set_option maxHeartbeats 1000000
set_option maxRecDepth 100000
theorem ev_dig_frame_loop (tag : Int) (ls : List (List UInt8)) (hl : (frameB tag ls).length ≤ 4294967296) (hn : ls.length ≤ 4294967296) : ∀ (k i : Nat), i + k = ls.length →
    Y E0 (.loop 66 0 0 1 [(5, .nm 0), (12, .sl (.sl .u8) ls), (13, .i ls.length), (14, .i i)] [(0, some (.row 5 .u8 (frameB tag (ls.take i))))]) = some (.fin (.exit 0) 0 [(5, .sl .u8 (frameB tag ls))] [])
  | 0, i, hi => by
    have e : ls.take i = ls := List.take_of_length_le (by omega)
    rw [e]
    rw [Y_go]; conv => lhs; whnf
    rw [ilt_f (by omega)]
    conv => lhs; whnf
  | k + 1, i, hi => by
    have ih := ev_dig_frame_loop tag ls hl hn k (i + 1) (by omega)
    have hg : ls[i]? = some (ls[i]'(by omega)) := List.getElem?_eq_getElem (by omega)
    have h1 := frameB_snoc tag ls i _ hg
    have h2 := frameB_le tag ls (i + 1)
    have h3 := congrArg List.length h1
    simp only [List.length_append, len4_len] at h3
    rw [Y_go]; conv => lhs; whnf
    rw [ilt_t (by omega)]
    conv => lhs; whnf
    rw [lget_n (by omega)]
    conv => lhs; whnf
    rw [fits_t (by (simp only [LL] at * <;> omega))]
    conv => lhs; whnf
    rw [fits_t (by (simp only [LL] at * <;> omega))]
    conv => lhs; whnf
    rw [iadd_eq (by omega)]
    refine (congrArg (Y E0) ?_).trans ih; (try simp only [Rq.loop.injEq, Rq.call.injEq, Rq.ops.injEq, List.cons.injEq, Prod.mk.injEq, AV.i.injEq, AV.sl.injEq, AV.st.injEq, AV.b.injEq, AV.u8.injEq, AV.nm.injEq, Option.some.injEq, Rs.row.injEq, Rs.var.injEq, heq_eq_eq, true_and, and_true]); (try (repeat' apply And.intro)); all_goals first | (with_reducible rfl) | omega | (rw [iadd_eq (by omega)]; omega) | (rw [isub_eq (by omega)]; omega) | (rw [h1, lapp_eq, lapp_eq, dig4])
theorem ev_dig_frame (tag : Int) (ls : List (List UInt8)) (hl : (frameB tag ls).length ≤ 4294967296) (hn : ls.length ≤ 4294967296) : Y E0 (.call 66 [.i tag, .sl (.sl .u8) ls] []) = some (.ret (.sl .u8 (frameB tag ls)) []) := by
  rw [Y_go]; conv => lhs; whnf
  rw [toReq_loop]
  rw [show iu8 tag = UInt8.ofInt tag from iu8_eq _, show [UInt8.ofInt tag] = frameB tag (ls.take 0) from rfl, llen_eq]; rw [show (0 : Int) = ((0 : Nat) : Int) from rfl, ev_dig_frame_loop tag ls hl hn ls.length 0 (by omega)]
  conv => lhs; whnf
theorem ev_ref_frame_loop (tag : Int) (ls : List (List UInt8)) (hl : (frameB tag ls).length ≤ 4294967295) (hn : ls.length ≤ 4294967296) : ∀ (k i : Nat), i + k = ls.length →
    Y E0 (.loop 39 0 0 1 [(1, .sl (.sl .u8) ls), (5, .nm 0), (6, .i i)] [(0, some (.row 5 .u8 (frameB tag (ls.take i))))]) = some (.fin (.exit 0) 0 [(5, .sl .u8 (frameB tag ls))] [])
  | 0, i, hi => by
    have e : ls.take i = ls := List.take_of_length_le (by omega)
    rw [e]
    rw [Y_go]; conv => lhs; whnf
    rw [ilt_f (by (simp only [LL] at * <;> omega))]
    conv => lhs; whnf
  | k + 1, i, hi => by
    have ih := ev_ref_frame_loop tag ls hl hn k (i + 1) (by omega)
    have hg : ls[i]? = some (ls[i]'(by omega)) := List.getElem?_eq_getElem (by omega)
    have h1 := frameB_snoc tag ls i _ hg
    have h2 := frameB_le tag ls (i + 1)
    have h3 := congrArg List.length h1
    simp only [List.length_append, len4_len] at h3
    rw [Y_go]; conv => lhs; whnf
    rw [ilt_t (by (simp only [LL] at * <;> omega))]
    conv => lhs; whnf
    rw [lget_n (by omega)]
    conv => lhs; whnf
    rw [fits_t (by (simp only [LL] at * <;> omega))]
    conv => lhs; whnf
    rw [lget_n (by omega)]
    conv => lhs; whnf
    rw [fits_t (by (simp only [LL] at * <;> omega))]
    conv => lhs; whnf
    rw [iadd_eq (by omega)]
    refine (congrArg (Y E0) ?_).trans ih; (try simp only [Rq.loop.injEq, Rq.call.injEq, Rq.ops.injEq, List.cons.injEq, Prod.mk.injEq, AV.i.injEq, AV.sl.injEq, AV.st.injEq, AV.b.injEq, AV.u8.injEq, AV.nm.injEq, Option.some.injEq, Rs.row.injEq, Rs.var.injEq, heq_eq_eq, true_and, and_true]); (try (repeat' apply And.intro)); all_goals first | (with_reducible rfl) | omega | (rw [iadd_eq (by omega)]; omega) | (rw [isub_eq (by omega)]; omega) | (rw [h1, lapp_eq, lapp_eq, llen_eq, rf4 _ (by omega)])
theorem ev_ref_frame (tag : Int) (ls : List (List UInt8)) (hl : (frameB tag ls).length ≤ 4294967295) (hn : ls.length ≤ 4294967296) : Y E0 (.call 39 [.i tag, .sl (.sl .u8) ls] []) = some (.ret (.sl .u8 (frameB tag ls)) []) := by
  rw [Y_go]; conv => lhs; whnf
  rw [toReq_loop]
  rw [show iu8 tag = UInt8.ofInt tag from iu8_eq _, show [UInt8.ofInt tag] = frameB tag (ls.take 0) from rfl]; rw [show (0 : Int) = ((0 : Nat) : Int) from rfl, ev_ref_frame_loop tag ls hl hn ls.length 0 (by omega)]
  conv => lhs; whnf
theorem ev_copy (l : List UInt8) (hl : l.length ≤ 4294967296) : Y E0 (.call 9 [.sl .u8 l] []) = some (.ret (.nm 0) [some (.row 5 .u8 l)]) := by
  rw [Y_go]; conv => lhs; whnf
  rw [fits_t (by (simp only [LL] at * <;> omega))]
  conv => lhs; whnf
  rw [lapp_eq]; rfl
end Go.Proofs.YtfjcmolccckhhaaDoor

namespace Go.Ax
open Go.Eng
def padk (key : List UInt8) : List UInt8 := key.take 64 ++ (List.replicate 64 0).drop key.length
def xorL (x : UInt8) (l : List UInt8) : List UInt8 := l.map (· ^^^ x)
def keyB (key : List UInt8) : List UInt8 := if 64 < key.length then sha256 key else key
def macB (key b : List UInt8) : List UInt8 := sha256 (xorL (UInt8.ofNat 92) (padk (keyB key)) ++ sha256 (xorL (UInt8.ofNat 54) (padk (keyB key)) ++ b))
def fourB (n : Int) : List UInt8 := [UInt8.ofInt (n / 2 ^ 24), UInt8.ofInt (n / 2 ^ 16), UInt8.ofInt (n / 2 ^ 8), UInt8.ofInt n]
def derBlk (key label ctx : List UInt8) (n : Int) (j : Nat) : List UInt8 := (List.range j).flatMap fun (i : Nat) => macB key (fourB ((i : Int) + 1) ++ (label ++ (0 :: (ctx ++ fourB (8 * n)))))
def derB (key label ctx : List UInt8) (n : Int) : List UInt8 := if n < 1 ∨ 1024 < n then [] else (derBlk key label ctx n ((n + 31) / 32).toNat).take n.toNat
theorem padk_len (key : List UInt8) : (padk key).length = 64 := by simp [padk]; omega
theorem xorL_len (x : UInt8) (l : List UInt8) : (xorL x l).length = l.length := by simp [xorL]
theorem macB_len (key b : List UInt8) : (macB key b).length = 32 := sha256_len _
theorem fourB_len (n : Int) : (fourB n).length = 4 := rfl
theorem derBlk_len (key label ctx : List UInt8) (n : Int) (j : Nat) : (derBlk key label ctx n j).length = 32 * j := by
  unfold derBlk
  induction j with
  | zero => rfl
  | succ j ih => rw [List.range_succ, List.flatMap_append, List.length_append, ih]; simp [macB_len]; omega
theorem derBlk_succ (key label ctx : List UInt8) (n : Int) (j : Nat) : derBlk key label ctx n (j + 1) = derBlk key label ctx n j ++ macB key (fourB ((j : Int) + 1) ++ (label ++ (0 :: (ctx ++ fourB (8 * n))))) := by
  unfold derBlk
  rw [List.range_succ, List.flatMap_append]; simp
theorem derB_len {key label ctx : List UInt8} {n : Int} (h : 1 ≤ n ∧ n ≤ 1024) : (derB key label ctx n).length = n.toNat := by
  unfold derB
  rw [if_neg (by omega), List.length_take, derBlk_len]; omega
theorem xor_set (x : UInt8) (l : List UInt8) (i : Nat) (hi : i < l.length) : (xorL x (l.take i) ++ l.drop i).set i (l[i] ^^^ x) = xorL x (l.take (i + 1)) ++ l.drop (i + 1) := by
  have h1 : (xorL x (l.take i)).length = i := by rw [xorL_len, List.length_take]; omega
  rw [List.set_append, if_neg (by omega), h1, Nat.sub_self, List.drop_eq_getElem_cons hi, List.set_cons_zero, List.take_succ_eq_append_getElem hi]
  simp only [xorL, List.map_append, List.map_cons, List.map_nil, List.append_assoc, List.cons_append, List.nil_append]
theorem padk_get (key : List UInt8) (i : Nat) (hi : i < 64) : (padk key)[i]'(by rw [padk_len]; exact hi) = if h : i < key.length then key[i] else 0 := by
  unfold padk
  by_cases h : i < key.length
  · rw [List.getElem_append_left (by simp; omega), dif_pos h]; simp
  · rw [List.getElem_append_right (by simp; omega), dif_neg h, List.getElem_drop, List.getElem_replicate]
theorem set_snoc (x : UInt8) (l : List UInt8) (i : Nat) (hi : i < l.length) (hl : l.length = 64) : (xorL x (l.take i) ++ List.replicate (64 - i) 0).set i (l[i] ^^^ x) = xorL x (l.take (i + 1)) ++ List.replicate (64 - (i + 1)) 0 := by
  have h1 : (xorL x (l.take i)).length = i := by rw [xorL_len, List.length_take]; omega
  rw [List.set_append, if_neg (by omega), h1, Nat.sub_self, show 64 - i = (64 - (i + 1)) + 1 from by omega, List.replicate_succ, List.set_cons_zero, List.take_succ_eq_append_getElem hi]
  simp only [xorL, List.map_append, List.map_cons, List.map_nil, List.append_assoc, List.cons_append, List.nil_append]
end Go.Ax
namespace Go.Proofs.YtfjcmolccckhhaaDoor
open Go Go.Ax Go.Eng
set_option linter.unusedVariables false
set_option linter.unusedSimpArgs false
attribute [local irreducible] iadd isub imul iquo irem ibit ineg ieq ine ilt ile ishl ishr beq' bnot and' seq' u8op u8rem u32op u64op u8shr u8shl u64shr u64shl u32shr u32shl i64w u8i u64i iu8 iu32 iu64 u8u64 u64u8 u32u8 u64cmp u8cmp u32cmp llen lget linb lset lcut lrep lapp lcpy lemp fits fitn ieqs sealed drawChk fpSame
set_option maxHeartbeats 1000000
set_option maxRecDepth 100000
theorem ev_mask_loop (b : UInt8) (key l : List UInt8) (hl : l.length = 64) : ∀ (k i : Nat), i + k = 64 → Y E0 (.loop 100 0 1 2 [(0, .u8 b), (4, .nm 1), (10, .i i)] [(0, some (.var [.sl .u8 key])), (1, some (.row 5 .u8 (xorL b (l.take i) ++ l.drop i)))]) = some (.fin (.exit 0) 2 [(4, .nm 1)] [(0, some (.var [.sl .u8 key])), (1, some (.row 5 .u8 (xorL b l)))])
  | 0, i, hi => by
    rw [List.take_of_length_le (by omega), List.drop_eq_nil_of_le (by omega), List.append_nil]
    rw [Y_go]; conv => lhs; whnf
    rw [ilt_f (by omega)]
    conv => lhs; whnf
  | k + 1, i, hi => by
    have ih := ev_mask_loop b key l hl k (i + 1) (by omega)
    have hs := xor_set b l i (by omega)
    have hl2 : (xorL b (l.take i) ++ l.drop i).length = 64 := by simp [xorL_len]; omega
    have hg : lget (xorL b (l.take i) ++ l.drop i) (i : Int) = some (l[i]'(by omega)) := by
      rw [lget_nat, List.getElem?_append_right (by simp [xorL_len]; omega)]; simp [xorL_len, show min i l.length = i from by omega]
    rw [Y_go]; conv => lhs; whnf
    rw [ilt_t (by omega)]
    conv => lhs; whnf
    rw [linb_t (by omega)]
    conv => lhs; whnf
    rw [hg]; conv => lhs; whnf
    rw [linb_t (by omega)]
    conv => lhs; whnf
    rw [hg]; conv => lhs; whnf
    rw [iadd_eq (by omega)]
    refine (congrArg (Y E0) ?_).trans ih; (try simp only [Rq.loop.injEq, Rq.call.injEq, Rq.ops.injEq, List.cons.injEq, Prod.mk.injEq, AV.i.injEq, AV.sl.injEq, AV.st.injEq, AV.b.injEq, AV.u8.injEq, AV.nm.injEq, Option.some.injEq, Rs.row.injEq, Rs.var.injEq, heq_eq_eq, true_and, and_true]); (try (repeat' apply And.intro)); all_goals first | (with_reducible rfl) | omega | (rw [iadd_eq (by omega)]; omega) | (rw [isub_eq (by omega)]; omega) | (rw [lset_eq, u8xor_eq]; exact hs)
theorem ev_mask (b : UInt8) (key : List UInt8) : Y E0 (.call 100 [.u8 b, .pa 0 0] [.var [.sl .u8 key]]) = some (.ret (.nm 1) [some (.var [.sl .u8 key]), some (.row 5 .u8 (xorL b (padk key)))]) := by
  have h0 := ev_mask_loop b key (padk key) (padk_len key) 64 0 (by omega)
  have hp : lcpy (lrep 64 0) key = padk key := by rw [lcpy_eq, lrep_eq]; simp [padk]
  rw [List.take_zero, List.drop_zero, show xorL b [] ++ padk key = padk key from rfl, show ((0 : Nat) : Int) = 0 from rfl] at h0
  rw [Y_go]; conv => lhs; whnf
  rw [fitn_t (by omega)]
  conv => lhs; whnf
  rw [ieq_t (by omega)]
  conv => lhs; whnf
  rw [toReq_loop]
  rw [hp, h0]
  conv => lhs; whnf
theorem ev_mac (key b : List UInt8) (hk : key.length ≤ 4294967296) (hb : b.length ≤ 4294900000) : Y E0 (.call 65 [.sl .u8 key, .sl .u8 b] []) = some (.ret (.sl .u8 (macB key b)) []) := by
  by_cases hc : 64 < key.length
  · have hkb : keyB key = sha256 key := if_pos hc
    unfold macB
    rw [hkb]
    rw [Y_go]; conv => lhs; whnf
    rw [ilt_t (by (simp only [sha256_len, padk_len, xorL_len, macB_len, fourB_len, derBlk_len, LL] at * <;> omega))]
    conv => lhs; whnf
    rw [toReq_call]
    rw [ev_dig_sum1 _ (by omega)]
    conv => lhs; whnf
    rw [Y_go]; conv => lhs; whnf
    rw [toReq_call]
    rw [ev_mask _ _]
    conv => lhs; whnf
    rw [fits_t (by (simp only [sha256_len, padk_len, xorL_len, macB_len, fourB_len, derBlk_len, LL] at * <;> omega))]
    conv => lhs; whnf
    rw [toReq_call]
    rw [ev_dig_sum1 _ (by (simp only [sha256_len, padk_len, xorL_len, macB_len, fourB_len, derBlk_len, LL] at * <;> omega))]
    conv => lhs; whnf
    rw [toReq_call]
    rw [ev_mask _ _]
    conv => lhs; whnf
    rw [fits_t (by (simp only [sha256_len, padk_len, xorL_len, macB_len, fourB_len, derBlk_len, LL] at * <;> omega))]
    conv => lhs; whnf
    rw [toReq_call]
    rw [ev_dig_sum1 _ (by (simp only [sha256_len, padk_len, xorL_len, macB_len, fourB_len, derBlk_len, LL] at * <;> omega))]
    conv => lhs; whnf
    simp only [NO]; try with_reducible rfl
  · have hkb : keyB key = key := if_neg hc
    unfold macB
    rw [hkb]
    rw [Y_go]; conv => lhs; whnf
    rw [ilt_f (by (simp only [sha256_len, padk_len, xorL_len, macB_len, fourB_len, derBlk_len, LL] at * <;> omega))]
    conv => lhs; whnf
    rw [Y_go]; conv => lhs; whnf
    rw [toReq_call]
    rw [ev_mask _ _]
    conv => lhs; whnf
    rw [fits_t (by (simp only [sha256_len, padk_len, xorL_len, macB_len, fourB_len, derBlk_len, LL] at * <;> omega))]
    conv => lhs; whnf
    rw [toReq_call]
    rw [ev_dig_sum1 _ (by (simp only [sha256_len, padk_len, xorL_len, macB_len, fourB_len, derBlk_len, LL] at * <;> omega))]
    conv => lhs; whnf
    rw [toReq_call]
    rw [ev_mask _ _]
    conv => lhs; whnf
    rw [fits_t (by (simp only [sha256_len, padk_len, xorL_len, macB_len, fourB_len, derBlk_len, LL] at * <;> omega))]
    conv => lhs; whnf
    rw [toReq_call]
    rw [ev_dig_sum1 _ (by (simp only [sha256_len, padk_len, xorL_len, macB_len, fourB_len, derBlk_len, LL] at * <;> omega))]
    conv => lhs; whnf
    simp only [NO]; try with_reducible rfl
theorem ev_four (n : Int) : Y E0 (.call 96 [.i n] []) = some (.ret (.nm 0) [some (.row 5 .u8 (fourB n))]) := by
  rw [Y_go]; conv => lhs; whnf
  rw [ishr_eq (by decide), ishr_eq (by decide), ishr_eq (by decide)]; simp only [iu8_eq]; rfl
theorem ev_rfour (n : Int) : Y E0 (.call 70 [.i n] []) = some (.ret (.nm 0) [some (.row 5 .u8 (fourB n))]) := by
  rw [Y_go]; conv => lhs; whnf
  rw [ishr_eq (by decide), ishr_eq (by decide), ishr_eq (by decide)]; simp only [iu8_eq]; rfl
theorem ev_rmac_loop (key b : List UInt8) (hk : key.length ≤ 64) : ∀ (k i : Nat), i + k = 64 → Y E0 (.loop 38 0 0 2 [(0, .sl .u8 key), (1, .sl .u8 b), (5, .nm 0), (6, .nm 1), (7, .i i)] [(0, some (.row 5 .u8 (xorL (UInt8.ofNat 54) ((padk key).take i) ++ List.replicate (64 - i) 0))), (1, some (.row 5 .u8 (xorL (UInt8.ofNat 92) ((padk key).take i) ++ List.replicate (64 - i) 0)))]) = some (.fin (.exit 0) 2 [(1, .sl .u8 b), (5, .nm 0), (6, .nm 1)] [(0, some (.row 5 .u8 (xorL (UInt8.ofNat 54) (padk key)))), (1, some (.row 5 .u8 (xorL (UInt8.ofNat 92) (padk key))))])
  | 0, i, hi => by
    rw [List.take_of_length_le (by rw [padk_len]; omega), show 64 - i = 0 from by omega, List.replicate_zero, List.append_nil, List.append_nil]
    rw [Y_go]; conv => lhs; whnf
    rw [ilt_f (by omega)]
    conv => lhs; whnf
  | k + 1, i, hi => by
    have ih := ev_rmac_loop key b hk k (i + 1) (by omega)
    have hs1 := set_snoc (UInt8.ofNat 54) (padk key) i (by rw [padk_len]; omega) (padk_len key)
    have hs2 := set_snoc (UInt8.ofNat 92) (padk key) i (by rw [padk_len]; omega) (padk_len key)
    have hgt := padk_get key i (by omega)
    have hl1 : (xorL (UInt8.ofNat 54) ((padk key).take i) ++ List.replicate (64 - i) (0 : UInt8)).length = 64 := by simp [xorL_len, padk_len]; omega
    have hl2 : (xorL (UInt8.ofNat 92) ((padk key).take i) ++ List.replicate (64 - i) (0 : UInt8)).length = 64 := by simp [xorL_len, padk_len]; omega
    by_cases hc : i < key.length
    · rw [dif_pos hc] at hgt
      rw [hgt] at hs1 hs2
      rw [Y_go]; conv => lhs; whnf
      rw [ilt_t (by omega)]
      conv => lhs; whnf
      rw [ilt_t (by (simp only [sha256_len, padk_len, xorL_len, macB_len, fourB_len, derBlk_len, LL] at * <;> omega))]
      conv => lhs; whnf
      rw [lget_n (by omega)]
      conv => lhs; whnf
      rw [Y_go]; conv => lhs; whnf
      rw [linb_t (by omega)]
      conv => lhs; whnf
      rw [lget_n (by omega)]
      conv => lhs; whnf
      rw [linb_t (by omega)]
      conv => lhs; whnf
      rw [lget_n (by omega)]
      conv => lhs; whnf
      rw [iadd_eq (by omega)]
      refine (congrArg (Y E0) ?_).trans ih; (try simp only [Rq.loop.injEq, Rq.call.injEq, Rq.ops.injEq, List.cons.injEq, Prod.mk.injEq, AV.i.injEq, AV.sl.injEq, AV.st.injEq, AV.b.injEq, AV.u8.injEq, AV.nm.injEq, Option.some.injEq, Rs.row.injEq, Rs.var.injEq, heq_eq_eq, true_and, and_true]); (try (repeat' apply And.intro)); all_goals first | (with_reducible rfl) | omega | (rw [iadd_eq (by omega)]; omega) | (rw [isub_eq (by omega)]; omega) | (rw [lset_eq, u8xor_eq]; exact hs1) | (rw [lset_eq, u8xor_eq]; exact hs2)
    · rw [dif_neg hc] at hgt
      rw [hgt] at hs1 hs2
      rw [Y_go]; conv => lhs; whnf
      rw [ilt_t (by omega)]
      conv => lhs; whnf
      rw [ilt_f (by (simp only [sha256_len, padk_len, xorL_len, macB_len, fourB_len, derBlk_len, LL] at * <;> omega))]
      conv => lhs; whnf
      rw [Y_go]; conv => lhs; whnf
      rw [linb_t (by omega)]
      conv => lhs; whnf
      rw [lget_n (by omega)]
      conv => lhs; whnf
      rw [linb_t (by omega)]
      conv => lhs; whnf
      rw [lget_n (by omega)]
      conv => lhs; whnf
      rw [iadd_eq (by omega)]
      refine (congrArg (Y E0) ?_).trans ih; (try simp only [Rq.loop.injEq, Rq.call.injEq, Rq.ops.injEq, List.cons.injEq, Prod.mk.injEq, AV.i.injEq, AV.sl.injEq, AV.st.injEq, AV.b.injEq, AV.u8.injEq, AV.nm.injEq, Option.some.injEq, Rs.row.injEq, Rs.var.injEq, heq_eq_eq, true_and, and_true]); (try (repeat' apply And.intro)); all_goals first | (with_reducible rfl) | omega | (rw [iadd_eq (by omega)]; omega) | (rw [isub_eq (by omega)]; omega) | (rw [lset_eq, u8xor_eq]; exact hs1) | (rw [lset_eq, u8xor_eq]; exact hs2)
theorem ev_rmac (key b : List UInt8) (hk : key.length ≤ 4294967296) (hb : b.length ≤ 4294900000) : Y E0 (.call 38 [.sl .u8 key, .sl .u8 b] []) = some (.ret (.sl .u8 (macB key b)) []) := by
  have hr : lrep 64 (0 : UInt8) = List.replicate 64 0 := by rw [lrep_eq]; rfl
  by_cases hc : 64 < key.length
  · have hkb : keyB key = sha256 key := if_pos hc
    have h0 := ev_rmac_loop (sha256 key) b (by rw [sha256_len]; omega) 64 0 (by omega)
    rw [List.take_zero, show ((0 : Nat) : Int) = 0 from rfl, show xorL (UInt8.ofNat 54) [] ++ List.replicate (64 - 0) (0 : UInt8) = List.replicate 64 0 from rfl, show xorL (UInt8.ofNat 92) [] ++ List.replicate (64 - 0) (0 : UInt8) = List.replicate 64 0 from rfl] at h0
    unfold macB
    rw [hkb]
    rw [Y_go]; conv => lhs; whnf
    rw [ilt_t (by (simp only [sha256_len, padk_len, xorL_len, macB_len, fourB_len, derBlk_len, LL] at * <;> omega))]
    conv => lhs; whnf
    rw [toReq_call]
    rw [ev_sum256 _ (by omega)]
    conv => lhs; whnf
    rw [Y_go]; conv => lhs; whnf
    rw [fitn_t (by omega)]
    conv => lhs; whnf
    rw [ieq_t (by omega)]
    conv => lhs; whnf
    rw [fitn_t (by omega)]
    conv => lhs; whnf
    rw [ieq_t (by omega)]
    conv => lhs; whnf
    rw [drw (by kernel_rfl)]; conv => lhs; whnf
    rw [toReq_loop]
    rw [hr, h0]
    conv => lhs; whnf
    rw [fits_t (by (simp only [sha256_len, padk_len, xorL_len, macB_len, fourB_len, derBlk_len, LL] at * <;> omega))]
    conv => lhs; whnf
    rw [toReq_call]
    rw [ev_sum256 _ (by (simp only [sha256_len, padk_len, xorL_len, macB_len, fourB_len, derBlk_len, LL] at * <;> omega))]
    conv => lhs; whnf
    rw [fits_t (by (simp only [sha256_len, padk_len, xorL_len, macB_len, fourB_len, derBlk_len, LL] at * <;> omega))]
    conv => lhs; whnf
    rw [toReq_call]
    rw [ev_sum256 _ (by (simp only [sha256_len, padk_len, xorL_len, macB_len, fourB_len, derBlk_len, LL] at * <;> omega))]
    conv => lhs; whnf
    simp only [NO]; try with_reducible rfl
  · have hkb : keyB key = key := if_neg hc
    have h0 := ev_rmac_loop key b (by omega) 64 0 (by omega)
    rw [List.take_zero, show ((0 : Nat) : Int) = 0 from rfl, show xorL (UInt8.ofNat 54) [] ++ List.replicate (64 - 0) (0 : UInt8) = List.replicate 64 0 from rfl, show xorL (UInt8.ofNat 92) [] ++ List.replicate (64 - 0) (0 : UInt8) = List.replicate 64 0 from rfl] at h0
    unfold macB
    rw [hkb]
    rw [Y_go]; conv => lhs; whnf
    rw [ilt_f (by (simp only [sha256_len, padk_len, xorL_len, macB_len, fourB_len, derBlk_len, LL] at * <;> omega))]
    conv => lhs; whnf
    rw [Y_go]; conv => lhs; whnf
    rw [fitn_t (by omega)]
    conv => lhs; whnf
    rw [ieq_t (by omega)]
    conv => lhs; whnf
    rw [fitn_t (by omega)]
    conv => lhs; whnf
    rw [ieq_t (by omega)]
    conv => lhs; whnf
    rw [drw (by kernel_rfl)]; conv => lhs; whnf
    rw [toReq_loop]
    rw [hr, h0]
    conv => lhs; whnf
    rw [fits_t (by (simp only [sha256_len, padk_len, xorL_len, macB_len, fourB_len, derBlk_len, LL] at * <;> omega))]
    conv => lhs; whnf
    rw [toReq_call]
    rw [ev_sum256 _ (by (simp only [sha256_len, padk_len, xorL_len, macB_len, fourB_len, derBlk_len, LL] at * <;> omega))]
    conv => lhs; whnf
    rw [fits_t (by (simp only [sha256_len, padk_len, xorL_len, macB_len, fourB_len, derBlk_len, LL] at * <;> omega))]
    conv => lhs; whnf
    rw [toReq_call]
    rw [ev_sum256 _ (by (simp only [sha256_len, padk_len, xorL_len, macB_len, fourB_len, derBlk_len, LL] at * <;> omega))]
    conv => lhs; whnf
    simp only [NO]; try with_reducible rfl
theorem ev_derive_loop (key label ctx : List UInt8) (n : Int) (hk : key.length ≤ 4294967296) (hl : label.length ≤ 1000) (hc : ctx.length ≤ 1000000) (hn : 1 ≤ n ∧ n ≤ 1024) : ∀ (k j : Nat), j + k = ((n + 31) / 32).toNat →
    Y E0 (.loop 59 0 0 1 [(0, .sl .u8 key), (3, .i n), (9, .sl .u8 (label ++ (0 :: (ctx ++ fourB (8 * n))))), (10, .nm 0), (11, .i (j + 1))] [(0, some (.row 5 .u8 (derBlk key label ctx n j)))]) = some (.fin (.exit 0) 0 [(3, .i n), (10, .sl .u8 (derBlk key label ctx n ((n + 31) / 32).toNat))] [])
  | 0, j, hj => by
    rw [show ((n + 31) / 32).toNat = j from by omega]
    rw [Y_go]; conv => lhs; whnf
    rw [ilt_f (by (simp only [sha256_len, padk_len, xorL_len, macB_len, fourB_len, derBlk_len, LL] at * <;> omega))]
    conv => lhs; whnf
  | k + 1, j, hj => by
    have ih := ev_derive_loop key label ctx n hk hl hc hn k (j + 1) (by omega)
    rw [derBlk_succ, show ((j + 1 : Nat) : Int) + 1 = (j : Int) + 1 + 1 from by omega] at ih
    rw [Y_go]; conv => lhs; whnf
    rw [ilt_t (by (simp only [sha256_len, padk_len, xorL_len, macB_len, fourB_len, derBlk_len, LL] at * <;> omega))]
    conv => lhs; whnf
    rw [toReq_call]
    rw [ev_four _]
    conv => lhs; whnf
    rw [fits_t (by (simp only [sha256_len, padk_len, xorL_len, macB_len, fourB_len, derBlk_len, LL] at * <;> omega))]
    conv => lhs; whnf
    rw [toReq_call]
    rw [ev_mac _ _ (by omega) (by (simp only [sha256_len, padk_len, xorL_len, macB_len, fourB_len, derBlk_len, LL] at * <;> omega))]
    conv => lhs; whnf
    rw [fits_t (by (simp only [sha256_len, padk_len, xorL_len, macB_len, fourB_len, derBlk_len, LL] at * <;> omega))]
    conv => lhs; whnf
    rw [iadd_eq (by omega)]
    refine (congrArg (Y E0) ?_).trans ih; (try simp only [Rq.loop.injEq, Rq.call.injEq, Rq.ops.injEq, List.cons.injEq, Prod.mk.injEq, AV.i.injEq, AV.sl.injEq, AV.st.injEq, AV.b.injEq, AV.u8.injEq, AV.nm.injEq, Option.some.injEq, Rs.row.injEq, Rs.var.injEq, heq_eq_eq, true_and, and_true]); (try (repeat' apply And.intro)); all_goals first | (with_reducible rfl) | omega | (rw [iadd_eq (by omega)]; omega) | (rw [isub_eq (by omega)]; omega) | (simp only [lapp_eq])
theorem ev_derive (key : List UInt8) (label ctx : List UInt8) (n : Int) (hk : key.length ≤ 4294967296) (hl : label.length ≤ 1000) (hc : ctx.length ≤ 1000000) : Y E0 (.call 59 [.sl .u8 key, .str label, .sl .u8 ctx, .i n] []) = some (.ret (.sl .u8 (derB key label ctx n)) []) := by
  have he : lapp (lapp (lapp label [UInt8.ofNat 0]) ctx) (fourB (8 * n)) = label ++ (0 :: (ctx ++ fourB (8 * n))) := by simp only [lapp_eq, List.append_assoc, List.cons_append, List.nil_append]; rfl
  rw [Y_go]; conv => lhs; whnf
  rcases Bool.eq_false_or_eq_true (ilt n 1) with hc0 | hc0
  · rw [hc0]; replace hc0 := of_ilt_t hc0; try simp only [llen_eq] at hc0
    conv => lhs; whnf
    unfold derB; (repeat (first | rw [if_pos (by first | omega | decide | assumption | (simp only [sha256_len, padk_len, xorL_len, macB_len, fourB_len, derBlk_len, LL] at * <;> omega) | (simp; omega))] | rw [if_neg (by first | omega | decide | assumption | (simp only [sha256_len, padk_len, xorL_len, macB_len, fourB_len, derBlk_len, LL] at * <;> omega) | (simp; omega))])); try rfl
  · rw [hc0]; replace hc0 := of_ilt_f hc0; try simp only [llen_eq] at hc0
    conv => lhs; whnf
    rcases Bool.eq_false_or_eq_true (ilt 1024 n) with hc1 | hc1
    · rw [hc1]; replace hc1 := of_ilt_t hc1; try simp only [llen_eq] at hc1
      conv => lhs; whnf
      unfold derB; (repeat (first | rw [if_pos (by first | omega | decide | assumption | (simp only [sha256_len, padk_len, xorL_len, macB_len, fourB_len, derBlk_len, LL] at * <;> omega) | (simp; omega))] | rw [if_neg (by first | omega | decide | assumption | (simp only [sha256_len, padk_len, xorL_len, macB_len, fourB_len, derBlk_len, LL] at * <;> omega) | (simp; omega))])); try rfl
    · rw [hc1]; replace hc1 := of_ilt_f hc1; try simp only [llen_eq] at hc1
      conv => lhs; whnf
      rw [fits_t (by omega)]
      conv => lhs; whnf
      rw [fits_t (by (simp only [sha256_len, padk_len, xorL_len, macB_len, fourB_len, derBlk_len, LL] at * <;> omega))]
      conv => lhs; whnf
      rw [fits_t (by (simp only [sha256_len, padk_len, xorL_len, macB_len, fourB_len, derBlk_len, LL] at * <;> omega))]
      conv => lhs; whnf
      rw [imul_eq (by omega)]
      rw [toReq_call]
      rw [ev_four _]
      conv => lhs; whnf
      rw [fits_t (by (simp only [sha256_len, padk_len, xorL_len, macB_len, fourB_len, derBlk_len, LL] at * <;> omega))]
      conv => lhs; whnf
      rw [toReq_loop]
      have h0 := ev_derive_loop key label ctx n hk hl hc (by omega) _ 0 (Nat.zero_add _); rw [show ((0 : Nat) : Int) + 1 = 1 from rfl, show derBlk key label ctx n 0 = [] from rfl] at h0; rw [he, h0]
      conv => lhs; whnf
      rw [ieq_t (by omega)]
      conv => lhs; whnf
      rw [lcut_0 (by (simp only [sha256_len, padk_len, xorL_len, macB_len, fourB_len, derBlk_len, LL] at * <;> omega))]
      conv => lhs; whnf
      unfold derB; (repeat (first | rw [if_pos (by first | omega | decide | assumption | (simp only [sha256_len, padk_len, xorL_len, macB_len, fourB_len, derBlk_len, LL] at * <;> omega) | (simp; omega))] | rw [if_neg (by first | omega | decide | assumption | (simp only [sha256_len, padk_len, xorL_len, macB_len, fourB_len, derBlk_len, LL] at * <;> omega) | (simp; omega))])); try rfl
theorem ev_rderive_loop (key label ctx : List UInt8) (n : Int) (hk : key.length ≤ 4294967296) (hl : label.length ≤ 1000) (hc : ctx.length ≤ 1000000) (hn : 1 ≤ n ∧ n ≤ 1024) : ∀ (k j : Nat), j + k = ((n + 31) / 32).toNat →
    Y E0 (.loop 37 0 0 1 [(0, .sl .u8 key), (1, .str label), (2, .sl .u8 ctx), (3, .i n), (9, .nm 0), (10, .i (j + 1))] [(0, some (.row 5 .u8 (derBlk key label ctx n j)))]) = some (.fin (.exit 0) 0 [(3, .i n), (9, .sl .u8 (derBlk key label ctx n ((n + 31) / 32).toNat))] [])
  | 0, j, hj => by
    rw [show ((n + 31) / 32).toNat = j from by omega]
    rw [Y_go]; conv => lhs; whnf
    rw [ilt_f (by (simp only [sha256_len, padk_len, xorL_len, macB_len, fourB_len, derBlk_len, LL] at * <;> omega))]
    conv => lhs; whnf
  | k + 1, j, hj => by
    have ih := ev_rderive_loop key label ctx n hk hl hc hn k (j + 1) (by omega)
    rw [derBlk_succ, show ((j + 1 : Nat) : Int) + 1 = (j : Int) + 1 + 1 from by omega] at ih
    rw [Y_go]; conv => lhs; whnf
    rw [ilt_t (by (simp only [sha256_len, padk_len, xorL_len, macB_len, fourB_len, derBlk_len, LL] at * <;> omega))]
    conv => lhs; whnf
    rw [toReq_call]
    rw [ev_rfour _]
    conv => lhs; whnf
    rw [fits_t (by (simp only [sha256_len, padk_len, xorL_len, macB_len, fourB_len, derBlk_len, LL] at * <;> omega))]
    conv => lhs; whnf
    rw [fits_t (by (simp only [sha256_len, padk_len, xorL_len, macB_len, fourB_len, derBlk_len, LL] at * <;> omega))]
    conv => lhs; whnf
    rw [fits_t (by (simp only [sha256_len, padk_len, xorL_len, macB_len, fourB_len, derBlk_len, LL] at * <;> omega))]
    conv => lhs; whnf
    rw [imul_eq (by omega)]
    rw [toReq_call]
    rw [ev_rfour _]
    conv => lhs; whnf
    rw [fits_t (by (simp only [sha256_len, padk_len, xorL_len, macB_len, fourB_len, derBlk_len, LL] at * <;> omega))]
    conv => lhs; whnf
    rw [toReq_call]
    rw [ev_rmac _ _ (by omega) (by (simp only [sha256_len, padk_len, xorL_len, macB_len, fourB_len, derBlk_len, LL] at * <;> omega))]
    conv => lhs; whnf
    rw [fits_t (by (simp only [sha256_len, padk_len, xorL_len, macB_len, fourB_len, derBlk_len, LL] at * <;> omega))]
    conv => lhs; whnf
    rw [iadd_eq (by omega)]
    refine (congrArg (Y E0) ?_).trans ih; (try simp only [Rq.loop.injEq, Rq.call.injEq, Rq.ops.injEq, List.cons.injEq, Prod.mk.injEq, AV.i.injEq, AV.sl.injEq, AV.st.injEq, AV.b.injEq, AV.u8.injEq, AV.nm.injEq, Option.some.injEq, Rs.row.injEq, Rs.var.injEq, heq_eq_eq, true_and, and_true]); (try (repeat' apply And.intro)); all_goals first | (with_reducible rfl) | omega | (rw [iadd_eq (by omega)]; omega) | (rw [isub_eq (by omega)]; omega) | (simp only [lapp_eq, List.append_assoc, List.cons_append, List.nil_append]; rfl)
theorem ev_rderive (key : List UInt8) (label ctx : List UInt8) (n : Int) (hk : key.length ≤ 4294967296) (hl : label.length ≤ 1000) (hc : ctx.length ≤ 1000000) : Y E0 (.call 37 [.sl .u8 key, .str label, .sl .u8 ctx, .i n] []) = some (.ret (.sl .u8 (derB key label ctx n)) []) := by
  rw [Y_go]; conv => lhs; whnf
  rcases Bool.eq_false_or_eq_true (ilt n 1) with hc0 | hc0
  · rw [hc0]; replace hc0 := of_ilt_t hc0; try simp only [llen_eq] at hc0
    conv => lhs; whnf
    unfold derB; (repeat (first | rw [if_pos (by first | omega | decide | assumption | (simp only [sha256_len, padk_len, xorL_len, macB_len, fourB_len, derBlk_len, LL] at * <;> omega) | (simp; omega))] | rw [if_neg (by first | omega | decide | assumption | (simp only [sha256_len, padk_len, xorL_len, macB_len, fourB_len, derBlk_len, LL] at * <;> omega) | (simp; omega))])); try rfl
  · rw [hc0]; replace hc0 := of_ilt_f hc0; try simp only [llen_eq] at hc0
    conv => lhs; whnf
    rcases Bool.eq_false_or_eq_true (ilt 1024 n) with hc1 | hc1
    · rw [hc1]; replace hc1 := of_ilt_t hc1; try simp only [llen_eq] at hc1
      conv => lhs; whnf
      unfold derB; (repeat (first | rw [if_pos (by first | omega | decide | assumption | (simp only [sha256_len, padk_len, xorL_len, macB_len, fourB_len, derBlk_len, LL] at * <;> omega) | (simp; omega))] | rw [if_neg (by first | omega | decide | assumption | (simp only [sha256_len, padk_len, xorL_len, macB_len, fourB_len, derBlk_len, LL] at * <;> omega) | (simp; omega))])); try rfl
    · rw [hc1]; replace hc1 := of_ilt_f hc1; try simp only [llen_eq] at hc1
      conv => lhs; whnf
      rw [toReq_loop]
      have h0 := ev_rderive_loop key label ctx n hk hl hc (by omega) _ 0 (Nat.zero_add _); rw [show ((0 : Nat) : Int) + 1 = 1 from rfl, show derBlk key label ctx n 0 = [] from rfl] at h0; rw [h0]
      conv => lhs; whnf
      rw [lcut_0 (by (simp only [sha256_len, padk_len, xorL_len, macB_len, fourB_len, derBlk_len, LL] at * <;> omega))]
      conv => lhs; whnf
      unfold derB; (repeat (first | rw [if_pos (by first | omega | decide | assumption | (simp only [sha256_len, padk_len, xorL_len, macB_len, fourB_len, derBlk_len, LL] at * <;> omega) | (simp; omega))] | rw [if_neg (by first | omega | decide | assumption | (simp only [sha256_len, padk_len, xorL_len, macB_len, fourB_len, derBlk_len, LL] at * <;> omega) | (simp; omega))])); try rfl
end Go.Proofs.YtfjcmolccckhhaaDoor

namespace Go.Proofs.YtfjcmolccckhhaaDoor
open Go Go.Ax
set_option linter.unusedVariables false
set_option linter.unusedSimpArgs false
attribute [local irreducible] iadd isub imul iquo irem ibit ineg ieq ine ilt ile ishl ishr beq' bnot and' seq' u8op u8rem u32op u64op u8shr u8shl u64shr u64shl u32shr u32shl i64w u8i u64i iu8 iu32 iu64 u8u64 u64u8 u32u8 u64cmp u8cmp u32cmp llen lget linb lset lcut lrep lapp lcpy lemp fits fitn ieqs sealed drawChk fpSame
set_option maxHeartbeats 1000000
set_option maxRecDepth 100000
end Go.Proofs.YtfjcmolccckhhaaDoor

namespace Go.Proofs.YtfjcmolccckhhaaDoor
open Go Go.Ax
set_option linter.unusedVariables false
set_option linter.unusedSimpArgs false
attribute [local irreducible] iadd isub imul iquo irem ibit ineg ieq ine ilt ile ishl ishr beq' bnot and' seq' u8op u8rem u32op u64op u8shr u8shl u64shr u64shl u32shr u32shl i64w u8i u64i iu8 iu32 iu64 u8u64 u64u8 u32u8 u64cmp u8cmp u32cmp llen lget linb lset lcut lrep lapp lcpy lemp fits fitn ieqs sealed drawChk fpSame
set_option maxHeartbeats 1000000
set_option maxRecDepth 100000
end Go.Proofs.YtfjcmolccckhhaaDoor

namespace Go.Proofs.YtfjcmolccckhhaaDoor
open Go Go.Ax
set_option linter.unusedVariables false
set_option linter.unusedSimpArgs false
attribute [local irreducible] iadd isub imul iquo irem ibit ineg ieq ine ilt ile ishl ishr beq' bnot and' seq' u8op u8rem u32op u64op u8shr u8shl u64shr u64shl u32shr u32shl i64w u8i u64i iu8 iu32 iu64 u8u64 u64u8 u32u8 u64cmp u8cmp u32cmp llen lget linb lset lcut lrep lapp lcpy lemp fits fitn ieqs sealed drawChk fpSame
set_option maxHeartbeats 1000000
set_option maxRecDepth 100000
theorem ev_uint_loop (n : Int) : ∀ (k : Nat) (i : Int) (acc : List UInt8), i = (k : Int) - 1 → k ≤ 8 → acc.length + k ≤ 5000000000 →
    Y E0 (.loop 64 0 0 1 [(2, .i n), (7, .nm 0), (8, .i i)] [(0, some (.row 5 .u8 acc))]) = some (.fin (.exit 0) 1 [(7, .nm 0)] [(0, some (.row 5 .u8 (acc ++ beB k (UInt64.ofInt n))))])
  | 0, i, acc, hi, _, _ => by
    rw [Y_go]; conv => lhs; whnf
    rw [ile_f (by omega)]
    conv => lhs; whnf
    simp [beB]
  | k + 1, i, acc, hi, hk, hl => by
    rw [Y_go]; conv => lhs; whnf
    rw [ile_t (by omega)]
    conv => lhs; whnf
    rw [imul_eq (by omega)]
    rw [fits_t (by (simp only [LL] at * <;> omega))]
    conv => lhs; whnf
    rw [isub_eq (by omega)]
    rw [ev_uint_loop n k _ _ (by first | omega | decide | assumption | (simp only [LL] at * <;> omega) | (simp; omega)) (by first | omega | decide | assumption | (simp only [LL] at * <;> omega) | (simp; omega)) (by first | omega | decide | assumption | (simp only [LL] at * <;> omega) | (simp; omega))]
    conv => lhs; whnf
    simp only [lapp_eq, u64u8_eq, iu64_eq, beB, List.append_assoc, List.cons_append, List.nil_append]; rw [u64_ofInt (by omega), u64shr_eq (by omega), show (8 * i).toNat = 8 * k from by omega]
theorem ev_uint (b : List UInt8) (size n : Int) (hb : b.length ≤ 4294967296) : Y E0 (.call 64 [.sl .u8 b, .i size, .i n] []) = some (.ret (.nm 0) [some (.row 5 .u8 (uintB b size n))]) := by
  rw [Y_go]; conv => lhs; whnf
  rw [fits_t (by omega)]
  conv => lhs; whnf
  rcases Bool.eq_false_or_eq_true (ilt size 1) with hc0 | hc0
  · rw [hc0]; replace hc0 := of_ilt_t hc0; try simp only [llen_eq] at hc0
    conv => lhs; whnf
    unfold uintB; (repeat (first | rw [if_pos (by first | omega | decide | assumption | (simp only [LL] at * <;> omega) | (simp; omega))] | rw [if_neg (by first | omega | decide | assumption | (simp only [LL] at * <;> omega) | (simp; omega))])); try simp only [NO]
  · rw [hc0]; replace hc0 := of_ilt_f hc0; try simp only [llen_eq] at hc0
    conv => lhs; whnf
    rcases Bool.eq_false_or_eq_true (ilt 8 size) with hc1 | hc1
    · rw [hc1]; replace hc1 := of_ilt_t hc1; try simp only [llen_eq] at hc1
      conv => lhs; whnf
      unfold uintB; (repeat (first | rw [if_pos (by first | omega | decide | assumption | (simp only [LL] at * <;> omega) | (simp; omega))] | rw [if_neg (by first | omega | decide | assumption | (simp only [LL] at * <;> omega) | (simp; omega))])); try simp only [NO]
    · rw [hc1]; replace hc1 := of_ilt_f hc1; try simp only [llen_eq] at hc1
      conv => lhs; whnf
      rw [isub_eq (by omega)]
      rw [toReq_loop]
      rw [ev_uint_loop n size.toNat _ _ (by first | omega | decide | assumption | (simp only [LL] at * <;> omega) | (simp; omega)) (by first | omega | decide | assumption | (simp only [LL] at * <;> omega) | (simp; omega)) (by first | omega | decide | assumption | (simp only [LL] at * <;> omega) | (simp; omega))]
      conv => lhs; whnf
      unfold uintB; (repeat (first | rw [if_pos (by first | omega | decide | assumption | (simp only [LL] at * <;> omega) | (simp; omega))] | rw [if_neg (by first | omega | decide | assumption | (simp only [LL] at * <;> omega) | (simp; omega))])); try simp only [NO]
theorem ev_blob (b x : List UInt8) (hb : b.length ≤ 4294900000) : Y E0 (.call 30 [.sl .u8 b, .sl .u8 x] []) = some (.ret (.nm 0) [some (.row 5 .u8 (blobB b x))]) := by
  have hx : lcut x 0 (min (llen x) 65535) = some (x.take 65535) := by
    rw [lcut_s (by rw [llen_eq]; omega)]
    congr 1
    simp only [llen_eq, Int.toNat_zero, List.drop_zero]
    rw [List.take_eq_take_iff]; omega
  have h2 : (x.take 65535).length ≤ 65535 := by rw [List.length_take]; omega
  have := uintB_len b 2 (llen (x.take 65535))
  rw [Y_go]; conv => lhs; whnf
  rw [hx]; conv => lhs; whnf
  rw [toReq_call]
  rw [ev_uint _ _ _ (by omega)]
  conv => lhs; whnf
  rw [fits_t (by (simp only [LL] at * <;> omega))]
  conv => lhs; whnf
  rw [lapp_eq, blobB, llen_eq]
theorem ev_new (b : List UInt8) (hb : b.length ≤ 4294967296) : Y E0 (.call 32 [.sl .u8 b] []) = some (.ret (.pa 0 0) [some (.var [.sl .u8 b, .i 0, .i 0])]) := by
  rw [Y_go]; conv => lhs; whnf
  rw [fits_t (by omega)]
  conv => lhs; whnf
theorem ev_fail (b : List UInt8) (p e f : Int) : Y E0 (.call 68 [.pa 0 0, .i f] [.var [.sl .u8 b, .i p, .i e]]) = some (.ret (.tup []) [some (.var [.sl .u8 b, .i p, .i f])]) := by
  rw [Y_go]; conv => lhs; whnf
theorem ev_take_f (b : List UInt8) (p n : Int) (q e : Int) (hb : b.length ≤ 4294967296) (hp : 0 ≤ p ∧ p ≤ b.length) (hn : 0 ≤ n) (h : b.length < p + n) : Y E0 (.call 67 [.pa 0 0, .i p, .i n] [.var [.sl .u8 b, .i q, .i e]]) = some (.ret (.tup [.sl .u8 [], .i 2]) [some (.var [.sl .u8 b, .i q, .i e])]) := by
  rw [Y_go]; conv => lhs; whnf
  rw [isub_eq (by (simp only [LL] at * <;> omega))]
  rw [ilt_t (by (simp only [LL] at * <;> omega))]
  conv => lhs; whnf
theorem ev_take (b : List UInt8) (p n : Int) (q e : Int) (hb : b.length ≤ 4294967296) (hp : 0 ≤ p ∧ p ≤ b.length) (hn : 0 ≤ n) (h : ¬ b.length < p + n) : Y E0 (.call 67 [.pa 0 0, .i p, .i n] [.var [.sl .u8 b, .i q, .i e]]) = some (.ret (.tup [.sl .u8 ((b.drop p.toNat).take n.toNat), .i 0]) [some (.var [.sl .u8 b, .i q, .i e])]) := by
  rw [Y_go]; conv => lhs; whnf
  rw [isub_eq (by (simp only [LL] at * <;> omega))]
  rw [ilt_f (by (simp only [LL] at * <;> omega))]
  conv => lhs; whnf
  rw [iadd_eq (by omega)]
  rw [lcut_s (by omega)]
  conv => lhs; whnf
  rw [show p + n - p = n from by omega]
theorem ev_left (b : List UInt8) (p : Nat) (e : Int) (hb : b.length ≤ 4294967296) (hp : p ≤ b.length) : Y E0 (.call 69 [.pa 0 0] [.var [.sl .u8 b, .i p, .i e]]) = some (.ret (.i ((b.length - p : Nat) : Int)) [some (.var [.sl .u8 b, .i p, .i e])]) := by
  rw [Y_go]; conv => lhs; whnf
  rw [isub_eq (by (simp only [LL] at * <;> omega))]
  rw [drw (by kernel_rfl)]; conv => lhs; whnf
  simp only [llen_eq]; congr 4; omega
theorem ev_raw (b : List UInt8) (p : Nat) (e n : Int) (hb : b.length ≤ 4294967296) (hp : p ≤ b.length) (hn : n ≤ 4294967296) : Y E0 (.call 34 [.pa 0 0, .i n] [.var [.sl .u8 b, .i p, .i e]]) = some (.ret (.sl .u8 (rdR b p e n).1) [some (.var [.sl .u8 b, .i (rdR b p e n).2.1, .i (rdR b p e n).2.2])]) := by
  by_cases h : b.length < (p : Int) + n
  · rw [Y_go]; conv => lhs; whnf
    rcases Bool.eq_false_or_eq_true (ine e 0) with hc0 | hc0
    · rw [hc0]; replace hc0 := of_ine_t hc0; try simp only [llen_eq] at hc0
      conv => lhs; whnf
      unfold rdR; (repeat (first | rw [if_pos (by first | omega | decide | assumption | (simp only [LL] at * <;> omega) | (simp; omega))] | rw [if_neg (by first | omega | decide | assumption | (simp only [LL] at * <;> omega) | (simp; omega))])); try simp only [NO]
    · rw [hc0]; replace hc0 := of_ine_f hc0; try simp only [llen_eq] at hc0
      subst hc0
      conv => lhs; whnf
      rw [ilt_f (by omega)]
      conv => lhs; whnf
      rw [toReq_call]
      rw [ev_take_f _ _ _ _ _ (by omega) (by omega) (by omega) (by omega)]
      conv => lhs; whnf
      rw [ine_t (by omega)]
      conv => lhs; whnf
      rw [toReq_call]
      rw [ev_fail _ _ _ _]
      conv => lhs; whnf
      unfold rdR; (repeat (first | rw [if_pos (by first | omega | decide | assumption | (simp only [LL] at * <;> omega) | (simp; omega))] | rw [if_neg (by first | omega | decide | assumption | (simp only [LL] at * <;> omega) | (simp; omega))])); try simp only [NO]
  · rw [Y_go]; conv => lhs; whnf
    rcases Bool.eq_false_or_eq_true (ine e 0) with hc0 | hc0
    · rw [hc0]; replace hc0 := of_ine_t hc0; try simp only [llen_eq] at hc0
      conv => lhs; whnf
      unfold rdR; (repeat (first | rw [if_pos (by first | omega | decide | assumption | (simp only [LL] at * <;> omega) | (simp; omega))] | rw [if_neg (by first | omega | decide | assumption | (simp only [LL] at * <;> omega) | (simp; omega))])); try simp only [NO]
    · rw [hc0]; replace hc0 := of_ine_f hc0; try simp only [llen_eq] at hc0
      subst hc0
      conv => lhs; whnf
      rcases Bool.eq_false_or_eq_true (ilt n 0) with hc1 | hc1
      · rw [hc1]; replace hc1 := of_ilt_t hc1; try simp only [llen_eq] at hc1
        conv => lhs; whnf
        rw [toReq_call]
        rw [ev_fail _ _ _ _]
        conv => lhs; whnf
        unfold rdR; (repeat (first | rw [if_pos (by first | omega | decide | assumption | (simp only [LL] at * <;> omega) | (simp; omega))] | rw [if_neg (by first | omega | decide | assumption | (simp only [LL] at * <;> omega) | (simp; omega))])); try simp only [NO]
      · rw [hc1]; replace hc1 := of_ilt_f hc1; try simp only [llen_eq] at hc1
        conv => lhs; whnf
        rw [toReq_call]
        rw [ev_take _ _ _ _ _ (by omega) (by omega) (by omega) (by omega)]
        conv => lhs; whnf
        rw [ine_f (by omega)]
        conv => lhs; whnf
        rw [fits_t (by (simp only [LL] at * <;> omega))]
        conv => lhs; whnf
        rw [iadd_eq (by omega)]
        rw [show (p : Int) + n = ((p + n.toNat : Nat) : Int) from by omega]; unfold rdR; (repeat (first | rw [if_pos (by first | omega | decide | assumption | (simp only [LL] at * <;> omega) | (simp; omega))] | rw [if_neg (by first | omega | decide | assumption | (simp only [LL] at * <;> omega) | (simp; omega))])); rfl
theorem ev_rend (b : List UInt8) (p : Nat) (e : Int) (hb : b.length ≤ 4294967296) (hp : p ≤ b.length) : Y E0 (.call 35 [.pa 0 0] [.var [.sl .u8 b, .i p, .i e]]) = some (.ret (.i (rdE b p e)) [some (.var [.sl .u8 b, .i p, .i e])]) := by
  rw [Y_go]; conv => lhs; whnf
  rcases Bool.eq_false_or_eq_true (ieq e 0) with hc0 | hc0
  · rw [hc0]; replace hc0 := of_ieq_t hc0; try simp only [llen_eq] at hc0
    subst hc0
    conv => lhs; whnf
    rw [toReq_call]
    rw [ev_left _ _ _ (by omega) (by omega)]
    conv => lhs; whnf
    rcases Bool.eq_false_or_eq_true (ilt 0 ↑(b.length - p)) with hc1 | hc1
    · rw [hc1]; replace hc1 := of_ilt_t hc1; try simp only [llen_eq] at hc1
      conv => lhs; whnf
      unfold rdE; (repeat (first | rw [if_pos (by first | omega | decide | assumption | (simp only [LL] at * <;> omega) | (simp; omega))] | rw [if_neg (by first | omega | decide | assumption | (simp only [LL] at * <;> omega) | (simp; omega))])); try simp only [NO]
    · rw [hc1]; replace hc1 := of_ilt_f hc1; try simp only [llen_eq] at hc1
      conv => lhs; whnf
      unfold rdE; (repeat (first | rw [if_pos (by first | omega | decide | assumption | (simp only [LL] at * <;> omega) | (simp; omega))] | rw [if_neg (by first | omega | decide | assumption | (simp only [LL] at * <;> omega) | (simp; omega))])); try simp only [NO]
  · rw [hc0]; replace hc0 := of_ieq_f hc0; try simp only [llen_eq] at hc0
    conv => lhs; whnf
    unfold rdE; (repeat (first | rw [if_pos (by first | omega | decide | assumption | (simp only [LL] at * <;> omega) | (simp; omega))] | rw [if_neg (by first | omega | decide | assumption | (simp only [LL] at * <;> omega) | (simp; omega))])); try simp only [NO]
end Go.Proofs.YtfjcmolccckhhaaDoor

namespace Go.Proofs.YtfjcmolccckhhaaDoor
open Go Go.Ax
set_option linter.unusedVariables false
set_option linter.unusedSimpArgs false
attribute [local irreducible] iadd isub imul iquo irem ibit ineg ieq ine ilt ile ishl ishr beq' bnot and' seq' u8op u8rem u32op u64op u8shr u8shl u64shr u64shl u32shr u32shl i64w u8i u64i iu8 iu32 iu64 u8u64 u64u8 u32u8 u64cmp u8cmp u32cmp llen lget linb lset lcut lrep lapp lcpy lemp fits fitn ieqs sealed drawChk fpSame
set_option maxHeartbeats 1000000
set_option maxRecDepth 100000
theorem ev_rblob (b : List UInt8) (p : Nat) (e n : Int) (hb : b.length ≤ 4294967296) (hp : p ≤ b.length) : Y E0 (.call 33 [.pa 0 0, .i n] [.var [.sl .u8 b, .i p, .i e]]) = some (.ret (.sl .u8 (rdB b p e n).1) [some (.var [.sl .u8 b, .i (rdB b p e n).2.1, .i (rdB b p e n).2.2])]) := by
  by_cases h2 : (b.length : Int) < (p : Int) + 2
  · rw [Y_go]; conv => lhs; whnf
    rcases Bool.eq_false_or_eq_true (ine e 0) with hc0 | hc0
    · rw [hc0]; replace hc0 := of_ine_t hc0; try simp only [llen_eq] at hc0
      conv => lhs; whnf
      unfold rdB; (repeat (first | rw [if_pos (by first | omega | decide | assumption | (simp only [LL] at * <;> omega) | (simp; omega))] | rw [if_neg (by first | omega | decide | assumption | (simp only [LL] at * <;> omega) | (simp; omega))])); try simp only [NO]
    · rw [hc0]; replace hc0 := of_ine_f hc0; try simp only [llen_eq] at hc0
      subst hc0
      conv => lhs; whnf
      rw [toReq_call]
      rw [ev_take_f _ _ _ _ _ (by omega) (by omega) (by omega) (by omega)]
      conv => lhs; whnf
      rw [ine_t (by omega)]
      conv => lhs; whnf
      rw [toReq_call]
      rw [ev_fail _ _ _ _]
      conv => lhs; whnf
      unfold rdB; (repeat (first | rw [if_pos (by first | omega | decide | assumption | (simp only [LL] at * <;> omega) | (simp; omega))] | rw [if_neg (by first | omega | decide | assumption | (simp only [LL] at * <;> omega) | (simp; omega))])); try simp only [NO]
  · have g0 : lget ((b.drop (p : Int).toNat).take (2 : Int).toNat) 0 = some (b.getD p 0) := lget_s (by omega) (by simp [List.getElem?_take, List.getElem?_drop, List.getD]; rw [List.getElem?_eq_getElem (by omega)]; rfl)
    have g1 : lget ((b.drop (p : Int).toNat).take (2 : Int).toNat) 1 = some (b.getD (p + 1) 0) := lget_s (by omega) (by simp [List.getElem?_take, List.getElem?_drop, List.getD]; rw [List.getElem?_eq_getElem (by omega)]; rfl)
    have hv : ibit .or (ishl (u8i (b.getD p 0)) (UInt64.ofNat 8).toNat) (u8i (b.getD (p + 1) 0)) = (lenAt b p : Int) := by
      rw [show (UInt64.ofNat 8).toNat = 8 from rfl, u8i_eq, u8i_eq, ishl8, ior_eq, or_bytes, lenAt]
    have hx := (b.getD p 0).toNat_lt
    have hy := (b.getD (p + 1) 0).toNat_lt
    have hl : lenAt b p ≤ 65535 := by rw [lenAt]; omega
    by_cases h4 : (b.length : Int) < (p : Int) + 2 + lenAt b p
    · rw [Y_go]; conv => lhs; whnf
      rcases Bool.eq_false_or_eq_true (ine e 0) with hc0 | hc0
      · rw [hc0]; replace hc0 := of_ine_t hc0; try simp only [llen_eq] at hc0
        conv => lhs; whnf
        unfold rdB; (repeat (first | rw [if_pos (by first | omega | decide | assumption | (simp only [LL] at * <;> omega) | (simp; omega))] | rw [if_neg (by first | omega | decide | assumption | (simp only [LL] at * <;> omega) | (simp; omega))])); try simp only [NO]
      · rw [hc0]; replace hc0 := of_ine_f hc0; try simp only [llen_eq] at hc0
        subst hc0
        conv => lhs; whnf
        rw [toReq_call]
        rw [ev_take _ _ _ _ _ (by omega) (by omega) (by omega) (by omega)]
        conv => lhs; whnf
        rw [ine_f (by omega)]
        conv => lhs; whnf
        rw [g0]; conv => lhs; whnf
        rw [g1]; conv => lhs; whnf
        rw [hv]; conv => lhs; whnf
        rw [drw (by kernel_rfl)]; conv => lhs; whnf
        rcases Bool.eq_false_or_eq_true (ilt n ↑(lenAt b p)) with hc1 | hc1
        · rw [hc1]; replace hc1 := of_ilt_t hc1; try simp only [llen_eq] at hc1
          conv => lhs; whnf
          rw [toReq_call]
          rw [ev_fail _ _ _ _]
          conv => lhs; whnf
          unfold rdB; (repeat (first | rw [if_pos (by first | omega | decide | assumption | (simp only [LL] at * <;> omega) | (simp; omega))] | rw [if_neg (by first | omega | decide | assumption | (simp only [LL] at * <;> omega) | (simp; omega))])); try simp only [NO]
        · rw [hc1]; replace hc1 := of_ilt_f hc1; try simp only [llen_eq] at hc1
          conv => lhs; whnf
          rw [iadd_eq (by omega)]
          rw [toReq_call]
          rw [ev_take_f _ _ _ _ _ (by omega) (by omega) (by omega) (by omega)]
          conv => lhs; whnf
          rw [ine_t (by omega)]
          conv => lhs; whnf
          rw [toReq_call]
          rw [ev_fail _ _ _ _]
          conv => lhs; whnf
          unfold rdB; (repeat (first | rw [if_pos (by first | omega | decide | assumption | (simp only [LL] at * <;> omega) | (simp; omega))] | rw [if_neg (by first | omega | decide | assumption | (simp only [LL] at * <;> omega) | (simp; omega))])); try simp only [NO]
    · rw [Y_go]; conv => lhs; whnf
      rcases Bool.eq_false_or_eq_true (ine e 0) with hc0 | hc0
      · rw [hc0]; replace hc0 := of_ine_t hc0; try simp only [llen_eq] at hc0
        conv => lhs; whnf
        unfold rdB; (repeat (first | rw [if_pos (by first | omega | decide | assumption | (simp only [LL] at * <;> omega) | (simp; omega))] | rw [if_neg (by first | omega | decide | assumption | (simp only [LL] at * <;> omega) | (simp; omega))])); try simp only [NO]
      · rw [hc0]; replace hc0 := of_ine_f hc0; try simp only [llen_eq] at hc0
        subst hc0
        conv => lhs; whnf
        rw [toReq_call]
        rw [ev_take _ _ _ _ _ (by omega) (by omega) (by omega) (by omega)]
        conv => lhs; whnf
        rw [ine_f (by omega)]
        conv => lhs; whnf
        rw [g0]; conv => lhs; whnf
        rw [g1]; conv => lhs; whnf
        rw [hv]; conv => lhs; whnf
        rw [drw (by kernel_rfl)]; conv => lhs; whnf
        rcases Bool.eq_false_or_eq_true (ilt n ↑(lenAt b p)) with hc1 | hc1
        · rw [hc1]; replace hc1 := of_ilt_t hc1; try simp only [llen_eq] at hc1
          conv => lhs; whnf
          rw [toReq_call]
          rw [ev_fail _ _ _ _]
          conv => lhs; whnf
          unfold rdB; (repeat (first | rw [if_pos (by first | omega | decide | assumption | (simp only [LL] at * <;> omega) | (simp; omega))] | rw [if_neg (by first | omega | decide | assumption | (simp only [LL] at * <;> omega) | (simp; omega))])); try simp only [NO]
        · rw [hc1]; replace hc1 := of_ilt_f hc1; try simp only [llen_eq] at hc1
          conv => lhs; whnf
          rw [iadd_eq (by omega)]
          rw [toReq_call]
          rw [ev_take _ _ _ _ _ (by omega) (by omega) (by omega) (by omega)]
          conv => lhs; whnf
          rw [ine_f (by omega)]
          conv => lhs; whnf
          rw [fits_t (by (simp only [LL] at * <;> omega))]
          conv => lhs; whnf
          rw [iadd_eq (a := 2) (b := ↑(lenAt b p)) (by omega)]
          rw [iadd_eq (by omega)]
          unfold rdB; (repeat (first | rw [if_pos (by first | omega | decide | assumption | (simp only [LL] at * <;> omega) | (simp; omega))] | rw [if_neg (by first | omega | decide | assumption | (simp only [LL] at * <;> omega) | (simp; omega))])); simp only [show ((p : Int) + 2).toNat = p + 2 from by omega, show ((lenAt b p : Nat) : Int).toNat = lenAt b p from by omega]; rw [show (p : Int) + (2 + (lenAt b p : Int)) = ((p + 2 + lenAt b p : Nat) : Int) from by omega]
end Go.Proofs.YtfjcmolccckhhaaDoor

namespace Go.Ax
open Go Go.Eng Go.RowKit
set_option linter.unusedVariables false
set_option linter.unusedSimpArgs false
def xorB (a b : List UInt8) : List UInt8 := List.zipWith (· ^^^ ·) a b
def encryptL : List UInt8 := [101, 110, 99, 114, 121, 112, 116]
def authL : List UInt8 := [97, 117, 116, 104, 101, 110, 116, 105, 99, 97, 116, 101]
def strB (key nonce b : List UInt8) : List UInt8 := xorB b (derB key encryptL nonce (b.length : Int))
def tagB (key nonce ad c : List UInt8) : List UInt8 := macB (derB key authL nonce 32) (frameB 0 [ad, nonce, c])
def formB (nonce c t : List UInt8) : List UInt8 := blobB (blobB [] nonce) c ++ t
def sealB (key nonce ad plain : List UInt8) : List UInt8 :=
  if 64 < nonce.length ∨ 1024 < plain.length then [] else formB nonce (strB key nonce plain) (tagB key nonce ad (strB key nonce plain))
def openB (key ad b : List UInt8) : List UInt8 × Int :=
  let n := rdB b 0 0 64
  let c := rdB b n.2.1 n.2.2 1024
  let t := rdR b c.2.1 c.2.2 32
  let e := rdE b t.2.1 t.2.2
  if e ≠ 0 then ([], e) else if t.1 ≠ tagB key n.1 ad c.1 then ([], 18) else (strB key n.1 c.1, 0)
theorem xorB_xorB : ∀ (a b : List UInt8), a.length ≤ b.length → xorB (xorB a b) b = a
  | [], _, _ => by simp [xorB]
  | x :: a, [], h => by simp at h
  | x :: a, y :: b, h => by
    have := xorB_xorB a b (by simpa using h)
    simp only [xorB, List.zipWith_cons_cons] at this ⊢
    rw [this, UInt8.xor_assoc, UInt8.xor_self, UInt8.xor_zero]
theorem derB_len0 {key label ctx : List UInt8} {n : Nat} (h : n ≤ 1024) : (derB key label ctx (n : Int)).length = n := by
  rcases Nat.eq_zero_or_pos n with rfl | hp
  · rfl
  · rw [derB_len (by omega)]; simp
theorem strB_len {key nonce b : List UInt8} (h : b.length ≤ 1024) : (strB key nonce b).length = b.length := by
  rw [strB, xorB, List.length_zipWith, derB_len0 h, Nat.min_self]
theorem strB_strB {key nonce b : List UInt8} (h : b.length ≤ 1024) : strB key nonce (strB key nonce b) = b := by
  have hl := strB_len (key := key) (nonce := nonce) h
  unfold strB at hl ⊢
  rw [hl]
  exact xorB_xorB _ _ (by rw [derB_len0 h]; exact Nat.le_refl _)
theorem tagB_len (key nonce ad c : List UInt8) : (tagB key nonce ad c).length = 32 := macB_len _ _
theorem formB_eq {nonce c t : List UInt8} (hn : nonce.length ≤ 65535) (hc : c.length ≤ 65535) : formB nonce c t = len2 nonce.length ++ nonce ++ (len2 c.length ++ c ++ (t ++ [])) := by
  rw [formB, blobB_eq hn, blobB_eq hc]
  simp only [List.append_assoc, List.append_nil, List.nil_append]
theorem formB_len {nonce c t : List UInt8} (hn : nonce.length ≤ 65535) (hc : c.length ≤ 65535) : (formB nonce c t).length = 4 + nonce.length + c.length + t.length := by
  rw [formB_eq hn hc]
  simp only [List.length_append, len2_len, List.length_nil]; omega
theorem sealB_len {key nonce ad plain : List UInt8} (hn : nonce.length ≤ 64) (hp : plain.length ≤ 1024) : (sealB key nonce ad plain).length = 36 + nonce.length + plain.length := by
  have hs := strB_len (key := key) (nonce := nonce) hp
  rw [sealB, if_neg (by omega), formB_len (by omega) (by omega), tagB_len, hs]; omega
theorem open_form {key ad nonce c t : List UInt8} (hn : nonce.length ≤ 64) (hc : c.length ≤ 1024) (ht : t.length = 32) :
    openB key ad (formB nonce c t) = if t = tagB key nonce ad c then (strB key nonce c, 0) else ([], 18) := by
  rw [formB_eq (by omega) (by omega)]
  generalize hb : len2 nonce.length ++ nonce ++ (len2 c.length ++ c ++ (t ++ [])) = b
  obtain ⟨q0, l0, d0⟩ := rdB_app (b := b) (p := 0) (most := 64) (x := nonce) (Nat.zero_le _) (by rw [← hb]; exact rfl) (by omega) (by omega)
  obtain ⟨q1, l1, d1⟩ := rdB_app (most := 1024) l0 d0 (by omega) (by omega)
  obtain ⟨q2, l2, d2⟩ := rdR_app l1 d1 ht
  have qe := rdE_ok l2 d2
  replace q2 : rdR b _ 0 32 = _ := q2
  unfold openB
  simp only [q0, q1, q2, qe, ne_eq, not_true_eq_false, if_false]
  by_cases h : t = tagB key nonce ad c
  · rw [if_neg (by simpa using h), if_pos h]
  · rw [if_pos h, if_neg h]
theorem open_seal {key nonce ad plain : List UInt8} (hn : nonce.length ≤ 64) (hp : plain.length ≤ 1024) : openB key ad (sealB key nonce ad plain) = (plain, 0) := by
  have hs := strB_len (key := key) (nonce := nonce) hp
  rw [sealB, if_neg (by omega), open_form hn (by omega) (tagB_len _ _ _ _), if_pos rfl, strB_strB hp]
theorem openB_of {b key ad v0 v1 v2 : List UInt8} {er0 er1 er2 : Int} {p0 p1 p2 : Nat}
    (g0 : rdB b 0 0 64 = (v0, p0, er0)) (g1 : rdB b p0 er0 1024 = (v1, p1, er1)) (g2 : rdR b p1 er1 32 = (v2, p2, er2)) :
    openB key ad b = if rdE b p2 er2 ≠ 0 then ([], rdE b p2 er2) else if v2 ≠ tagB key v0 ad v1 then ([], 18) else (strB key v0 v1, 0) := by
  simp only [openB, g0, g1, g2]
end Go.Ax

namespace Go.Ax
open Go Go.Eng Go.RowKit
set_option linter.unusedVariables false
set_option linter.unusedSimpArgs false
theorem fr1_len (tag : Int) (a : List UInt8) : (frameB tag [a]).length = 5 + a.length := by
  simp [frameB, fieldsB, len4_len]; omega
theorem fr2_len (tag : Int) (a b : List UInt8) : (frameB tag [a, b]).length = 9 + a.length + b.length := by
  simp [frameB, fieldsB, len4_len]; omega
theorem fr3_len (tag : Int) (a b c : List UInt8) : (frameB tag [a, b, c]).length = 13 + a.length + b.length + c.length := by
  simp [frameB, fieldsB, len4_len]; omega
theorem irem_bd (n : Int) {m : Int} (h : 1 ≤ m) : -m < irem n m ∧ irem n m < m := by
  rw [irem_d]
  exact ⟨Int.lt_tmod_of_pos n (by omega), Int.tmod_lt_of_pos n (by omega)⟩
structure Pub where
  kind : Int
  attr : Int
  height : Int
  policy : List UInt8
  unique : List UInt8
deriving DecidableEq
def pub0 : Pub := ⟨0, 0, 0, [], []⟩
def uniq (k : Int) : Int := if k = 2 then 17 else 32
def chkP (p : Pub) : Int :=
  if p.kind < 1 ∨ 3 < p.kind then 19
  else if p.attr < 0 ∨ 7 < p.attr ∨ (bits .and .i64 p.attr 4 ≠ 0 ∧ p.kind ≠ 2) ∨ (bits .and .i64 p.attr 1 = 0 ∧ p.policy.length = 0) then 20
  else if p.height < 0 ∨ 3 < p.height ∨ (p.height ≠ 0 ∧ p.kind ≠ 2) ∨ (p.policy.length ≠ 0 ∧ p.policy.length ≠ 32) ∨ (p.unique.length : Int) ≠ uniq p.kind then 1 else 0
def encP (p : Pub) : List UInt8 := blobB (blobB [UInt8.ofInt p.kind, UInt8.ofInt p.attr, UInt8.ofInt p.height] p.policy) p.unique
def decP (b : List UInt8) : Pub × Int :=
  let k := rdU b 0 0 1
  let a := rdU b k.2.1 k.2.2 1
  let h := rdU b a.2.1 a.2.2 1
  let o := rdB b h.2.1 h.2.2 32
  let u := rdB b o.2.1 o.2.2 32
  let e := rdE b u.2.1 u.2.2
  if e ≠ 0 then (pub0, e) else if chkP ⟨k.1, a.1, h.1, o.1, u.1⟩ ≠ 0 then (pub0, chkP ⟨k.1, a.1, h.1, o.1, u.1⟩) else (⟨k.1, a.1, h.1, o.1, u.1⟩, 0)
structure OkP (p : Pub) : Prop where
  kind : 1 ≤ p.kind ∧ p.kind ≤ 3
  attr : 0 ≤ p.attr ∧ p.attr ≤ 7
  height : 0 ≤ p.height ∧ p.height ≤ 3
  policy : p.policy.length ≤ 32
  unique : p.unique.length ≤ 32
def flatP (p : Pub) : List UInt8 :=
  beB 1 (UInt64.ofInt p.kind) ++ (beB 1 (UInt64.ofInt p.attr) ++ (beB 1 (UInt64.ofInt p.height) ++ (len2 p.policy.length ++ p.policy ++ (len2 p.unique.length ++ p.unique ++ []))))
structure Evi where
  machine : Int
  attest : List UInt8
  sig : List UInt8
  log : List UInt8
deriving DecidableEq
def evi0 : Evi := ⟨0, [], [], []⟩
def CanE (x : Evi) : Prop := 1 ≤ x.machine ∧ x.machine ≤ 4 ∧ x.attest.length ≤ 1024 ∧ x.sig.length ≤ 1024 ∧ x.log.length ≤ 8192
instance (x : Evi) : Decidable (CanE x) := by unfold CanE; infer_instance
def formE (x : Evi) : List UInt8 := blobB (blobB (blobB [UInt8.ofInt x.machine] x.attest) x.sig) x.log
def encE (x : Evi) : List UInt8 := if CanE x then formE x else []
def decE (b : List UInt8) : Evi × Int :=
  let m := rdU b 0 0 1
  let a := rdB b m.2.1 m.2.2 1024
  let s := rdB b a.2.1 a.2.2 1024
  let l := rdB b s.2.1 s.2.2 8192
  if rdE b l.2.1 l.2.2 ≠ 0 ∨ m.1 < 1 ∨ 4 < m.1 then (evi0, 30) else (⟨m.1, a.1, s.1, l.1⟩, 0)
def flatE (x : Evi) : List UInt8 := beB 1 (UInt64.ofInt x.machine) ++ (len2 x.attest.length ++ x.attest ++ (len2 x.sig.length ++ x.sig ++ (len2 x.log.length ++ x.log ++ [])))
end Go.Ax

namespace Go.Ax
def orx (d : UInt8) : List UInt8 → List UInt8 → UInt8
  | a :: x, b :: y => orx (d ||| (a ^^^ b)) x y
  | _, _ => d
theorem orx_zero : ∀ (a b : List UInt8) (d : UInt8), a.length = b.length → (orx d a b = 0 ↔ d = 0 ∧ a = b)
  | [], [], d, _ => by simp [orx]
  | x :: a, y :: b, d, h => by
    rw [orx, orx_zero a b _ (by simpa using h), UInt8.or_eq_zero_iff, UInt8.xor_eq_zero_iff, List.cons.injEq, and_assoc]
  | [], y :: b, d, h => by simp at h
  | x :: a, [], d, h => by simp at h
theorem orx_drop (d : UInt8) (a b : List UInt8) (h : a.length = b.length) (j : Nat) (hj : j < a.length) : orx d (a.drop j) (b.drop j) = orx (d ||| (a[j] ^^^ b[j])) (a.drop (j + 1)) (b.drop (j + 1)) := by
  rw [List.drop_eq_getElem_cons hj, List.drop_eq_getElem_cons (show j < b.length by omega), orx]
theorem xorB_len (b k : List UInt8) (h : k.length = b.length) : (xorB b k).length = b.length := by rw [xorB, List.length_zipWith, h, Nat.min_self]
theorem fill_set (b k : List UInt8) (h : k.length = b.length) (j : Nat) (hj : j < b.length) :
    ((xorB b k).take j ++ List.replicate (b.length - j) 0).set j (b[j] ^^^ k[j]) = (xorB b k).take (j + 1) ++ List.replicate (b.length - (j + 1)) 0 := by
  have hl := xorB_len b k h
  have hx : (xorB b k)[j]'(by omega) = b[j] ^^^ k[j] := by simp [xorB]
  rw [List.take_succ_eq_append_getElem (by omega), hx, List.set_append, if_neg (by rw [List.length_take]; omega), List.length_take, show j - min j (xorB b k).length = 0 from by omega,
    show b.length - j = (b.length - (j + 1)) + 1 from by omega, List.replicate_succ, List.set_cons_zero, List.append_assoc]
  rfl
theorem fill_len (b k : List UInt8) (h : k.length = b.length) (j : Nat) (hj : j ≤ b.length) : ((xorB b k).take j ++ List.replicate (b.length - j) (0 : UInt8)).length = b.length := by
  have hl := xorB_len b k h
  simp; omega
end Go.Ax
namespace Go.Proofs.YtfjcmolccckhhaaDoor
open Go Go.Ax Go.Eng
set_option linter.unusedVariables false
set_option linter.unusedSimpArgs false
attribute [local irreducible] iadd isub imul iquo irem ibit ineg ieq ine ilt ile ishl ishr beq' bnot and' seq' u8op u8rem u32op u64op u8shr u8shl u64shr u64shl u32shr u32shl i64w u8i u64i iu8 iu32 iu64 u8u64 u64u8 u32u8 u64cmp u8cmp u32cmp llen lget linb lset lcut lrep lapp lcpy lemp fits fitn ieqs sealed drawChk fpSame
set_option maxHeartbeats 4000000
set_option maxRecDepth 100000
theorem ev_equal_loop (a b : List UInt8) (h : a.length = b.length) (ha : a.length ≤ 4294967296) : ∀ (n j : Nat) (d : UInt8), j + n = a.length → Y E0 (.loop 36 0 0 0 [(0, .sl .u8 a), (1, .sl .u8 b), (5, .u8 d), (13, .i a.length), (14, .i (j : Int))] []) = some (.fin (.exit 0) 0 [(5, .u8 (orx d (a.drop j) (b.drop j)))] [])
  | 0, j, d, hj => by
    rw [List.drop_eq_nil_of_le (by omega), List.drop_eq_nil_of_le (by omega), orx]
    rw [Y_go]; conv => lhs; whnf
    rw [ilt_f (by omega)]
    conv => lhs; whnf
    all_goals intros; simp_all
  | n + 1, j, d, hj => by
    have ih := ev_equal_loop a b h ha n (j + 1) (d ||| (a[j]'(by omega) ^^^ b[j]'(by omega))) (by omega)
    rw [← orx_drop d a b h j (by omega)] at ih
    rw [Y_go]; conv => lhs; whnf
    rw [ilt_t (by omega)]
    conv => lhs; whnf
    rw [lget_n (by omega)]
    conv => lhs; whnf
    rw [lget_n (by omega)]
    conv => lhs; whnf
    rw [drw (by kernel_rfl)]; conv => lhs; whnf
    rw [iadd_eq (by omega)]
    refine (congrArg (Y E0) ?_).trans ih; (try simp only [Rq.loop.injEq, Rq.call.injEq, Rq.ops.injEq, List.cons.injEq, Prod.mk.injEq, AV.i.injEq, AV.sl.injEq, AV.st.injEq, AV.b.injEq, AV.u8.injEq, AV.nm.injEq, Option.some.injEq, Rs.row.injEq, Rs.var.injEq, heq_eq_eq, true_and, and_true]); (try (repeat' apply And.intro)); all_goals first | (with_reducible rfl) | omega | (rw [iadd_eq (by omega)]; omega) | (rw [isub_eq (by omega)]; omega) | (rw [u8xor_eq, u8or_eq])
theorem ev_equal (a b : List UInt8) (ha : a.length ≤ 4294967296) : Y E0 (.call 36 [.sl .u8 a, .sl .u8 b] []) = some (.ret (.b (decide (a = b))) []) := by
  by_cases hab : a.length = b.length
  · have hl := ev_equal_loop a b hab ha a.length 0 (UInt8.ofNat 0) (by omega)
    rw [List.drop_zero, List.drop_zero, show ((0 : Nat) : Int) = 0 from rfl] at hl
    have hz := orx_zero a b (UInt8.ofNat 0) hab
    rw [Y_go]; conv => lhs; whnf
    rw [ine_f (by (simp only [uintB_l2, uintB_l1, blobB_l, tagB_len, macB_len, fr1_len, fr2_len, fr3_len, LL] at * <;> omega))]
    conv => lhs; whnf
    rw [toReq_loop]
    rw [llen_eq, hl]
    conv => lhs; whnf
    exact congrArg (fun b => some (Rsp.ret (AV.b b) [])) (by rw [u8cmp_eql, ieq_eq]; apply decide_eq_decide.2; rw [Int.ofNat_inj, UInt8.toNat_inj]; exact hz.trans (by simp))
  · rw [decide_eq_false (fun e => hab (by rw [e]))]
    rw [Y_go]; conv => lhs; whnf
    rw [ine_t (by (simp only [uintB_l2, uintB_l1, blobB_l, tagB_len, macB_len, fr1_len, fr2_len, fr3_len, LL] at * <;> omega))]
    conv => lhs; whnf
theorem ev_bmask1 (b k : List UInt8) (j : Nat) (h : k.length = b.length) (hj : j < b.length) : Y E0 (.call 63 [.i (j : Int), .pa 0 0, .pa 1 0] [.var [.sl .u8 b], .var [.sl .u8 k]]) = some (.ret (.u8 (b[j] ^^^ k[j])) [some (.var [.sl .u8 b]), some (.var [.sl .u8 k])]) := by
  rw [Y_go]; conv => lhs; whnf
  rw [lget_n (by omega)]
  conv => lhs; whnf
  rw [lget_n (by omega)]
  conv => lhs; whnf
  rw [drw (by kernel_rfl)]; conv => lhs; whnf
  rw [u8xor_eq]
theorem ev_bmask_loop (b k : List UInt8) (h : k.length = b.length) (hb : b.length ≤ 1024) : ∀ (n j : Nat), j + n = b.length → Y E0 (.loop 29 0 0 3 [(8, .fn 63 [] [.pa 0 0, .pa 1 0]), (9, .nm 2), (21, .i b.length), (22, .i (j : Int))] [(0, some (.var [.sl .u8 b])), (1, some (.var [.sl .u8 k])), (2, some (.row 5 .u8 ((xorB b k).take j ++ List.replicate (b.length - j) 0)))]) = some (.fin (.exit 0) 0 [(9, .sl .u8 (xorB b k))] [])
  | 0, j, hj => by
    have hl := xorB_len b k h
    rw [List.take_of_length_le (by omega), show b.length - j = 0 from by omega, List.replicate_zero, List.append_nil]
    rw [Y_go]; conv => lhs; whnf
    rw [ilt_f (by omega)]
    conv => lhs; whnf
  | n + 1, j, hj => by
    have ih := ev_bmask_loop b k h hb n (j + 1) (by omega)
    have hs := fill_set b k h j (by omega)
    have hl2 := fill_len b k h j (by omega)
    rw [Y_go]; conv => lhs; whnf
    rw [ilt_t (by omega)]
    conv => lhs; whnf
    rw [toReq_call]
    rw [ev_bmask1 b k j h (by omega)]
    conv => lhs; whnf
    rw [linb_t (by omega)]
    conv => lhs; whnf
    rw [lget_n (by omega)]
    conv => lhs; whnf
    rw [iadd_eq (by omega)]
    refine (congrArg (Y E0) ?_).trans ih; (try simp only [Rq.loop.injEq, Rq.call.injEq, Rq.ops.injEq, List.cons.injEq, Prod.mk.injEq, AV.i.injEq, AV.sl.injEq, AV.st.injEq, AV.b.injEq, AV.u8.injEq, AV.nm.injEq, Option.some.injEq, Rs.row.injEq, Rs.var.injEq, heq_eq_eq, true_and, and_true]); (try (repeat' apply And.intro)); all_goals first | (with_reducible rfl) | omega | (rw [iadd_eq (by omega)]; omega) | (rw [isub_eq (by omega)]; omega) | (rw [lset_eq]; exact hs)
theorem ev_bmask (key nonce b : List UInt8) (hk : key.length ≤ 1000000) (hn : nonce.length ≤ 1000) (hb : b.length ≤ 1024) : Y E0 (.call 29 [.sl .u8 key, .sl .u8 nonce, .sl .u8 b] []) = some (.ret (.sl .u8 (strB key nonce b)) []) := by
  have hd := derB_len0 (key := key) (label := encryptL) (ctx := nonce) hb
  have hl := ev_bmask_loop b _ hd hb b.length 0 (by omega)
  rw [List.take_zero, List.nil_append, Nat.sub_zero, show ((0 : Nat) : Int) = 0 from rfl] at hl
  rw [Y_go]; conv => lhs; whnf
  rw [toReq_call]
  rw [show strOf { data := #[101, 110, 99, 114, 121, 112, 116] } = encryptL from rfl, ev_derive _ _ _ _ (by omega) (by decide) (by omega), llen_eq]
  conv => lhs; whnf
  rw [fitn_t (by (simp only [uintB_l2, uintB_l1, blobB_l, tagB_len, macB_len, fr1_len, fr2_len, fr3_len, LL] at * <;> omega))]
  conv => lhs; whnf
  rw [ieq_t (by omega)]
  conv => lhs; whnf
  rw [toReq_loop]
  rw [llen_eq, llen_eq, lrep_eq, Int.toNat_natCast, List.length_replicate, hl]
  conv => lhs; whnf
  rfl
theorem ev_btag (key nonce ad c : List UInt8) (hk : key.length ≤ 1000000) (hn : nonce.length ≤ 1000) (ha : ad.length ≤ 1000000) (hc : c.length ≤ 1024) : Y E0 (.call 31 [.sl .u8 key, .sl .u8 nonce, .sl .u8 ad, .sl .u8 c] []) = some (.ret (.sl .u8 (tagB key nonce ad c)) []) := by
  have hd := derB_len (key := key) (label := authL) (ctx := nonce) (n := 32) (by omega)
  rw [Y_go]; conv => lhs; whnf
  rw [toReq_call]
  rw [show strOf { data := #[97, 117, 116, 104, 101, 110, 116, 105, 99, 97, 116, 101] } = authL from rfl, ev_derive _ _ _ _ (by omega) (by decide) (by omega)]
  conv => lhs; whnf
  rw [toReq_call]
  rw [ev_dig_frame _ _ (by (simp only [uintB_l2, uintB_l1, blobB_l, tagB_len, macB_len, fr1_len, fr2_len, fr3_len, LL] at * <;> omega)) (by (simp only [uintB_l2, uintB_l1, blobB_l, tagB_len, macB_len, fr1_len, fr2_len, fr3_len, LL] at * <;> omega))]
  conv => lhs; whnf
  rw [toReq_call]
  rw [ev_mac _ _ (by omega) (by (simp only [uintB_l2, uintB_l1, blobB_l, tagB_len, macB_len, fr1_len, fr2_len, fr3_len, LL] at * <;> omega))]
  conv => lhs; whnf
  rfl
theorem ev_r4tag (key nonce ad c : List UInt8) (hk : key.length ≤ 1000000) (hn : nonce.length ≤ 1000) (ha : ad.length ≤ 1000000) (hc : c.length ≤ 1024) : Y E0 (.call 13 [.sl .u8 key, .sl .u8 nonce, .sl .u8 ad, .sl .u8 c] []) = some (.ret (.sl .u8 (tagB key nonce ad c)) []) := by
  have hd := derB_len (key := key) (label := authL) (ctx := nonce) (n := 32) (by omega)
  rw [Y_go]; conv => lhs; whnf
  rw [toReq_call]
  rw [show strOf { data := #[97, 117, 116, 104, 101, 110, 116, 105, 99, 97, 116, 101] } = authL from rfl, ev_rderive _ _ _ _ (by omega) (by decide) (by omega)]
  conv => lhs; whnf
  rw [toReq_call]
  rw [ev_ref_frame _ _ (by (simp only [uintB_l2, uintB_l1, blobB_l, tagB_len, macB_len, fr1_len, fr2_len, fr3_len, LL] at * <;> omega)) (by (simp only [uintB_l2, uintB_l1, blobB_l, tagB_len, macB_len, fr1_len, fr2_len, fr3_len, LL] at * <;> omega))]
  conv => lhs; whnf
  rw [toReq_call]
  rw [ev_rmac _ _ (by omega) (by (simp only [uintB_l2, uintB_l1, blobB_l, tagB_len, macB_len, fr1_len, fr2_len, fr3_len, LL] at * <;> omega))]
  conv => lhs; whnf
  rfl
theorem ev_seal (key nonce ad plain : List UInt8) (hk : key.length ≤ 1000000) (ha : ad.length ≤ 1000000) : Y E0 (.call 10 [.sl .u8 key, .sl .u8 nonce, .sl .u8 ad, .sl .u8 plain] []) = some (.ret (.sl .u8 (sealB key nonce ad plain)) []) := by
  rw [Y_go]; conv => lhs; whnf
  rcases Bool.eq_false_or_eq_true (ilt 64 (llen nonce)) with hc0 | hc0
  · rw [hc0]; replace hc0 := of_ilt_t hc0; try simp only [llen_eq] at hc0
    conv => lhs; whnf
    unfold sealB; (repeat (first | rw [if_pos (by first | omega | decide | assumption | (simp only [uintB_l2, uintB_l1, blobB_l, tagB_len, macB_len, fr1_len, fr2_len, fr3_len, LL] at * <;> omega) | (simp; omega))] | rw [if_neg (by first | omega | decide | assumption | (simp only [uintB_l2, uintB_l1, blobB_l, tagB_len, macB_len, fr1_len, fr2_len, fr3_len, LL] at * <;> omega) | (simp; omega))])); try simp only [NO]
  · rw [hc0]; replace hc0 := of_ilt_f hc0; try simp only [llen_eq] at hc0
    conv => lhs; whnf
    rcases Bool.eq_false_or_eq_true (ilt 1024 (llen plain)) with hc1 | hc1
    · rw [hc1]; replace hc1 := of_ilt_t hc1; try simp only [llen_eq] at hc1
      conv => lhs; whnf
      unfold sealB; (repeat (first | rw [if_pos (by first | omega | decide | assumption | (simp only [uintB_l2, uintB_l1, blobB_l, tagB_len, macB_len, fr1_len, fr2_len, fr3_len, LL] at * <;> omega) | (simp; omega))] | rw [if_neg (by first | omega | decide | assumption | (simp only [uintB_l2, uintB_l1, blobB_l, tagB_len, macB_len, fr1_len, fr2_len, fr3_len, LL] at * <;> omega) | (simp; omega))])); try simp only [NO]
    · rw [hc1]; replace hc1 := of_ilt_f hc1; try simp only [llen_eq] at hc1
      conv => lhs; whnf
      rw [toReq_call]
      have hs := strB_len (key := key) (nonce := nonce) (b := plain) (by omega); rw [ev_bmask _ _ _ (by omega) (by omega) (by omega)]
      conv => lhs; whnf
      rw [toReq_call]
      rw [ev_blob _ _ (by (simp only [uintB_l2, uintB_l1, blobB_l, tagB_len, macB_len, fr1_len, fr2_len, fr3_len, LL] at * <;> omega))]
      conv => lhs; whnf
      rw [toReq_call]
      rw [ev_blob _ _ (by (simp only [uintB_l2, uintB_l1, blobB_l, tagB_len, macB_len, fr1_len, fr2_len, fr3_len, LL] at * <;> omega))]
      conv => lhs; whnf
      rw [toReq_call]
      rw [ev_btag _ _ _ _ (by omega) (by omega) (by omega) (by omega)]
      conv => lhs; whnf
      rw [fits_t (by (simp only [uintB_l2, uintB_l1, blobB_l, tagB_len, macB_len, fr1_len, fr2_len, fr3_len, LL] at * <;> omega))]
      conv => lhs; whnf
      (rw [sealB, if_neg (by omega), formB, lapp_eq])
theorem ev_open (key ad b : List UInt8) (hk : key.length ≤ 1000000) (ha : ad.length ≤ 1000000) (hb : b.length ≤ 4294967296) : Y E0 (.call 11 [.sl .u8 key, .sl .u8 ad, .sl .u8 b] []) = some (.ret (.tup [.sl .u8 (openB key ad b).1, .i (openB key ad b).2]) []) := by
  rw [Y_go]; conv => lhs; whnf
  rw [toReq_call]
  rw [ev_new _ (by omega)]
  conv => lhs; whnf
  rw [toReq_call]
  rw [show Y E0 (.call 33 [.pa 0 0, .i 64] [.var [.sl .u8 b, .i 0, .i 0]]) = _ from ev_rblob b 0 0 64 hb (Nat.zero_le _)]; generalize g0 : rdB b 0 0 64 = x0; obtain ⟨v0, p0, er0⟩ := x0; have k0 : p0 ≤ b.length := (by have := rdB_le (b := b) (at' := 0) (e := 0) (most := 64) (Nat.zero_le _); rw [g0] at this; exact this); have l0 : v0.length ≤ b.length := (by have := rdB_len (b := b) (at' := 0) (e := 0) (most := 64); rw [g0] at this; exact this); have m0 : v0.length ≤ 64 := (by have := rdB_most (b := b) (at' := 0) (e := 0) (most := 64) (by decide); rw [g0] at this; simp only at this; omega)
  conv => lhs; whnf
  rw [toReq_call]
  rw [ev_rblob b p0 er0 1024 hb k0]; generalize g1 : rdB b p0 er0 1024 = x1; obtain ⟨v1, p1, er1⟩ := x1; have k1 : p1 ≤ b.length := (by have := rdB_le (b := b) (at' := p0) (e := er0) (most := 1024) k0; rw [g1] at this; exact this); have l1 : v1.length ≤ b.length := (by have := rdB_len (b := b) (at' := p0) (e := er0) (most := 1024); rw [g1] at this; exact this); have m1 : v1.length ≤ 1024 := (by have := rdB_most (b := b) (at' := p0) (e := er0) (most := 1024) (by decide); rw [g1] at this; simp only at this; omega)
  conv => lhs; whnf
  rw [toReq_call]
  rw [ev_raw b p1 er1 32 hb k1 (by decide)]; generalize g2 : rdR b p1 er1 32 = x2; obtain ⟨v2, p2, er2⟩ := x2; have k2 : p2 ≤ b.length := (by have := rdR_le (b := b) (at' := p1) (e := er1) (n := 32) k1; rw [g2] at this; exact this); have l2 : v2.length ≤ b.length := (by have := rdR_len (b := b) (at' := p1) (e := er1) (n := 32); rw [g2] at this; exact this)
  conv => lhs; whnf
  rw [toReq_call]
  rw [ev_rend _ _ _ (by omega) (by omega)]
  conv => lhs; whnf
  rcases Bool.eq_false_or_eq_true (ine (rdE b (v2, p2, er2).snd.fst (v2, p2, er2).snd.snd) 0) with hc0 | hc0
  · rw [hc0]; replace hc0 := of_ine_t hc0; try simp only [llen_eq] at hc0
    conv => lhs; whnf
    (rw [openB_of g0 g1 g2, if_pos (by omega)]; try rfl)
  · rw [hc0]; replace hc0 := of_ine_f hc0; try simp only [llen_eq] at hc0
    conv => lhs; whnf
    rw [toReq_call]
    rw [ev_btag _ _ _ _ (by omega) (by (simp only [uintB_l2, uintB_l1, blobB_l, tagB_len, macB_len, fr1_len, fr2_len, fr3_len, LL] at * <;> omega)) (by omega) (by omega)]
    conv => lhs; whnf
    rw [toReq_call]
    rw [ev_equal _ _ (by (simp only [uintB_l2, uintB_l1, blobB_l, tagB_len, macB_len, fr1_len, fr2_len, fr3_len, LL] at * <;> omega))]
    conv => lhs; whnf
    rw [bnot_eq]; conv => lhs; whnf
    rcases Bool.eq_false_or_eq_true (decide ((v2, p2, er2).fst = tagB key (v0, p0, er0).fst ad (v1, p1, er1).fst)) with hc1 | hc1
    · rw [hc1]; replace hc1 := of_decide_eq_true hc1; try simp only at hc1
      conv => lhs; whnf
      rw [toReq_call]
      rw [ev_bmask _ _ _ (by omega) (by (simp only [uintB_l2, uintB_l1, blobB_l, tagB_len, macB_len, fr1_len, fr2_len, fr3_len, LL] at * <;> omega)) (by omega)]
      conv => lhs; whnf
      (rw [openB_of g0 g1 g2, if_neg (by omega), if_neg (by simp_all)]; try rfl)
    · rw [hc1]; replace hc1 := of_decide_eq_false hc1; try simp only at hc1
      conv => lhs; whnf
      (rw [openB_of g0 g1 g2, if_neg (by omega), if_pos (by assumption)]; try rfl)
end Go.Proofs.YtfjcmolccckhhaaDoor

namespace Go.Ax
open Go.Eng
theorem sealB_le (key nonce ad plain : List UInt8) : (sealB key nonce ad plain).length ≤ 1200 := by
  by_cases h : 64 < nonce.length ∨ 1024 < plain.length
  · rw [sealB, if_pos h]; simp
  · rw [sealB_len (by omega) (by omega)]; omega
end Go.Ax
namespace Go.Proofs.YtfjcmolccckhhaaDoor
open Go Go.Ax Go.Eng
set_option linter.unusedVariables false
set_option linter.unusedSimpArgs false
attribute [local irreducible] iadd isub imul iquo irem ibit ineg ieq ine ilt ile ishl ishr beq' bnot and' seq' u8op u8rem u32op u64op u8shr u8shl u64shr u64shl u32shr u32shl i64w u8i u64i iu8 iu32 iu64 u8u64 u64u8 u32u8 u64cmp u8cmp u32cmp llen lget linb lset lcut lrep lapp lcpy lemp fits fitn ieqs sealed drawChk fpSame
attribute [local irreducible] sealB openB tagB strB
set_option maxHeartbeats 4000000
set_option maxRecDepth 100000
theorem ev_awake4 : Y E0 (.call 7 [] []) = some (.ret (.b true) []) := by
  have hl := sealB_len (key := [UInt8.ofNat 1]) (nonce := [UInt8.ofNat 2]) (ad := []) (plain := [UInt8.ofNat 3]) (by decide) (by decide)
  have ho := open_seal (key := [UInt8.ofNat 1]) (nonce := [UInt8.ofNat 2]) (ad := []) (plain := [UInt8.ofNat 3]) (by decide) (by decide)
  simp only [List.length_cons, List.length_nil] at hl
  rw [Y_go]; conv => lhs; whnf
  dsimp -iota -beta -eta -zeta only
  rw [toReq_call]
  rw [ev_seal _ _ _ _ (by (simp only [uintB_l2, uintB_l1, blobB_l, tagB_len, macB_len, fr1_len, fr2_len, fr3_len, LL] at * <;> omega)) (by (simp only [uintB_l2, uintB_l1, blobB_l, tagB_len, macB_len, fr1_len, fr2_len, fr3_len, LL] at * <;> omega))]
  conv => lhs; whnf
  dsimp -iota -beta -eta -zeta only
  rw [toReq_call]
  rw [ev_open _ _ _ (by simp) (by simp) (by omega), ho]
  conv => lhs; whnf
  dsimp -iota -beta -eta -zeta only
  rw [ieq_t (by (simp only [uintB_l2, uintB_l1, blobB_l, tagB_len, macB_len, fr1_len, fr2_len, fr3_len, LL] at * <;> omega))]
  conv => lhs; whnf
  rw [ieq_t (by omega)]
  conv => lhs; whnf
  rw [ieq_t (by (simp only [uintB_l2, uintB_l1, blobB_l, tagB_len, macB_len, fr1_len, fr2_len, fr3_len, LL] at * <;> omega))]
  conv => lhs; whnf
  rw [lget_i (by decide)]
  conv => lhs; whnf
  rw [u8cmp_eql, ieq_t (by rfl)]
theorem sm4_loop (ls : List (List UInt8)) (hn : ls.length ≤ 1000) : ∀ (n j : Nat), j + n = ls.length → Y E0 (.loop 8 0 0 0 [(0, .sl (.sl .u8) ls), (3, .i (j : Int))] []) = if ∀ l ∈ ls.drop j, l.length ≤ 120 then some (.fin (.exit 0) 0 [] []) else some (.fin .ret 0 [(2, .b false)] [])
  | 0, j, hj => by
    rw [if_pos (by rw [List.drop_eq_nil_of_le (by omega)]; simp)]
    rw [Y_go]; conv => lhs; whnf
    rw [ilt_f (by (simp only [uintB_l2, uintB_l1, blobB_l, tagB_len, macB_len, fr1_len, fr2_len, fr3_len, LL] at * <;> omega))]
    conv => lhs; whnf
  | n + 1, j, hj => by
    have ih := sm4_loop ls hn n (j + 1) (by omega)
    have hd := List.drop_eq_getElem_cons (l := ls) (i := j) (by omega)
    rw [hd]
    have hg : lget ls (j : Int) = some (ls[j]'(by omega)) := lget_n (by omega)
    generalize ls[j]'(by omega) = x at *
    clear hd
    have hj2 : (j : Int) < llen ls := by rw [llen_eq]; omega
    by_cases hx : x.length ≤ 120
    · by_cases ht : ∀ l ∈ ls.drop (j + 1), l.length ≤ 120
      · rw [if_pos ht] at ih
        rw [if_pos (by simpa [hx] using ht)]
        rw [Y_go]; conv => lhs; whnf
        rw [ilt_t (by omega)]
        conv => lhs; whnf
        rw [hg]; conv => lhs; whnf
        rw [ilt_f (by (simp only [uintB_l2, uintB_l1, blobB_l, tagB_len, macB_len, fr1_len, fr2_len, fr3_len, LL] at * <;> omega))]
        conv => lhs; whnf
        dsimp -iota -beta -eta -zeta only
        rw [iadd_eq (by omega)]
        refine (congrArg (Y E0) ?_).trans ih; (try simp only [Rq.loop.injEq, Rq.call.injEq, Rq.ops.injEq, List.cons.injEq, Prod.mk.injEq, AV.i.injEq, AV.sl.injEq, AV.st.injEq, AV.b.injEq, AV.u8.injEq, AV.nm.injEq, Option.some.injEq, Rs.row.injEq, Rs.var.injEq, heq_eq_eq, true_and, and_true]); (try (repeat' apply And.intro)); all_goals first | (with_reducible rfl) | omega | (rw [iadd_eq (by omega)]; omega) | (rw [isub_eq (by omega)]; omega)
      · rw [if_neg ht] at ih
        rw [if_neg (by simpa [hx] using ht)]
        rw [Y_go]; conv => lhs; whnf
        rw [ilt_t (by omega)]
        conv => lhs; whnf
        rw [hg]; conv => lhs; whnf
        rw [ilt_f (by (simp only [uintB_l2, uintB_l1, blobB_l, tagB_len, macB_len, fr1_len, fr2_len, fr3_len, LL] at * <;> omega))]
        conv => lhs; whnf
        dsimp -iota -beta -eta -zeta only
        rw [iadd_eq (by omega)]
        refine (congrArg (Y E0) ?_).trans ih; (try simp only [Rq.loop.injEq, Rq.call.injEq, Rq.ops.injEq, List.cons.injEq, Prod.mk.injEq, AV.i.injEq, AV.sl.injEq, AV.st.injEq, AV.b.injEq, AV.u8.injEq, AV.nm.injEq, Option.some.injEq, Rs.row.injEq, Rs.var.injEq, heq_eq_eq, true_and, and_true]); (try (repeat' apply And.intro)); all_goals first | (with_reducible rfl) | omega | (rw [iadd_eq (by omega)]; omega) | (rw [isub_eq (by omega)]; omega)
    · rw [if_neg (by intro h; exact hx (h x (by simp)))]
      clear ih
      rw [Y_go]; conv => lhs; whnf
      rw [ilt_t (by omega)]
      conv => lhs; whnf
      rw [hg]; conv => lhs; whnf
      rw [ilt_t (by (simp only [uintB_l2, uintB_l1, blobB_l, tagB_len, macB_len, fr1_len, fr2_len, fr3_len, LL] at * <;> omega))]
      conv => lhs; whnf
theorem sm4_all (ls : List (List UInt8)) (hn : ls.length ≤ 1000) : Y E0 (.call 8 [.sl (.sl .u8) ls] []) = some (.ret (.b (decide (∀ l ∈ ls, l.length ≤ 120))) []) := by
  have hl := sm4_loop ls hn ls.length 0 (by omega)
  rw [List.drop_zero, show ((0 : Nat) : Int) = 0 from rfl] at hl
  by_cases h : ∀ l ∈ ls, l.length ≤ 120
  · rw [if_pos h] at hl
    rw [decide_eq_true h]
    rw [Y_go]; conv => lhs; whnf
    dsimp -iota -beta -eta -zeta only
    rw [toReq_loop]
    rw [hl]
    conv => lhs; whnf
  · rw [if_neg h] at hl
    rw [decide_eq_false h]
    rw [Y_go]; conv => lhs; whnf
    dsimp -iota -beta -eta -zeta only
    rw [toReq_loop]
    rw [hl]
    conv => lhs; whnf
theorem ev_small4_4 (a b c d : List UInt8) : Y E0 (.call 8 [.sl (.sl .u8) [a, b, c, d]] []) = some (.ret (.b (decide (a.length ≤ 120 ∧ b.length ≤ 120 ∧ c.length ≤ 120 ∧ d.length ≤ 120))) []) := by
  rw [sm4_all _ (by simp)]
  exact congrArg (fun b => some (Rsp.ret (AV.b b) [])) (decide_eq_decide.2 (by simp))
end Go.Proofs.YtfjcmolccckhhaaDoor

namespace Go.Ax
open Go.Eng
theorem tlk_app : ∀ (A B : TT) (t : Nat) (i : TI), tlk t (A ++ B) = some i → tlk t A = some i ∨ tlk t B = some i
  | [], B, t, i, h => .inr h
  | (d, v) :: A, B, t, i, h => by
    simp only [List.cons_append, tlk] at h ⊢
    cases hb : Nat.beq t d with
    | true => rw [hb] at h; exact .inl h
    | false => rw [hb] at h; exact tlk_app A B t i h
theorem tlk_one : ∀ (A : TT) (t : Nat) (i : TI), tlk t (A.take 1) = some i → tlk t A = some i
  | [], t, i, h => by cases h
  | (d, v) :: A, t, i, h => by
    simp only [List.take_succ_cons, List.take_zero, tlk] at h ⊢
    cases hb : Nat.beq t d with
    | true => rw [hb] at h; exact h
    | false => rw [hb] at h; cases h
end Go.Ax
namespace Go.Proofs.YtfjcmolccckhhaaDoor
open Go Go.Ax Go.Eng Go.RowKit
set_option linter.unusedVariables false
noncomputable def ovT : Orc := fun q => match q with
  | .call f args H => bif Nat.beq f 3 then none else F E0 (.call f args H)
  | .loop _ _ _ _ _ _ => none
noncomputable def E1 : Env := ⟨TT0 ++ TT0.take 1, FT0, CT0, ovT⟩
theorem e1 : EnvOK Tryd.prog I0 E1 := by
  refine ⟨fun t i h => ?_, ft0, ct0.get, by kernel_rfl, fun q r h => ?_⟩
  · rcases tlk_app _ _ t i h with h | h
    · exact tt0 t i h
    · exact tt0 t i (tlk_one _ t i h)
  · cases q with
    | loop f k n0 m L H => cases h
    | call f args H =>
      have h : (bif Nat.beq f 3 then none else F E0 (.call f args H)) = some r := h
      cases hb : Nat.beq f 3 with
      | true => rw [hb] at h; cases h
      | false =>
        rw [hb] at h
        have := F_ok e0 _ _ h
        cases r with
        | ret s H' => exact this
        | fin e m L H' => trivial
theorem lift {f : Nat} {args : List AV} {H : List Rs} {r : Rsp} (h : Y E0 (.call f args H) = some r) (hf : Nat.beq f 3 = false) : Y E1 (.call f args H) = some r := by
  have hF : F E0 (.call f args H) = some r := Y_den _ _ h
  have ho : E1.ov (.call f args H) = some r := by
    show (bif Nat.beq f 3 then none else F E0 (.call f args H)) = some r
    rw [hf]; exact hF
  rw [Y.eq_1]; simp only [bodyY]; rw [ho]
end Go.Proofs.YtfjcmolccckhhaaDoor
