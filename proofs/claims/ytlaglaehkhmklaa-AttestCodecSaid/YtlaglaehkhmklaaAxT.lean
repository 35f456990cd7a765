/-
  Own text, printed by axgen.sh: the tables of the abstract machine for this program, checked.
-/
import Derived.Test.YtlaglaehkhmklaaAxO
import Derived.Test.YtlaglaehkhmklaaProg
namespace Go.Proofs.Ytlaglaehkhmklaa
open Go Go.RowKit Go.Eng Go.Ax
/-! functions: 3 sealwright/sealwrightlaw16.AttestCodec, 4 sealwright/sealwrightlaw16.AttestDecode, 5 sealwright/sealwrightlaw16.awake, 6 sealwright/sealwrightlaw16.few, 7 sealwright/sealwrightlaw16.valid, 8 sealwright/attest.Encode, 9 sealwright/attest.Decode, 11 sealwright/sealwrightref16.Encode, 10 sealwright/sealwrightref1.Same, 12 sealwright/sealwrightref16.Same, 13 sealwright/sealwrightref16.Decode, 14 sealwright/sealwrightdraw.Seed, 15 sealwright/sealwrightdraw.Cut, 16 sealwright/wire.Blob, 17 sealwright/wire.Uint, 18 sealwright/wire.New, 19 (*sealwright/wire.Reader).Raw, 20 (*sealwright/wire.Reader).Err, 21 (*sealwright/wire.Reader).Blob, 22 (*sealwright/wire.Reader).Uint, 23 (*sealwright/wire.Reader).End, 25 sealwright/sealwrightref16.magic, 24 sealwright/sealwrightref3.Blob, 26 sealwright/sealwrightref3.Uint, 27 sealwright/sealwrightref3.New, 28 (*sealwright/sealwrightref3.Reader).Raw, 29 (*sealwright/sealwrightref3.Reader).Blob, 30 (*sealwright/sealwrightref3.Reader).Uint, 31 (*sealwright/sealwrightref3.Reader).End, 32 (*sealwright/wire.Reader).fail, 33 (*sealwright/wire.Reader).take, 34 (*sealwright/wire.Reader).Left, 35 (*sealwright/sealwrightref3.Reader).need, 36 (*sealwright/sealwrightref3.Reader).Left -/
def TT0 : TT := [
  (26, ⟨(.fld [(0, 1), (1, 1), (2, 1), (3, 1), (4, 1), (5, 1), (6, 1), (7, 2), (9, 1)] [true, true, true, true, true, true, true, false, true]), 10, 128, [.nil, .nil, .i 0, .i 0, .i 0, .b false, .i 0, .i 0, .i 0, .nil], some (.pair (.sl .u8) (.pair (.sl .u8) (.pair .i64 (.pair .i64 (.pair .i64 (.pair .bool (.pair .i64 (.pair (.pair .i64 .i64) (.sl .u8))))))))), false⟩),
  (4, ⟨.bool, 1, 1, [.b false], some .bool, false⟩),
  (22, ⟨(.sl 5), 1, 24, [.nil], some (.sl .u8), false⟩),
  (31, ⟨.i64, 1, 8, [.i 0], some .i64, false⟩),
  (3, ⟨.i64, 1, 8, [.i 0], some .i64, false⟩),
  (5, ⟨.u8, 1, 1, [.u8 0], some .u8, false⟩),
  (24, ⟨(.arr 2 3), 2, 16, [.i 0, .i 0], some (.pair .i64 .i64), true⟩),
  (41, ⟨(.ptr 54), 1, 8, [.un], none, false⟩),
  (9, ⟨.str, 1, 16, [.str []], some .str, false⟩),
  (47, ⟨(.ptr 50), 1, 8, [.un], none, false⟩),
  (50, ⟨(.fld [(0, 1), (1, 1), (2, 1)] [true, true, true]), 3, 40, [.nil, .i 0, .i 0], some (.pair (.sl .u8) (.pair .i64 .i64)), false⟩),
  (51, ⟨.u64, 1, 8, [.u64 0], some .u64, false⟩),
  (52, ⟨.u64, 1, 8, [.u64 0], some .u64, false⟩),
  (54, ⟨(.fld [(0, 1), (1, 1), (2, 1)] [true, true, true]), 3, 40, [.nil, .i 0, .i 0], some (.pair (.sl .u8) (.pair .i64 .i64)), false⟩)]
def FT0 : FT := [
  (3, ⟨[some (.pair (.sl .u8) (.pair (.sl .u8) (.pair .i64 (.pair .i64 (.pair .i64 (.pair .bool (.pair .i64 (.pair (.pair .i64 .i64) (.sl .u8)))))))))], [some .bool], false, false, []⟩),
  (4, ⟨[some (.pair (.sl .u8) (.pair (.sl .u8) (.pair .i64 (.pair .i64 (.pair .i64 (.pair .bool (.pair .i64 (.pair (.pair .i64 .i64) (.sl .u8))))))))), some .i64, some .u8, some .i64, some (.sl .u8)], [some .bool], false, false, []⟩),
  (5, ⟨[], [some .bool], false, false, []⟩),
  (6, ⟨[some (.pair (.sl .u8) (.pair (.sl .u8) (.pair .i64 (.pair .i64 (.pair .i64 (.pair .bool (.pair .i64 (.pair (.pair .i64 .i64) (.sl .u8)))))))))], [some .bool], false, false, []⟩),
  (7, ⟨[some (.pair (.sl .u8) (.pair (.sl .u8) (.pair .i64 (.pair .i64 (.pair .i64 (.pair .bool (.pair .i64 (.pair (.pair .i64 .i64) (.sl .u8)))))))))], [some (.pair (.sl .u8) (.pair (.sl .u8) (.pair .i64 (.pair .i64 (.pair .i64 (.pair .bool (.pair .i64 (.pair (.pair .i64 .i64) (.sl .u8)))))))))], false, false, []⟩),
  (8, ⟨[some (.pair (.sl .u8) (.pair (.sl .u8) (.pair .i64 (.pair .i64 (.pair .i64 (.pair .bool (.pair .i64 (.pair (.pair .i64 .i64) (.sl .u8)))))))))], [some (.sl .u8)], false, false, [([1, 3, 37, 38], [1, 3])]⟩),
  (9, ⟨[some (.sl .u8)], [some (.pair (.sl .u8) (.pair (.sl .u8) (.pair .i64 (.pair .i64 (.pair .i64 (.pair .bool (.pair .i64 (.pair (.pair .i64 .i64) (.sl .u8))))))))), some .i64], false, false, [([2, 4, 6, 43, 66, 67], [2, 4, 6, 66, 67])]⟩),
  (11, ⟨[some (.pair (.sl .u8) (.pair (.sl .u8) (.pair .i64 (.pair .i64 (.pair .i64 (.pair .bool (.pair .i64 (.pair (.pair .i64 .i64) (.sl .u8)))))))))], [none], true, false, []⟩),
  (10, ⟨[some (.sl .u8), some (.sl .u8)], [some .bool], false, false, [([0, 1, 5], [4])]⟩),
  (12, ⟨[some (.pair (.sl .u8) (.pair (.sl .u8) (.pair .i64 (.pair .i64 (.pair .i64 (.pair .bool (.pair .i64 (.pair (.pair .i64 .i64) (.sl .u8))))))))), some (.pair (.sl .u8) (.pair (.sl .u8) (.pair .i64 (.pair .i64 (.pair .i64 (.pair .bool (.pair .i64 (.pair (.pair .i64 .i64) (.sl .u8)))))))))], [some .bool], false, false, []⟩),
  (13, ⟨[some (.sl .u8)], [some (.pair (.sl .u8) (.pair (.sl .u8) (.pair .i64 (.pair .i64 (.pair .i64 (.pair .bool (.pair .i64 (.pair (.pair .i64 .i64) (.sl .u8))))))))), some .i64], false, false, []⟩),
  (14, ⟨[some (.sl .u8)], [some (.sl .u8)], false, false, []⟩),
  (15, ⟨[some (.sl .u8), some .i64], [some (.sl .u8)], false, false, []⟩),
  (16, ⟨[some (.sl .u8), some (.sl .u8)], [none], true, false, []⟩),
  (17, ⟨[some (.sl .u8), some .i64, some .i64], [none], true, false, [([2, 7, 8], [7])]⟩),
  (18, ⟨[some (.sl .u8)], [none], false, false, []⟩),
  (19, ⟨[none, some .i64], [some (.sl .u8)], false, false, []⟩),
  (20, ⟨[none], [some .i64], false, false, []⟩),
  (21, ⟨[none, some .i64], [some (.sl .u8)], false, false, []⟩),
  (22, ⟨[none, some .i64], [some .i64], false, false, [([0, 1, 7, 38, 39, 40], [0, 1, 7])]⟩),
  (23, ⟨[none], [some .i64], false, false, []⟩),
  (25, ⟨[], [some (.sl .u8)], false, false, []⟩),
  (24, ⟨[some (.sl .u8), some (.sl .u8)], [none], true, false, []⟩),
  (26, ⟨[some (.sl .u8), some .i64, some .i64], [none], true, false, [([2, 7, 8], [7])]⟩),
  (27, ⟨[some (.sl .u8)], [none], false, false, []⟩),
  (28, ⟨[none, some .i64], [some (.sl .u8)], false, false, []⟩),
  (29, ⟨[none, some .i64], [some (.sl .u8)], false, false, []⟩),
  (30, ⟨[none, some .i64], [some .i64], false, false, [([0, 1, 5, 6], [0, 1, 5])]⟩),
  (31, ⟨[none], [some .i64], false, false, []⟩),
  (32, ⟨[none, some .i64], [], false, false, []⟩),
  (33, ⟨[none, some .i64, some .i64], [some (.sl .u8), some .i64], false, false, []⟩),
  (34, ⟨[none], [some .i64], false, false, []⟩),
  (35, ⟨[none, some .i64], [some .bool], false, false, []⟩),
  (36, ⟨[none], [some .i64], false, false, []⟩)]
noncomputable def CT0 : CT := [(3, Try.f3), (4, Try.f4), (5, Try.f5), (6, Try.f6), (7, Try.f7), (8, Try.f8), (9, Try.f9), (11, Try.f11), (10, Try.f10), (12, Try.f12), (13, Try.f13), (14, Try.f14), (15, Try.f15), (16, Try.f16), (17, Try.f17), (18, Try.f18), (19, Try.f19), (20, Try.f20), (21, Try.f21), (22, Try.f22), (23, Try.f23), (25, Try.f25), (24, Try.f24), (26, Try.f26), (27, Try.f27), (28, Try.f28), (29, Try.f29), (30, Try.f30), (31, Try.f31), (32, Try.f32), (33, Try.f33), (34, Try.f34), (35, Try.f35), (36, Try.f36)]
theorem ct0 : CTok Try.prog CT0 := .cons Try.func3 (.cons Try.func4 (.cons Try.func5 (.cons Try.func6 (.cons Try.func7 (.cons Try.func8 (.cons Try.func9 (.cons Try.func11 (.cons Try.func10 (.cons Try.func12 (.cons Try.func13 (.cons Try.func14 (.cons Try.func15 (.cons Try.func16 (.cons Try.func17 (.cons Try.func18 (.cons Try.func19 (.cons Try.func20 (.cons Try.func21 (.cons Try.func22 (.cons Try.func23 (.cons Try.func25 (.cons Try.func24 (.cons Try.func26 (.cons Try.func27 (.cons Try.func28 (.cons Try.func29 (.cons Try.func30 (.cons Try.func31 (.cons Try.func32 (.cons Try.func33 (.cons Try.func34 (.cons Try.func35 (.cons Try.func36 (.nil))))))))))))))))))))))))))))))))))
theorem ft0 : FTok Try.prog FT0 := FTok_of (.cons (Ent.mk Try.func3 (by kernel_rfl) rfl) (.cons (Ent.mk Try.func4 (by kernel_rfl) rfl) (.cons (Ent.mk Try.func5 (by kernel_rfl) rfl) (.cons (Ent.mk Try.func6 (by kernel_rfl) rfl) (.cons (Ent.mk Try.func7 (by kernel_rfl) rfl) (.cons (Ent.mk Try.func8 (by kernel_rfl) rfl) (.cons (Ent.mk Try.func9 (by kernel_rfl) rfl) (.cons (Ent.mk Try.func11 (by kernel_rfl) rfl) (.cons (Ent.mk Try.func10 (by kernel_rfl) rfl) (.cons (Ent.mk Try.func12 (by kernel_rfl) rfl) (.cons (Ent.mk Try.func13 (by kernel_rfl) rfl) (.cons (Ent.mk Try.func14 (by kernel_rfl) rfl) (.cons (Ent.mk Try.func15 (by kernel_rfl) rfl) (.cons (Ent.mk Try.func16 (by kernel_rfl) rfl) (.cons (Ent.mk Try.func17 (by kernel_rfl) rfl) (.cons (Ent.mk Try.func18 (by kernel_rfl) rfl) (.cons (Ent.mk Try.func19 (by kernel_rfl) rfl) (.cons (Ent.mk Try.func20 (by kernel_rfl) rfl) (.cons (Ent.mk Try.func21 (by kernel_rfl) rfl) (.cons (Ent.mk Try.func22 (by kernel_rfl) rfl) (.cons (Ent.mk Try.func23 (by kernel_rfl) rfl) (.cons (Ent.mk Try.func25 (by kernel_rfl) rfl) (.cons (Ent.mk Try.func24 (by kernel_rfl) rfl) (.cons (Ent.mk Try.func26 (by kernel_rfl) rfl) (.cons (Ent.mk Try.func27 (by kernel_rfl) rfl) (.cons (Ent.mk Try.func28 (by kernel_rfl) rfl) (.cons (Ent.mk Try.func29 (by kernel_rfl) rfl) (.cons (Ent.mk Try.func30 (by kernel_rfl) rfl) (.cons (Ent.mk Try.func31 (by kernel_rfl) rfl) (.cons (Ent.mk Try.func32 (by kernel_rfl) rfl) (.cons (Ent.mk Try.func33 (by kernel_rfl) rfl) (.cons (Ent.mk Try.func34 (by kernel_rfl) rfl) (.cons (Ent.mk Try.func35 (by kernel_rfl) rfl) (.cons (Ent.mk Try.func36 (by kernel_rfl) rfl) (.nil)))))))))))))))))))))))))))))))))))
theorem tt0 : TTok Try.prog TT0 := ttB_ok (by kernel_rfl)
noncomputable def E0 : Env := ⟨TT0, FT0, CT0, fun _ => none⟩
theorem e0 (I : World → Prop) : EnvOK Try.prog I E0 := ⟨tt0, ft0, ct0.get, by kernel_rfl, fun _ _ h => by cases h⟩
end Go.Proofs.Ytlaglaehkhmklaa
