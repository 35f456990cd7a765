/-
  Own texts, laid together for this claim: contracts of functions of the program and its references, used by the statements of this seat.
-/
import Derived.Test.YtlaglaehkhmklaaProg
import Derived.Test.YtlaglaehkhmklaaRows
import Derived.WalkKit
import Derived.ProofKit
import Derived.OpenShut
import Derived.Carry
import Derived.ChangeSlices
import Derived.Deep.DeepHandedRow
import Derived.Lib.LaidTab
import Derived.Test.YtlaglaehkhmklaaMgd
/-
  Own text, printed by axgen.sh: the tables of the abstract machine for this program, checked.
-/
namespace Go.Proofs.Ytlaglaehkhmklaa
open Go Go.RowKit Go.Eng Go.Ax
/-! functions: 3 sealwright/sealwrightlaw16.AttestCodec, 4 sealwright/sealwrightlaw16.AttestDecode, 5 sealwright/sealwrightlaw16.awake, 6 sealwright/sealwrightlaw16.few, 7 sealwright/sealwrightlaw16.valid, 8 sealwright/attest.Encode, 9 sealwright/attest.Decode, 11 sealwright/sealwrightref16.Encode, 10 sealwright/sealwrightref1.Same, 12 sealwright/sealwrightref16.Same, 13 sealwright/sealwrightref16.Decode, 14 sealwright/sealwrightdraw.Seed, 15 sealwright/sealwrightdraw.Cut, 16 sealwright/wire.Blob, 17 sealwright/wire.Uint, 18 sealwright/wire.New, 19 (*sealwright/wire.Reader).Raw, 20 (*sealwright/wire.Reader).Err, 21 (*sealwright/wire.Reader).Blob, 22 (*sealwright/wire.Reader).Uint, 23 (*sealwright/wire.Reader).End, 25 sealwright/sealwrightref16.magic, 24 sealwright/sealwrightref3.Blob, 26 sealwright/sealwrightref3.Uint, 27 sealwright/sealwrightref3.New, 28 (*sealwright/sealwrightref3.Reader).Raw, 29 (*sealwright/sealwrightref3.Reader).Blob, 30 (*sealwright/sealwrightref3.Reader).Uint, 31 (*sealwright/sealwrightref3.Reader).End, 32 (*sealwright/wire.Reader).fail, 33 (*sealwright/wire.Reader).take, 34 (*sealwright/wire.Reader).Left, 35 (*sealwright/sealwrightref3.Reader).need, 36 (*sealwright/sealwrightref3.Reader).Left -/
def TT0 : TT := [
  (26, ⟨(.fld [(0, 1), (1, 1), (2, 1), (3, 1), (4, 1), (5, 1), (6, 1), (7, 2), (9, 1)] [true, true, true, true, true, true, true, false, true]), 10, 128, [.nil, .nil, .i 0, .i 0, .i 0, .b false, .i 0, .i 0, .i 0, .nil], some (.pair (.sl .u8) (.pair (.sl .u8) (.pair .i64 (.pair .i64 (.pair .i64 (.pair .bool (.pair .i64 (.pair (.pair .i64 .i64) (.sl .u8))))))))), false⟩),
  (4, ⟨.bool, 1, 1, [.b false], some .bool, false⟩),
  (22, ⟨(.sl 5), 1, 24, [.nil], some (.sl .u8), false⟩),
  (31, ⟨.i64, 1, 8, [.i 0], some .i64, false⟩),
  (3, ⟨.i64, 1, 8, [.i 0], some .i64, false⟩),
  (5, ⟨.u8, 1, 1, [.u8 0], some .u8, false⟩),
  (24, ⟨(.arr 2 3), 2, 16, [.i 0, .i 0], some (.pair .i64 .i64), true⟩),
  (41, ⟨(.ptr 54), 1, 8, [.un], none, false⟩),
  (9, ⟨.str, 1, 16, [.str []], some .str, false⟩),
  (47, ⟨(.ptr 50), 1, 8, [.un], none, false⟩),
  (50, ⟨(.fld [(0, 1), (1, 1), (2, 1)] [true, true, true]), 3, 40, [.nil, .i 0, .i 0], some (.pair (.sl .u8) (.pair .i64 .i64)), false⟩),
  (51, ⟨.u64, 1, 8, [.u64 0], some .u64, false⟩),
  (52, ⟨.u64, 1, 8, [.u64 0], some .u64, false⟩),
  (54, ⟨(.fld [(0, 1), (1, 1), (2, 1)] [true, true, true]), 3, 40, [.nil, .i 0, .i 0], some (.pair (.sl .u8) (.pair .i64 .i64)), false⟩)]
def FT0 : FT := [
  (3, ⟨[some (.pair (.sl .u8) (.pair (.sl .u8) (.pair .i64 (.pair .i64 (.pair .i64 (.pair .bool (.pair .i64 (.pair (.pair .i64 .i64) (.sl .u8)))))))))], [some .bool], false, false, [], [(1, ⟨some [], [], none, false⟩), (3, ⟨some [], [], none, false⟩), (5, ⟨some [], [], none, false⟩), (6, ⟨some [], [], none, false⟩), (7, ⟨some [], [], none, false⟩), (8, ⟨some [], [], none, false⟩)], ⟨none, [], none, false⟩, false⟩),
  (4, ⟨[some (.pair (.sl .u8) (.pair (.sl .u8) (.pair .i64 (.pair .i64 (.pair .i64 (.pair .bool (.pair .i64 (.pair (.pair .i64 .i64) (.sl .u8))))))))), some .i64, some .u8, some .i64, some (.sl .u8)], [some .bool], false, false, [], [(1, ⟨some [], [], none, false⟩), (3, ⟨some [], [], none, false⟩), (5, ⟨some [], [], none, false⟩), (8, ⟨some [], [], some [3, 4, 11], true⟩), (10, ⟨some [], [], some [4, 11], true⟩), (11, ⟨some [], [], none, false⟩), (12, ⟨some [], [], none, false⟩), (13, ⟨some [], [], none, false⟩), (14, ⟨some [], [], none, false⟩)], ⟨none, [], none, false⟩, false⟩),
  (5, ⟨[], [some .bool], false, false, [], [(1, ⟨some [], [], none, false⟩), (2, ⟨some [], [], none, false⟩), (3, ⟨some [], [], none, false⟩)], ⟨none, [], none, false⟩, false⟩),
  (6, ⟨[some (.pair (.sl .u8) (.pair (.sl .u8) (.pair .i64 (.pair .i64 (.pair .i64 (.pair .bool (.pair .i64 (.pair (.pair .i64 .i64) (.sl .u8)))))))))], [some .bool], false, false, [], [], ⟨none, [], none, false⟩, false⟩),
  (7, ⟨[some (.pair (.sl .u8) (.pair (.sl .u8) (.pair .i64 (.pair .i64 (.pair .i64 (.pair .bool (.pair .i64 (.pair (.pair .i64 .i64) (.sl .u8)))))))))], [some (.pair (.sl .u8) (.pair (.sl .u8) (.pair .i64 (.pair .i64 (.pair .i64 (.pair .bool (.pair .i64 (.pair (.pair .i64 .i64) (.sl .u8)))))))))], false, false, [], [(2, ⟨some [], [], none, false⟩)], ⟨none, [], none, false⟩, false⟩),
  (8, ⟨[some (.pair (.sl .u8) (.pair (.sl .u8) (.pair .i64 (.pair .i64 (.pair .i64 (.pair .bool (.pair .i64 (.pair (.pair .i64 .i64) (.sl .u8)))))))))], [some (.sl .u8)], false, false, [(⟨some [3], [(3, 5, .u8)], some [1, 3, 37, 38], false⟩, ⟨some [3], [(3, 5, .u8)], some [1, 3], false⟩)], [(1, ⟨some [], [], none, false⟩), (2, ⟨some [], [], none, false⟩), (3, ⟨some [], [], none, false⟩), (4, ⟨some [], [], none, false⟩), (8, ⟨some [], [], some [1, 3, 4], true⟩), (9, ⟨some [], [], none, false⟩), (13, ⟨some [], [], none, false⟩)], ⟨none, [], none, false⟩, false⟩),
  (9, ⟨[some (.sl .u8)], [some (.pair (.sl .u8) (.pair (.sl .u8) (.pair .i64 (.pair .i64 (.pair .i64 (.pair .bool (.pair .i64 (.pair (.pair .i64 .i64) (.sl .u8))))))))), some .i64], false, false, [(⟨some [], [], some [2, 4, 6, 43], false⟩, ⟨some [], [], some [2, 4, 6], false⟩)], [(1, ⟨some [], [], none, false⟩), (2, ⟨some [], [], none, false⟩), (3, ⟨some [], [], none, false⟩), (4, ⟨some [], [], none, false⟩), (7, ⟨some [], [], none, false⟩), (8, ⟨some [], [], none, false⟩), (9, ⟨some [], [], none, false⟩), (10, ⟨some [], [], none, false⟩), (11, ⟨some [], [], none, false⟩), (12, ⟨some [], [], none, false⟩), (13, ⟨some [], [], none, false⟩), (17, ⟨some [], [], none, false⟩), (19, ⟨some [], [], none, false⟩), (20, ⟨some [], [], none, false⟩)], ⟨none, [], none, false⟩, false⟩),
  (11, ⟨[some (.pair (.sl .u8) (.pair (.sl .u8) (.pair .i64 (.pair .i64 (.pair .i64 (.pair .bool (.pair .i64 (.pair (.pair .i64 .i64) (.sl .u8)))))))))], [none], true, false, [], [(1, ⟨some [], [], none, false⟩), (2, ⟨some [], [], none, false⟩), (6, ⟨some [3], [(3, 5, .u8)], some [1, 3, 4], true⟩), (7, ⟨some [], [], none, false⟩)], ⟨none, [(2, 5, .u8)], none, false⟩, false⟩),
  (10, ⟨[some (.sl .u8), some (.sl .u8)], [some .bool], false, false, [(⟨some [], [], some [0, 1, 5], false⟩, ⟨some [], [], some [4], false⟩)], [], ⟨none, [], none, false⟩, false⟩),
  (12, ⟨[some (.pair (.sl .u8) (.pair (.sl .u8) (.pair .i64 (.pair .i64 (.pair .i64 (.pair .bool (.pair .i64 (.pair (.pair .i64 .i64) (.sl .u8))))))))), some (.pair (.sl .u8) (.pair (.sl .u8) (.pair .i64 (.pair .i64 (.pair .i64 (.pair .bool (.pair .i64 (.pair (.pair .i64 .i64) (.sl .u8)))))))))], [some .bool], false, false, [], [(1, ⟨some [], [], none, false⟩)], ⟨none, [], none, false⟩, false⟩),
  (13, ⟨[some (.sl .u8)], [some (.pair (.sl .u8) (.pair (.sl .u8) (.pair .i64 (.pair .i64 (.pair .i64 (.pair .bool (.pair .i64 (.pair (.pair .i64 .i64) (.sl .u8))))))))), some .i64], false, false, [], [(1, ⟨some [], [], none, false⟩), (2, ⟨some [], [], none, false⟩), (5, ⟨some [], [], none, false⟩), (8, ⟨some [], [], none, false⟩), (9, ⟨some [], [], none, false⟩), (10, ⟨some [], [], none, false⟩), (11, ⟨some [], [], none, false⟩), (12, ⟨some [], [], none, false⟩), (13, ⟨some [], [], none, false⟩), (14, ⟨some [], [], none, false⟩), (15, ⟨some [], [], none, false⟩), (16, ⟨some [], [], none, false⟩), (17, ⟨some [], [], none, false⟩), (18, ⟨some [], [], none, false⟩)], ⟨none, [], none, false⟩, false⟩),
  (14, ⟨[some (.sl .u8)], [some (.sl .u8)], false, false, [], [], ⟨none, [], none, false⟩, false⟩),
  (15, ⟨[some (.sl .u8), some .i64], [some (.sl .u8)], false, false, [], [], ⟨none, [], none, false⟩, false⟩),
  (16, ⟨[some (.sl .u8), some (.sl .u8)], [none], true, false, [], [(2, ⟨some [], [], none, false⟩)], ⟨none, [(4, 5, .u8)], none, false⟩, false⟩),
  (17, ⟨[some (.sl .u8), some .i64, some .i64], [none], true, false, [(⟨some [7], [(7, 5, .u8)], some [2, 7, 8], false⟩, ⟨some [7], [(7, 5, .u8)], some [7], false⟩)], [], ⟨none, [(6, 5, .u8)], none, false⟩, false⟩),
  (18, ⟨[some (.sl .u8)], [none], false, false, [], [], ⟨none, [], none, false⟩, false⟩),
  (19, ⟨[none, some .i64], [some (.sl .u8)], false, false, [], [(4, ⟨some [], [], none, false⟩), (6, ⟨some [], [], none, false⟩), (8, ⟨some [], [], none, false⟩)], ⟨none, [], none, false⟩, false⟩),
  (20, ⟨[none], [some .i64], false, false, [], [], ⟨none, [], none, false⟩, false⟩),
  (21, ⟨[none, some .i64], [some (.sl .u8)], false, false, [], [(4, ⟨some [], [], none, false⟩), (6, ⟨some [], [], none, false⟩), (10, ⟨some [], [], none, false⟩), (12, ⟨some [], [], none, false⟩), (14, ⟨some [], [], none, false⟩)], ⟨none, [], none, false⟩, false⟩),
  (22, ⟨[none, some .i64], [some .i64], false, false, [(⟨some [], [], some [0, 1, 7, 38, 39, 40], false⟩, ⟨some [], [], some [0, 1, 7], false⟩)], [(4, ⟨some [], [], none, false⟩), (6, ⟨some [], [], none, false⟩), (8, ⟨some [], [], none, false⟩), (17, ⟨some [], [], none, false⟩)], ⟨none, [], none, false⟩, false⟩),
  (23, ⟨[none], [some .i64], false, false, [], [(1, ⟨some [], [], none, false⟩)], ⟨none, [], none, false⟩, false⟩),
  (25, ⟨[], [some (.sl .u8)], false, false, [], [], ⟨none, [], none, false⟩, false⟩),
  (24, ⟨[some (.sl .u8), some (.sl .u8)], [none], true, false, [], [(3, ⟨some [], [], some [0, 1], true⟩)], ⟨none, [(4, 5, .u8)], none, false⟩, false⟩),
  (26, ⟨[some (.sl .u8), some .i64, some .i64], [none], true, false, [(⟨some [7], [(7, 5, .u8)], some [2, 7, 8], false⟩, ⟨some [7], [(7, 5, .u8)], some [7], false⟩)], [], ⟨none, [(6, 5, .u8)], none, false⟩, false⟩),
  (27, ⟨[some (.sl .u8)], [none], false, false, [], [], ⟨none, [], none, false⟩, false⟩),
  (28, ⟨[none, some .i64], [some (.sl .u8)], false, false, [], [(3, ⟨some [], [], some [0, 1], true⟩)], ⟨none, [], none, false⟩, false⟩),
  (29, ⟨[none, some .i64], [some (.sl .u8)], false, false, [], [(1, ⟨some [], [], none, false⟩), (7, ⟨some [], [], none, false⟩)], ⟨none, [], none, false⟩, false⟩),
  (30, ⟨[none, some .i64], [some .i64], false, false, [(⟨some [], [], some [0, 1, 5, 6], false⟩, ⟨some [], [], some [0, 1, 5], false⟩)], [(3, ⟨some [], [], some [0, 1], true⟩)], ⟨none, [], none, false⟩, false⟩),
  (31, ⟨[none], [some .i64], false, false, [], [(1, ⟨some [], [], none, false⟩)], ⟨none, [], none, false⟩, false⟩),
  (32, ⟨[none, some .i64], [], false, false, [], [], ⟨none, [], none, false⟩, false⟩),
  (33, ⟨[none, some .i64, some .i64], [some (.sl .u8), some .i64], false, false, [], [], ⟨none, [], none, false⟩, false⟩),
  (34, ⟨[none], [some .i64], false, false, [], [], ⟨none, [], none, false⟩, false⟩),
  (35, ⟨[none, some .i64], [some .bool], false, false, [], [(3, ⟨some [], [], some [0], true⟩)], ⟨none, [], none, false⟩, false⟩),
  (36, ⟨[none], [some .i64], false, false, [], [], ⟨none, [], none, false⟩, false⟩)]
noncomputable def CT0 : CT := [(3, Try.f3), (4, Try.f4), (5, Try.f5), (6, Try.f6), (7, Try.f7), (8, Try.f8), (9, Try.f9), (11, Try.f11), (10, Try.f10), (12, Try.f12), (13, Try.f13), (14, Try.f14), (15, Try.f15), (16, Try.f16), (17, Try.f17), (18, Try.f18), (19, Try.f19), (20, Try.f20), (21, Try.f21), (22, Try.f22), (23, Try.f23), (25, Try.f25), (24, Try.f24), (26, Try.f26), (27, Try.f27), (28, Try.f28), (29, Try.f29), (30, Try.f30), (31, Try.f31), (32, Try.f32), (33, Try.f33), (34, Try.f34), (35, Try.f35), (36, Try.f36)]
theorem ct0 : CTok Try.prog CT0 := .cons Try.func3 (.cons Try.func4 (.cons Try.func5 (.cons Try.func6 (.cons Try.func7 (.cons Try.func8 (.cons Try.func9 (.cons Try.func11 (.cons Try.func10 (.cons Try.func12 (.cons Try.func13 (.cons Try.func14 (.cons Try.func15 (.cons Try.func16 (.cons Try.func17 (.cons Try.func18 (.cons Try.func19 (.cons Try.func20 (.cons Try.func21 (.cons Try.func22 (.cons Try.func23 (.cons Try.func25 (.cons Try.func24 (.cons Try.func26 (.cons Try.func27 (.cons Try.func28 (.cons Try.func29 (.cons Try.func30 (.cons Try.func31 (.cons Try.func32 (.cons Try.func33 (.cons Try.func34 (.cons Try.func35 (.cons Try.func36 (.nil))))))))))))))))))))))))))))))))))
theorem ft0 : FTok Try.prog FT0 := FTok_of (.cons (Ent.mk Try.func3 (by kernel_rfl) rfl) (.cons (Ent.mk Try.func4 (by kernel_rfl) rfl) (.cons (Ent.mk Try.func5 (by kernel_rfl) rfl) (.cons (Ent.mk Try.func6 (by kernel_rfl) rfl) (.cons (Ent.mk Try.func7 (by kernel_rfl) rfl) (.cons (Ent.mk Try.func8 (by kernel_rfl) rfl) (.cons (Ent.mk Try.func9 (by kernel_rfl) rfl) (.cons (Ent.mk Try.func11 (by kernel_rfl) rfl) (.cons (Ent.mk Try.func10 (by kernel_rfl) rfl) (.cons (Ent.mk Try.func12 (by kernel_rfl) rfl) (.cons (Ent.mk Try.func13 (by kernel_rfl) rfl) (.cons (Ent.mk Try.func14 (by kernel_rfl) rfl) (.cons (Ent.mk Try.func15 (by kernel_rfl) rfl) (.cons (Ent.mk Try.func16 (by kernel_rfl) rfl) (.cons (Ent.mk Try.func17 (by kernel_rfl) rfl) (.cons (Ent.mk Try.func18 (by kernel_rfl) rfl) (.cons (Ent.mk Try.func19 (by kernel_rfl) rfl) (.cons (Ent.mk Try.func20 (by kernel_rfl) rfl) (.cons (Ent.mk Try.func21 (by kernel_rfl) rfl) (.cons (Ent.mk Try.func22 (by kernel_rfl) rfl) (.cons (Ent.mk Try.func23 (by kernel_rfl) rfl) (.cons (Ent.mk Try.func25 (by kernel_rfl) rfl) (.cons (Ent.mk Try.func24 (by kernel_rfl) rfl) (.cons (Ent.mk Try.func26 (by kernel_rfl) rfl) (.cons (Ent.mk Try.func27 (by kernel_rfl) rfl) (.cons (Ent.mk Try.func28 (by kernel_rfl) rfl) (.cons (Ent.mk Try.func29 (by kernel_rfl) rfl) (.cons (Ent.mk Try.func30 (by kernel_rfl) rfl) (.cons (Ent.mk Try.func31 (by kernel_rfl) rfl) (.cons (Ent.mk Try.func32 (by kernel_rfl) rfl) (.cons (Ent.mk Try.func33 (by kernel_rfl) rfl) (.cons (Ent.mk Try.func34 (by kernel_rfl) rfl) (.cons (Ent.mk Try.func35 (by kernel_rfl) rfl) (.cons (Ent.mk Try.func36 (by kernel_rfl) rfl) (.nil)))))))))))))))))))))))))))))))))))
theorem tt0 : TTok Try.prog TT0 := ttB_ok (by kernel_rfl)
end Go.Proofs.Ytlaglaehkhmklaa
/-
  Own text: what the abstract machine is told of calls: in a seat that hashes, the two functions of FIPS 180-4 by their contracts.
-/
namespace Go.Proofs.Ytlaglaehkhmklaa
open Go Go.RowKit Go.Eng Go.Ax
set_option linter.unusedVariables false
noncomputable def E0 : Env := ⟨TT0, FT0, CT0, fun _ => none⟩
abbrev I0 : World → Prop := fun _ => True
theorem e0 : EnvOK Try.prog I0 E0 := ⟨tt0, ft0, ct0.get, by kernel_rfl, fun _ _ h => by cases h⟩
end Go.Proofs.Ytlaglaehkhmklaa
/-
  Own text: from a walk that answers true and leaves all that was there as it was, to what a row's law asks; and the arguments' openings.
-/
namespace Go.Proofs.Ytlaglaehkhmklaa
open Go Go.RowKit Go.Eng Go.ChangeShapes Go.WideShapes Go.ChangeAt Go.Ax
set_option linter.unusedVariables false

/-- the arguments read in a grown world as they did -/
theorem trodAll_ext {H : Type} {enc : TypeId × Value → H} {P : Program} (hl : laidOutB P = true) {W W' : World} (he : Ext W W') {sp : Nat → Bool} :
    ∀ {ts : List TypeId} {vs : List Value} {ds : List (DataW H)} {ps : List MemPlace}, (ts.all fun t => P.readableRec t && decide (t < P.types.size)) = true →
    DataW.TrodAll enc P W 0 (fun _ => true) true ts vs ds ps → (∀ p ∈ ps, p.block < W.heap.size) → (∀ p ∈ ps, sp p.block = true) → DataW.TrodAll enc P W' 0 sp true ts vs ds ps
  | [], _, _, _, _, h, _, _ => by
    obtain ⟨rfl, rfl, rfl⟩ := trodAll_nil h
    exact trodAll_mk0
  | t :: ts, _, _, _, hr, h, hlt, hsp => by
    obtain ⟨v, vs1, d, ds1, a, b, rfl, rfl, rfl, h1, h2⟩ := trodAll_cons h
    simp only [List.all_cons, Bool.and_eq_true, decide_eq_true_eq] at hr
    exact ⟨a, b, WideElems.Trod_stays hl hr.1.1 hr.1.2 h1 (fun x hx => he.same (hlt x (by simp [hx]))) (fun x hx => hsp x (by simp [hx])),
      trodAll_ext hl he hr.2 h2 (fun x hx => hlt x (by simp [hx])) (fun x hx => hsp x (by simp [hx])), rfl⟩

theorem post_true {H : Type} {enc : TypeId × Value → H} {P : Program} {f : Func} {s : ChangeSpec} {W W' : World} {args : Array Value} {ds gs : List (DataW H)} {before : List MemPlace} {tb : TypeId}
    (hW : DataW.Whole enc P f.params.toList s.vars false W args.toList ds gs before) (hl : laidOutB P = true) (hr : (f.params.toList.all fun t => P.readableRec t && decide (t < P.types.size)) = true)
    (hv : s.vars = []) (hres : f.resultTypes = #[tb]) (htb : P.underlying tb = some .bool) (h1 : (s.fn H ds).results = [.lit (.bool true)]) (h2 : (s.fn H ds).args = ds) (h3 : (s.fn H ds).vars = []) (he : Ext W W') :
    s.post enc P f false true false false W args (.bool true) W' := by
  have hW' := hW
  have hlt : ∀ p ∈ before, p.block < W.heap.size := fun p hp => hW'.lt p hp
  obtain ⟨p, q, hA, hV, rfl, hfz, hnd⟩ := hW
  rw [hv] at hV
  obtain ⟨rfl, rfl⟩ := trodVars_none hV
  refine ⟨ds, [], _, [], p, [], hW', ?_, ?_, ?_, ?_, fun h => by cases h⟩
  · rw [hres, List.append_nil, h1]
    exact trodAll_cons_mk (shut_bool htb _) trodAll_mk0
  · rw [List.append_nil, h2]
    exact trodAll_ext hl he hr hA (fun x hx => hlt x (by simpa using hx)) (fun x hx => by simpa using hlt x (by simpa using hx))
  · rw [List.append_nil, h3, hv]; rfl
  · exact he.frame _

theorem laidOut : laidOutB Try.prog = true := by kernel_rfl
theorem own : ownKnob Try.prog.godebug = none := by kernel_rfl

theorem open_byte {H : Type} {enc : TypeId × Value → H} {P : Program} {t : TypeId} {W : World} {base : Nat} {v : Value} {d : DataW H} {p : List MemPlace} (ht : P.underlying t = some (.int .u8))
    (hval : Value.okWide P W .any base t v) (h : DataW.Trod enc P W 0 (fun _ => true) true t v d p) : ∃ b, v = byteV b := by
  obtain ⟨n, rfl, _, _, hw⟩ := open_int ht hval h
  have := bounds_u8 hw
  refine ⟨UInt8.ofNat n.toNat, ?_⟩
  simp only [byteV, UInt8.toNat_ofNat']
  congr 1
  omega


/-- a law's walk, as a contract -/
theorem law_calls {f : FuncId} {ins : List AV} (h : Y E0 (.call f ins []) = some (.ret (.b true) [])) {w : World} {args : List Value} (hI : ∀ w', Ext w w' → I0 w') (hr : Reps ⟨fun k => k < 0, fun _ => undef, No, w⟩ ins args) : Calls Try.prog f args.toArray w (Ret fun v w' => v = .bool true ∧ Ext w w') := by
  refine Ret.mono (Y_call e0 h (fun _ => undef) No w args ⟨fun b hb => hb.elim, fun w' hs => hI w' hs.ext⟩ hr ⟨(fun k R h => by cases h), (fun k k' R R' b h => by cases h), fun k h => absurd h (has_nil k)⟩) ?_
  rintro v w' ⟨ν', ok⟩
  have h1 := ok.rep
  simp only [Rep] at h1
  refine ⟨h1, (ok.stp.mono fun i _ hh => ?_).ext⟩
  obtain ⟨k, R, hk, _⟩ := hh
  cases hk
/-- an argument as an abstract value -/
theorem arg_one {τ : Ty} {x : El τ} {v : Value} {w : World} {N : Nat → Prop} {ν : Nat → Value} {a : AV} (hf : flat τ x = [a]) (hc : v.cells.toList = [v]) (h : CR τ x v.cells.toList w) : Reps ⟨N, ν, No, w⟩ [a] [v] := by
  rw [hc] at h
  have := CR.reps (c := ⟨N, ν, No, w⟩) (fun w' hs => h.ext (Stp.ext hs))
  rw [hf] at this; exact this
theorem arg_agg {τ : Ty} {x : El τ} {cs : Array Value} {w : World} {N : Nat → Prop} {ν : Nat → Value} (h : CR τ x cs.toList w) : Reps ⟨N, ν, No, w⟩ [.agg (flat τ x)] [.agg cs] := by
  have hr := CR.reps (c := ⟨N, ν, No, w⟩) (fun w' hs => h.ext (Stp.ext hs))
  refine Reps.one ?_
  simp only [Rep]
  exact ⟨cs.toList, by simp, hr, flat_one hr⟩
end Go.Proofs.Ytlaglaehkhmklaa
/-
  Own text: the reference's writers and readers of byte forms.
-/
namespace Go.Proofs.Ytlaglaehkhmklaa
open Go Go.Ax
set_option linter.unusedVariables false
set_option linter.unusedSimpArgs false
attribute [local irreducible] iadd isub imul iquo irem ibit ineg ieq ine ilt ile ishl ishr beq' bnot and' seq' u8op u32op u64op u8shr u8shl u64shr u64shl u32shr u32shl i64w u8i u64i iu8 iu32 iu64 u8u64 u64u8 u32u8 u64cmp u8cmp u32cmp llen lget linb lset lcut lrep lapp lcpy lemp fits fitn sealed drawChk fpSame
set_option maxHeartbeats 1000000
set_option maxRecDepth 100000

theorem ev_r3uint_loop (n : Int) : ∀ (k : Nat) (i : Int) (acc : List UInt8), i = (k : Int) - 1 → k ≤ 8 → acc.length + k ≤ 5000000000 →
    Y E0 (.loop 26 0 0 1 [(2, .i n), (7, .nm 0), (8, .i i)] [(0, some (.row 5 .u8 acc))]) = some (.fin (.exit 0) 1 [(7, .nm 0)] [(0, some (.row 5 .u8 (acc ++ beB k (UInt64.ofInt n))))])
  | 0, i, acc, hi, _, _ => by
    rw [Y_go]; conv => lhs; whnf
    rw [ile_f (by omega)]
    conv => lhs; whnf
    simp [beB]
  | k + 1, i, acc, hi, hk, hl => by
    rw [Y_go]; conv => lhs; whnf
    rw [ile_t (by omega)]
    conv => lhs; whnf
    rw [fits_t (by (simp only [LL] at * <;> omega))]
    conv => lhs; whnf
    rw [isub_eq (by omega)]
    rw [ev_r3uint_loop n k _ _ (by first | omega | decide | assumption | (simp only [LL] at * <;> omega) | (simp; omega)) (by first | omega | decide | assumption | (simp only [LL] at * <;> omega) | (simp; omega)) (by first | omega | decide | assumption | (simp only [LL] at * <;> omega) | (simp; omega))]
    conv => lhs; whnf
    simp only [lapp_eq, u64u8_eq, beB, List.append_assoc, List.cons_append, List.nil_append]; rw [mul8_eq (by omega), iu64_eq, u64shr_eq (by omega), show (8 * i).toNat = 8 * k from by omega]
theorem ev_r3uint (b : List UInt8) (size n : Int) (hb : b.length ≤ 4294967296) : Y E0 (.call 26 [.sl .u8 b, .i size, .i n] []) = some (.ret (.nm 0) [some (.row 5 .u8 (uintB b size n))]) := by
  rw [Y_go]; conv => lhs; whnf
  rw [fits_t (by (simp only [LL] at * <;> omega))]
  conv => lhs; whnf
  rcases Bool.eq_false_or_eq_true (ilt size 1) with hc0 | hc0
  · rw [hc0]; replace hc0 := of_ilt_t hc0; try simp only [llen_eq] at hc0
    conv => lhs; whnf
    unfold uintB; (repeat (first | rw [if_pos (by first | omega | decide | assumption | (simp only [LL] at * <;> omega) | (simp; omega))] | rw [if_neg (by first | omega | decide | assumption | (simp only [LL] at * <;> omega) | (simp; omega))])); try simp only [NO]
  · rw [hc0]; replace hc0 := of_ilt_f hc0; try simp only [llen_eq] at hc0
    conv => lhs; whnf
    rcases Bool.eq_false_or_eq_true (ilt 8 size) with hc1 | hc1
    · rw [hc1]; replace hc1 := of_ilt_t hc1; try simp only [llen_eq] at hc1
      conv => lhs; whnf
      unfold uintB; (repeat (first | rw [if_pos (by first | omega | decide | assumption | (simp only [LL] at * <;> omega) | (simp; omega))] | rw [if_neg (by first | omega | decide | assumption | (simp only [LL] at * <;> omega) | (simp; omega))])); try simp only [NO]
    · rw [hc1]; replace hc1 := of_ilt_f hc1; try simp only [llen_eq] at hc1
      conv => lhs; whnf
      rw [isub_eq (by omega)]
      rw [toReq_loop]
      rw [ev_r3uint_loop n size.toNat _ _ (by first | omega | decide | assumption | (simp only [LL] at * <;> omega) | (simp; omega)) (by first | omega | decide | assumption | (simp only [LL] at * <;> omega) | (simp; omega)) (by first | omega | decide | assumption | (simp only [LL] at * <;> omega) | (simp; omega))]
      conv => lhs; whnf
      unfold uintB; (repeat (first | rw [if_pos (by first | omega | decide | assumption | (simp only [LL] at * <;> omega) | (simp; omega))] | rw [if_neg (by first | omega | decide | assumption | (simp only [LL] at * <;> omega) | (simp; omega))])); try simp only [NO]
theorem ev_r3blob (b x : List UInt8) (hb : b.length ≤ 4294900000) : Y E0 (.call 24 [.sl .u8 b, .sl .u8 x] []) = some (.ret (.nm 0) [some (.row 5 .u8 (blobB b x))]) := by
  have h2 : (x.take 65535).length ≤ 65535 := by rw [List.length_take]; omega
  have h1 := uintB_len b 2 (llen (x.take 65535))
  have hx : lcut x 0 65535 = some (x.take 65535) ∨ x.length < 65535 := by
    rcases Nat.lt_or_ge x.length 65535 with h | h
    · exact .inr h
    · exact .inl (by rw [lcut_s (by omega)]; rfl)
  by_cases h : 65535 < x.length
  · have hx : lcut x 0 65535 = some (x.take 65535) := by rw [lcut_s (by omega)]; rfl
    rw [Y_go]; conv => lhs; whnf
    rw [ilt_t (by (simp only [LL] at * <;> omega))]
    conv => lhs; whnf
    rw [hx]; conv => lhs; whnf
    rw [Y_go]; conv => lhs; whnf
    rw [toReq_call]
    rw [ev_r3uint _ _ _ (by omega)]
    conv => lhs; whnf
    rw [fits_t (by (simp only [LL] at * <;> omega))]
    conv => lhs; whnf
    rw [lapp_eq, blobB, llen_eq]
  · rw [List.take_of_length_le (by omega)] at h1
    rw [Y_go]; conv => lhs; whnf
    rw [ilt_f (by (simp only [LL] at * <;> omega))]
    conv => lhs; whnf
    rw [Y_go]; conv => lhs; whnf
    rw [toReq_call]
    rw [ev_r3uint _ _ _ (by omega)]
    conv => lhs; whnf
    rw [fits_t (by (simp only [LL] at * <;> omega))]
    conv => lhs; whnf
    rw [lapp_eq, blobB, List.take_of_length_le (by omega), llen_eq]
theorem ev_r3new (b : List UInt8) : Y E0 (.call 27 [.sl .u8 b] []) = some (.ret (.pa 0 0) [some (.var [.sl .u8 b, .i 0, .i 0])]) := by
  rw [Y_go]; conv => lhs; whnf
theorem ev_r3need_t (b : List UInt8) (p e n : Int) (hb : b.length ≤ 4294967296) (hp : 0 ≤ p ∧ p ≤ b.length) (he : e = 0) (hn : p + n ≤ b.length) : Y E0 (.call 35 [.pa 0 0, .i n] [.var [.sl .u8 b, .i p, .i e]]) = some (.ret (.b true) [some (.var [.sl .u8 b, .i p, .i 0])]) := by
  subst he
  rw [Y_go]; conv => lhs; whnf
  rw [ieq_t (by omega)]
  conv => lhs; whnf
  rw [isub_eq (by (simp only [LL] at * <;> omega))]
  rw [drw (by kernel_rfl)]; conv => lhs; whnf
  rw [ilt_f (by (simp only [LL] at * <;> omega))]
  conv => lhs; whnf
  rw [Y_go]; conv => lhs; whnf
  rw [ieq_t rfl]
theorem ev_r3need_f (b : List UInt8) (p e n : Int) (hb : b.length ≤ 4294967296) (hp : 0 ≤ p ∧ p ≤ b.length) (he : e = 0) (hn : b.length < p + n) : Y E0 (.call 35 [.pa 0 0, .i n] [.var [.sl .u8 b, .i p, .i e]]) = some (.ret (.b false) [some (.var [.sl .u8 b, .i p, .i 2])]) := by
  subst he
  rw [Y_go]; conv => lhs; whnf
  rw [ieq_t (by omega)]
  conv => lhs; whnf
  rw [isub_eq (by (simp only [LL] at * <;> omega))]
  rw [drw (by kernel_rfl)]; conv => lhs; whnf
  rw [ilt_t (by (simp only [LL] at * <;> omega))]
  conv => lhs; whnf
  rw [Y_go]; conv => lhs; whnf
  rw [ieq_f (by decide)]
theorem ev_r3left (b : List UInt8) (p : Nat) (e : Int) (hb : b.length ≤ 4294967296) (hp : p ≤ b.length) : Y E0 (.call 36 [.pa 0 0] [.var [.sl .u8 b, .i p, .i e]]) = some (.ret (.i ((b.length - p : Nat) : Int)) [some (.var [.sl .u8 b, .i p, .i e])]) := by
  rw [Y_go]; conv => lhs; whnf
  rw [isub_eq (by (simp only [LL] at * <;> omega))]
  rw [drw (by kernel_rfl)]; conv => lhs; whnf
  simp only [llen_eq]; congr 4; omega
theorem ev_r3end (b : List UInt8) (p : Nat) (e : Int) (hb : b.length ≤ 4294967296) (hp : p ≤ b.length) : Y E0 (.call 31 [.pa 0 0] [.var [.sl .u8 b, .i p, .i e]]) = some (.ret (.i (rdE b p e)) [some (.var [.sl .u8 b, .i p, .i e])]) := by
  rw [Y_go]; conv => lhs; whnf
  rcases Bool.eq_false_or_eq_true (ieq e 0) with hc0 | hc0
  · rw [hc0]; replace hc0 := of_ieq_t hc0; try simp only [llen_eq] at hc0
    subst hc0
    conv => lhs; whnf
    rw [toReq_call]
    rw [ev_r3left _ _ _ (by omega) (by omega)]
    conv => lhs; whnf
    rcases Bool.eq_false_or_eq_true (ilt 0 ↑(b.length - p)) with hc1 | hc1
    · rw [hc1]; replace hc1 := of_ilt_t hc1; try simp only [llen_eq] at hc1
      conv => lhs; whnf
      unfold rdE; (repeat (first | rw [if_pos (by first | omega | decide | assumption | (simp only [LL] at * <;> omega) | (simp; omega))] | rw [if_neg (by first | omega | decide | assumption | (simp only [LL] at * <;> omega) | (simp; omega))])); try simp only [NO]
    · rw [hc1]; replace hc1 := of_ilt_f hc1; try simp only [llen_eq] at hc1
      conv => lhs; whnf
      unfold rdE; (repeat (first | rw [if_pos (by first | omega | decide | assumption | (simp only [LL] at * <;> omega) | (simp; omega))] | rw [if_neg (by first | omega | decide | assumption | (simp only [LL] at * <;> omega) | (simp; omega))])); try simp only [NO]
  · rw [hc0]; replace hc0 := of_ieq_f hc0; try simp only [llen_eq] at hc0
    conv => lhs; whnf
    unfold rdE; (repeat (first | rw [if_pos (by first | omega | decide | assumption | (simp only [LL] at * <;> omega) | (simp; omega))] | rw [if_neg (by first | omega | decide | assumption | (simp only [LL] at * <;> omega) | (simp; omega))])); try simp only [NO]
theorem ev_r3raw (b : List UInt8) (p : Nat) (e n : Int) (hb : b.length ≤ 4294967296) (hp : p ≤ b.length) (hn : n ≤ 4294967296) : Y E0 (.call 28 [.pa 0 0, .i n] [.var [.sl .u8 b, .i p, .i e]]) = some (.ret (.sl .u8 (rdR b p e n).1) [some (.var [.sl .u8 b, .i (rdR b p e n).2.1, .i (rdR b p e n).2.2])]) := by
  by_cases h : b.length < (p : Int) + n
  · rw [Y_go]; conv => lhs; whnf
    rcases Bool.eq_false_or_eq_true (ieq e 0) with hc0 | hc0
    · rw [hc0]; replace hc0 := of_ieq_t hc0; try simp only [llen_eq] at hc0
      subst hc0
      conv => lhs; whnf
      rw [ilt_f (by omega)]
      conv => lhs; whnf
      rw [Y_go]; conv => lhs; whnf
      rw [ine_f (by omega)]
      conv => lhs; whnf
      rw [toReq_call]
      rw [ev_r3need_f _ _ _ _ (by omega) (by omega) (by omega) (by omega)]
      conv => lhs; whnf
      rw [bnot_eq]; conv => lhs; whnf
      unfold rdR; (repeat (first | rw [if_pos (by first | omega | decide | assumption | (simp only [LL] at * <;> omega) | (simp; omega))] | rw [if_neg (by first | omega | decide | assumption | (simp only [LL] at * <;> omega) | (simp; omega))])); try simp only [NO]
    · rw [hc0]; replace hc0 := of_ieq_f hc0; try simp only [llen_eq] at hc0
      conv => lhs; whnf
      rw [Y_go]; conv => lhs; whnf
      rw [ine_t (by omega)]
      conv => lhs; whnf
      unfold rdR; (repeat (first | rw [if_pos (by first | omega | decide | assumption | (simp only [LL] at * <;> omega) | (simp; omega))] | rw [if_neg (by first | omega | decide | assumption | (simp only [LL] at * <;> omega) | (simp; omega))])); try simp only [NO]
  · rw [Y_go]; conv => lhs; whnf
    rcases Bool.eq_false_or_eq_true (ieq e 0) with hc0 | hc0
    · rw [hc0]; replace hc0 := of_ieq_t hc0; try simp only [llen_eq] at hc0
      subst hc0
      conv => lhs; whnf
      rcases Bool.eq_false_or_eq_true (ilt n 0) with hc1 | hc1
      · rw [hc1]; replace hc1 := of_ilt_t hc1; try simp only [llen_eq] at hc1
        conv => lhs; whnf
        rw [Y_go]; conv => lhs; whnf
        rw [ine_t (by omega)]
        conv => lhs; whnf
        unfold rdR; (repeat (first | rw [if_pos (by first | omega | decide | assumption | (simp only [LL] at * <;> omega) | (simp; omega))] | rw [if_neg (by first | omega | decide | assumption | (simp only [LL] at * <;> omega) | (simp; omega))])); try simp only [NO]
      · rw [hc1]; replace hc1 := of_ilt_f hc1; try simp only [llen_eq] at hc1
        conv => lhs; whnf
        rw [Y_go]; conv => lhs; whnf
        rw [ine_f (by omega)]
        conv => lhs; whnf
        rw [toReq_call]
        rw [ev_r3need_t _ _ _ _ (by omega) (by omega) (by omega) (by omega)]
        conv => lhs; whnf
        rw [bnot_eq]; conv => lhs; whnf
        rw [iadd_eq (by omega)]
        rw [isub_eq (by omega)]
        rw [lcut_s (by omega)]
        conv => lhs; whnf
        rw [fits_t (by (simp only [LL] at * <;> omega))]
        conv => lhs; whnf
        rw [drw (by kernel_rfl)]; conv => lhs; whnf
        rw [show (p : Int) + n - n = p from by omega, show (p : Int) + n - p = n from by omega, show (p : Int) + n = ((p + n.toNat : Nat) : Int) from by omega]; unfold rdR; (repeat (first | rw [if_pos (by first | omega | decide | assumption | (simp only [LL] at * <;> omega) | (simp; omega))] | rw [if_neg (by first | omega | decide | assumption | (simp only [LL] at * <;> omega) | (simp; omega))])); simp only [lapp_eq, List.nil_append, Int.toNat_natCast]
    · rw [hc0]; replace hc0 := of_ieq_f hc0; try simp only [llen_eq] at hc0
      conv => lhs; whnf
      rw [Y_go]; conv => lhs; whnf
      rw [ine_t (by omega)]
      conv => lhs; whnf
      unfold rdR; (repeat (first | rw [if_pos (by first | omega | decide | assumption | (simp only [LL] at * <;> omega) | (simp; omega))] | rw [if_neg (by first | omega | decide | assumption | (simp only [LL] at * <;> omega) | (simp; omega))])); try simp only [NO]
end Go.Proofs.Ytlaglaehkhmklaa
/-
  Own text: the reference's readers of byte forms, continued.
-/
namespace Go.Proofs.Ytlaglaehkhmklaa
open Go Go.Ax
set_option linter.unusedVariables false
set_option linter.unusedSimpArgs false
attribute [local irreducible] iadd isub imul iquo irem ibit ineg ieq ine ilt ile ishl ishr beq' bnot and' seq' u8op u32op u64op u8shr u8shl u64shr u64shl u32shr u32shl i64w u8i u64i iu8 iu32 iu64 u8u64 u64u8 u32u8 u64cmp u8cmp u32cmp llen lget linb lset lcut lrep lapp lcpy lemp fits fitn sealed drawChk fpSame
set_option maxHeartbeats 1000000
set_option maxRecDepth 100000

theorem ev_r3ruint_loop (b : List UInt8) (n p e : Int) (hb : b.length ≤ 4294967296) (hp : 0 ≤ p) (h : p + n ≤ b.length) (hn : n ≤ 8) : ∀ (k : Nat) (acc : UInt64) (j : Int), j = n - k → 0 ≤ j →
    Y E0 (.loop 30 0 1 1 [(0, .pa 0 0), (1, .i n), (5, .u64 acc), (6, .i j)] [(0, some (.var [.sl .u8 b, .i p, .i e]))]) = some (.fin (.exit 0) 1 [(0, .pa 0 0), (1, .i n), (5, .u64 ((((b.drop p.toNat).take n.toNat).drop j.toNat).foldl (fun n x => n <<< 8 ||| x.toUInt64) acc))] [(0, some (.var [.sl .u8 b, .i p, .i e]))])
  | 0, acc, j, hj, hk => by
    rw [Y_go]; conv => lhs; whnf
    rw [ilt_f (by omega)]
    conv => lhs; whnf
    rw [List.drop_eq_nil_of_le (by simp; omega)]; rfl
  | k + 1, acc, j, hj, hk => by
    have hlt : j.toNat < ((b.drop p.toNat).take n.toNat).length := by simp; omega
    rw [Y_go]; conv => lhs; whnf
    rw [ilt_t (by omega)]
    conv => lhs; whnf
    rw [iadd_eq (by omega)]
    rw [lget_i (by omega)]
    conv => lhs; whnf
    rw [drw (by kernel_rfl)]; conv => lhs; whnf
    rw [iadd_eq (by omega)]
    rw [ev_r3ruint_loop b n p e hb hp h hn k _ _ (by omega) (by omega)]
    conv => lhs; whnf
    rw [show ((b.drop p.toNat).take n.toNat).drop j.toNat = ((b.drop p.toNat).take n.toNat)[j.toNat] :: ((b.drop p.toNat).take n.toNat).drop (j + 1).toNat from by rw [List.drop_eq_getElem_cons hlt, show (j + 1).toNat = j.toNat + 1 from by omega], List.foldl_cons, u64or_eq, u8u64_eq, u64shl_eq (by decide)]; simp only [List.getElem_take, List.getElem_drop, show (p + j).toNat = p.toNat + j.toNat from by omega]; rfl
theorem ev_r3ruint (b : List UInt8) (p : Nat) (e n : Int) (hb : b.length ≤ 4294967296) (hp : p ≤ b.length) : Y E0 (.call 30 [.pa 0 0, .i n] [.var [.sl .u8 b, .i p, .i e]]) = some (.ret (.i (rdU b p e n).1) [some (.var [.sl .u8 b, .i (rdU b p e n).2.1, .i (rdU b p e n).2.2])]) := by
  have hv : ∀ l : List UInt8, (l.drop (0 : Int).toNat).foldl (fun (n : UInt64) (x : UInt8) => n <<< 8 ||| x.toUInt64) (UInt64.ofNat 0) = beN l := fun _ => rfl
  by_cases h4 : (b.length : Int) < (p : Int) + n
  · rw [Y_go]; conv => lhs; whnf
    rcases Bool.eq_false_or_eq_true (ieq e 0) with hc0 | hc0
    · rw [hc0]; replace hc0 := of_ieq_t hc0; try simp only [llen_eq] at hc0
      subst hc0
      conv => lhs; whnf
      rw [ilt_f (by omega)]
      conv => lhs; whnf
      rcases Bool.eq_false_or_eq_true (ilt 8 n) with hc1 | hc1
      · rw [hc1]; replace hc1 := of_ilt_t hc1; try simp only [llen_eq] at hc1
        conv => lhs; whnf
        rw [Y_go]; conv => lhs; whnf
        rw [ine_t (by omega)]
        conv => lhs; whnf
        unfold rdU; (repeat (first | rw [if_pos (by first | omega | decide | assumption | (simp only [LL] at * <;> omega) | (simp; omega))] | rw [if_neg (by first | omega | decide | assumption | (simp only [LL] at * <;> omega) | (simp; omega))])); try simp only [NO]
      · rw [hc1]; replace hc1 := of_ilt_f hc1; try simp only [llen_eq] at hc1
        conv => lhs; whnf
        rw [Y_go]; conv => lhs; whnf
        rw [ine_f (by omega)]
        conv => lhs; whnf
        rw [toReq_call]
        rw [ev_r3need_f _ _ _ _ (by omega) (by omega) (by omega) (by omega)]
        conv => lhs; whnf
        rw [bnot_eq]; conv => lhs; whnf
        unfold rdU; (repeat (first | rw [if_pos (by first | omega | decide | assumption | (simp only [LL] at * <;> omega) | (simp; omega))] | rw [if_neg (by first | omega | decide | assumption | (simp only [LL] at * <;> omega) | (simp; omega))])); try simp only [NO]
    · rw [hc0]; replace hc0 := of_ieq_f hc0; try simp only [llen_eq] at hc0
      conv => lhs; whnf
      rw [Y_go]; conv => lhs; whnf
      rw [ine_t (by omega)]
      conv => lhs; whnf
      unfold rdU; (repeat (first | rw [if_pos (by first | omega | decide | assumption | (simp only [LL] at * <;> omega) | (simp; omega))] | rw [if_neg (by first | omega | decide | assumption | (simp only [LL] at * <;> omega) | (simp; omega))])); try simp only [NO]
  · by_cases h5 : 9223372036854775807 < (beN ((b.drop p).take n.toNat)).toNat
    · have hg : u64cmp .geq (beN ((b.drop p).take n.toNat)) (UInt64.ofNat 9223372036854775808) = true := by rw [u64cmp_geq, ile_t (by rw [show (UInt64.ofNat 9223372036854775808).toNat = 9223372036854775808 from by decide]; omega)]
      rw [Y_go]; conv => lhs; whnf
      rcases Bool.eq_false_or_eq_true (ieq e 0) with hc0 | hc0
      · rw [hc0]; replace hc0 := of_ieq_t hc0; try simp only [llen_eq] at hc0
        subst hc0
        conv => lhs; whnf
        rcases Bool.eq_false_or_eq_true (ilt n 1) with hc1 | hc1
        · rw [hc1]; replace hc1 := of_ilt_t hc1; try simp only [llen_eq] at hc1
          conv => lhs; whnf
          rw [Y_go]; conv => lhs; whnf
          rw [ine_t (by omega)]
          conv => lhs; whnf
          unfold rdU; (repeat (first | rw [if_pos (by first | omega | decide | assumption | (simp only [LL] at * <;> omega) | (simp; omega))] | rw [if_neg (by first | omega | decide | assumption | (simp only [LL] at * <;> omega) | (simp; omega))])); try simp only [NO]
        · rw [hc1]; replace hc1 := of_ilt_f hc1; try simp only [llen_eq] at hc1
          conv => lhs; whnf
          rcases Bool.eq_false_or_eq_true (ilt 8 n) with hc2 | hc2
          · rw [hc2]; replace hc2 := of_ilt_t hc2; try simp only [llen_eq] at hc2
            conv => lhs; whnf
            rw [Y_go]; conv => lhs; whnf
            rw [ine_t (by omega)]
            conv => lhs; whnf
            unfold rdU; (repeat (first | rw [if_pos (by first | omega | decide | assumption | (simp only [LL] at * <;> omega) | (simp; omega))] | rw [if_neg (by first | omega | decide | assumption | (simp only [LL] at * <;> omega) | (simp; omega))])); try simp only [NO]
          · rw [hc2]; replace hc2 := of_ilt_f hc2; try simp only [llen_eq] at hc2
            conv => lhs; whnf
            rw [Y_go]; conv => lhs; whnf
            rw [ine_f (by omega)]
            conv => lhs; whnf
            rw [toReq_call]
            rw [ev_r3need_t _ _ _ _ (by omega) (by omega) (by omega) (by omega)]
            conv => lhs; whnf
            rw [bnot_eq]; conv => lhs; whnf
            rw [toReq_loop]
            rw [ev_r3ruint_loop b n p 0 hb (by omega) (by omega) (by omega) n.toNat _ 0 (by omega) (by omega), hv, Int.toNat_natCast]
            conv => lhs; whnf
            rw [hg]; conv => lhs; whnf
            unfold rdU; (repeat (first | rw [if_pos (by first | omega | decide | assumption | (simp only [LL] at * <;> omega) | (simp; omega))] | rw [if_neg (by first | omega | decide | assumption | (simp only [LL] at * <;> omega) | (simp; omega))])); try simp only [NO]
      · rw [hc0]; replace hc0 := of_ieq_f hc0; try simp only [llen_eq] at hc0
        conv => lhs; whnf
        rw [Y_go]; conv => lhs; whnf
        rw [ine_t (by omega)]
        conv => lhs; whnf
        unfold rdU; (repeat (first | rw [if_pos (by first | omega | decide | assumption | (simp only [LL] at * <;> omega) | (simp; omega))] | rw [if_neg (by first | omega | decide | assumption | (simp only [LL] at * <;> omega) | (simp; omega))])); try simp only [NO]
    · have hg : u64cmp .geq (beN ((b.drop p).take n.toNat)) (UInt64.ofNat 9223372036854775808) = false := by rw [u64cmp_geq, ile_f (by rw [show (UInt64.ofNat 9223372036854775808).toNat = 9223372036854775808 from by decide]; omega)]
      rw [Y_go]; conv => lhs; whnf
      rcases Bool.eq_false_or_eq_true (ieq e 0) with hc0 | hc0
      · rw [hc0]; replace hc0 := of_ieq_t hc0; try simp only [llen_eq] at hc0
        subst hc0
        conv => lhs; whnf
        rcases Bool.eq_false_or_eq_true (ilt n 1) with hc1 | hc1
        · rw [hc1]; replace hc1 := of_ilt_t hc1; try simp only [llen_eq] at hc1
          conv => lhs; whnf
          rw [Y_go]; conv => lhs; whnf
          rw [ine_t (by omega)]
          conv => lhs; whnf
          unfold rdU; (repeat (first | rw [if_pos (by first | omega | decide | assumption | (simp only [LL] at * <;> omega) | (simp; omega))] | rw [if_neg (by first | omega | decide | assumption | (simp only [LL] at * <;> omega) | (simp; omega))])); try simp only [NO]
        · rw [hc1]; replace hc1 := of_ilt_f hc1; try simp only [llen_eq] at hc1
          conv => lhs; whnf
          rcases Bool.eq_false_or_eq_true (ilt 8 n) with hc2 | hc2
          · rw [hc2]; replace hc2 := of_ilt_t hc2; try simp only [llen_eq] at hc2
            conv => lhs; whnf
            rw [Y_go]; conv => lhs; whnf
            rw [ine_t (by omega)]
            conv => lhs; whnf
            unfold rdU; (repeat (first | rw [if_pos (by first | omega | decide | assumption | (simp only [LL] at * <;> omega) | (simp; omega))] | rw [if_neg (by first | omega | decide | assumption | (simp only [LL] at * <;> omega) | (simp; omega))])); try simp only [NO]
          · rw [hc2]; replace hc2 := of_ilt_f hc2; try simp only [llen_eq] at hc2
            conv => lhs; whnf
            rw [Y_go]; conv => lhs; whnf
            rw [ine_f (by omega)]
            conv => lhs; whnf
            rw [toReq_call]
            rw [ev_r3need_t _ _ _ _ (by omega) (by omega) (by omega) (by omega)]
            conv => lhs; whnf
            rw [bnot_eq]; conv => lhs; whnf
            rw [toReq_loop]
            rw [ev_r3ruint_loop b n p 0 hb (by omega) (by omega) (by omega) n.toNat _ 0 (by omega) (by omega), hv, Int.toNat_natCast]
            conv => lhs; whnf
            rw [hg]; conv => lhs; whnf
            rw [u64i_eq (by omega)]
            rw [iadd_eq (by omega)]
            rw [show (p : Int) + n = ((p + n.toNat : Nat) : Int) from by omega]; unfold rdU; (repeat (first | rw [if_pos (by first | omega | decide | assumption | (simp only [LL] at * <;> omega) | (simp; omega))] | rw [if_neg (by first | omega | decide | assumption | (simp only [LL] at * <;> omega) | (simp; omega))]))
      · rw [hc0]; replace hc0 := of_ieq_f hc0; try simp only [llen_eq] at hc0
        conv => lhs; whnf
        rw [Y_go]; conv => lhs; whnf
        rw [ine_t (by omega)]
        conv => lhs; whnf
        unfold rdU; (repeat (first | rw [if_pos (by first | omega | decide | assumption | (simp only [LL] at * <;> omega) | (simp; omega))] | rw [if_neg (by first | omega | decide | assumption | (simp only [LL] at * <;> omega) | (simp; omega))])); try simp only [NO]
theorem ev_r3rblob (b : List UInt8) (p : Nat) (e n : Int) (hb : b.length ≤ 4294967296) (hp : p ≤ b.length) : Y E0 (.call 29 [.pa 0 0, .i n] [.var [.sl .u8 b, .i p, .i e]]) = some (.ret (.sl .u8 (rdB b p e n).1) [some (.var [.sl .u8 b, .i (rdB b p e n).2.1, .i (rdB b p e n).2.2])]) := by
  by_cases h2 : (b.length : Int) < (p : Int) + 2
  · rw [Y_go]; conv => lhs; whnf
    rcases Bool.eq_false_or_eq_true (ine e 0) with hc0 | hc0
    · rw [hc0]; replace hc0 := of_ine_t hc0; try simp only [llen_eq] at hc0
      conv => lhs; whnf
      unfold rdB; (repeat (first | rw [if_pos (by first | omega | decide | assumption | (simp only [LL] at * <;> omega) | (simp; omega))] | rw [if_neg (by first | omega | decide | assumption | (simp only [LL] at * <;> omega) | (simp; omega))])); try simp only [NO]
    · rw [hc0]; replace hc0 := of_ine_f hc0; try simp only [llen_eq] at hc0
      subst hc0
      conv => lhs; whnf
      rw [toReq_call]
      rw [ev_r3need_f _ _ _ _ (by omega) (by omega) (by omega) (by omega)]
      conv => lhs; whnf
      rw [bnot_eq]; conv => lhs; whnf
      unfold rdB; (repeat (first | rw [if_pos (by first | omega | decide | assumption | (simp only [LL] at * <;> omega) | (simp; omega))] | rw [if_neg (by first | omega | decide | assumption | (simp only [LL] at * <;> omega) | (simp; omega))])); try simp only [NO]
  · have hv : ibit .or (ishl (u8i (b[p]'(by omega))) (UInt64.ofNat 8).toNat) (u8i (b[((p : Int) + 1).toNat]'(by omega))) = (lenAt b p : Int) := by
      rw [show (UInt64.ofNat 8).toNat = 8 from rfl, u8i_eq, u8i_eq, ishl8, ior_eq, or_bytes, lenAt]
      simp only [List.getD, List.getElem?_eq_getElem (show p < b.length by omega), List.getElem?_eq_getElem (show p + 1 < b.length by omega), show ((p : Int) + 1).toNat = p + 1 from by omega, Option.getD_some]
    have hx := (b.getD p 0).toNat_lt
    have hy := (b.getD (p + 1) 0).toNat_lt
    have hl : lenAt b p ≤ 65535 := by rw [lenAt]; omega
    by_cases h4 : (b.length : Int) < (p : Int) + 2 + lenAt b p
    · rw [Y_go]; conv => lhs; whnf
      rcases Bool.eq_false_or_eq_true (ine e 0) with hc0 | hc0
      · rw [hc0]; replace hc0 := of_ine_t hc0; try simp only [llen_eq] at hc0
        conv => lhs; whnf
        unfold rdB; (repeat (first | rw [if_pos (by first | omega | decide | assumption | (simp only [LL] at * <;> omega) | (simp; omega))] | rw [if_neg (by first | omega | decide | assumption | (simp only [LL] at * <;> omega) | (simp; omega))])); try simp only [NO]
      · rw [hc0]; replace hc0 := of_ine_f hc0; try simp only [llen_eq] at hc0
        subst hc0
        conv => lhs; whnf
        rw [toReq_call]
        rw [ev_r3need_t _ _ _ _ (by omega) (by omega) (by omega) (by omega)]
        conv => lhs; whnf
        rw [bnot_eq]; conv => lhs; whnf
        rw [lget_n (by omega)]
        conv => lhs; whnf
        rw [iadd_eq (by omega)]
        rw [lget_i (by omega)]
        conv => lhs; whnf
        rw [hv]; conv => lhs; whnf
        rw [drw (by kernel_rfl)]; conv => lhs; whnf
        rcases Bool.eq_false_or_eq_true (ilt n ↑(lenAt b p)) with hc1 | hc1
        · rw [hc1]; replace hc1 := of_ilt_t hc1; try simp only [llen_eq] at hc1
          conv => lhs; whnf
          unfold rdB; (repeat (first | rw [if_pos (by first | omega | decide | assumption | (simp only [LL] at * <;> omega) | (simp; omega))] | rw [if_neg (by first | omega | decide | assumption | (simp only [LL] at * <;> omega) | (simp; omega))])); try simp only [NO]
        · rw [hc1]; replace hc1 := of_ilt_f hc1; try simp only [llen_eq] at hc1
          conv => lhs; whnf
          rw [iadd_eq (by omega)]
          rw [toReq_call]
          rw [ev_r3need_f _ _ _ _ (by omega) (by omega) (by omega) (by omega)]
          conv => lhs; whnf
          rw [bnot_eq]; conv => lhs; whnf
          unfold rdB; (repeat (first | rw [if_pos (by first | omega | decide | assumption | (simp only [LL] at * <;> omega) | (simp; omega))] | rw [if_neg (by first | omega | decide | assumption | (simp only [LL] at * <;> omega) | (simp; omega))])); try simp only [NO]
    · rw [Y_go]; conv => lhs; whnf
      rcases Bool.eq_false_or_eq_true (ine e 0) with hc0 | hc0
      · rw [hc0]; replace hc0 := of_ine_t hc0; try simp only [llen_eq] at hc0
        conv => lhs; whnf
        unfold rdB; (repeat (first | rw [if_pos (by first | omega | decide | assumption | (simp only [LL] at * <;> omega) | (simp; omega))] | rw [if_neg (by first | omega | decide | assumption | (simp only [LL] at * <;> omega) | (simp; omega))])); try simp only [NO]
      · rw [hc0]; replace hc0 := of_ine_f hc0; try simp only [llen_eq] at hc0
        subst hc0
        conv => lhs; whnf
        rw [toReq_call]
        rw [ev_r3need_t _ _ _ _ (by omega) (by omega) (by omega) (by omega)]
        conv => lhs; whnf
        rw [bnot_eq]; conv => lhs; whnf
        rw [lget_n (by omega)]
        conv => lhs; whnf
        rw [iadd_eq (by omega)]
        rw [lget_i (by omega)]
        conv => lhs; whnf
        rw [hv]; conv => lhs; whnf
        rw [drw (by kernel_rfl)]; conv => lhs; whnf
        rcases Bool.eq_false_or_eq_true (ilt n ↑(lenAt b p)) with hc1 | hc1
        · rw [hc1]; replace hc1 := of_ilt_t hc1; try simp only [llen_eq] at hc1
          conv => lhs; whnf
          unfold rdB; (repeat (first | rw [if_pos (by first | omega | decide | assumption | (simp only [LL] at * <;> omega) | (simp; omega))] | rw [if_neg (by first | omega | decide | assumption | (simp only [LL] at * <;> omega) | (simp; omega))])); try simp only [NO]
        · rw [hc1]; replace hc1 := of_ilt_f hc1; try simp only [llen_eq] at hc1
          conv => lhs; whnf
          rw [iadd_eq (by omega)]
          rw [toReq_call]
          rw [ev_r3need_t _ _ _ _ (by omega) (by omega) (by omega) (by omega)]
          conv => lhs; whnf
          rw [bnot_eq]; conv => lhs; whnf
          rw [iadd_eq (a := 2) (b := ↑(lenAt b p)) (by omega)]
          rw [iadd_eq (by omega)]
          rw [isub_eq (by omega)]
          rw [lcut_s (by omega)]
          conv => lhs; whnf
          rw [fits_t (by (simp only [LL] at * <;> omega))]
          conv => lhs; whnf
          rw [drw (by kernel_rfl)]; conv => lhs; whnf
          unfold rdB; (repeat (first | rw [if_pos (by first | omega | decide | assumption | (simp only [LL] at * <;> omega) | (simp; omega))] | rw [if_neg (by first | omega | decide | assumption | (simp only [LL] at * <;> omega) | (simp; omega))])); simp only [lapp_eq, List.nil_append, show (p : Int) + (2 + (lenAt b p : Int)) - (lenAt b p : Int) = ((p + 2 : Nat) : Int) from by omega, show (p : Int) + (2 + (lenAt b p : Int)) - ((p + 2 : Nat) : Int) = lenAt b p from by omega, Int.toNat_natCast]; rw [show (p : Int) + (2 + (lenAt b p : Int)) = ((p + 2 + lenAt b p : Nat) : Int) from by omega]
end Go.Proofs.Ytlaglaehkhmklaa
/-
  Own text: comparisons of bytes.
-/
namespace Go.Proofs.Ytlaglaehkhmklaa
open Go Go.Ax
set_option linter.unusedVariables false
set_option linter.unusedSimpArgs false
attribute [local irreducible] iadd isub imul iquo irem ibit ineg ieq ine ilt ile ishl ishr beq' bnot and' seq' u8op u32op u64op u8shr u8shl u64shr u64shl u32shr u32shl i64w u8i u64i iu8 iu32 iu64 u8u64 u64u8 u32u8 u64cmp u8cmp u32cmp llen lget linb lset lcut lrep lapp lcpy lemp fits fitn sealed drawChk fpSame
set_option maxHeartbeats 1000000
set_option maxRecDepth 100000
theorem take_eq {α : Type} (a b : List α) (i : Nat) (hi : i < a.length) (hj : i < b.length) (h : a.take i = b.take i) (he : a[i] = b[i]) : a.take (i + 1) = b.take (i + 1) := by
  rw [List.take_succ_eq_append_getElem hi, List.take_succ_eq_append_getElem hj, h, he]
theorem ev_same_loop (a b : List UInt8) (hb : a.length ≤ 4294967296) (hl : a.length = b.length) : ∀ (k : Nat) (j : Int), j + k = a.length → 0 ≤ j → a.take j.toNat = b.take j.toNat →
    Y E0 (.loop 10 0 0 0 [(0, .sl .u8 a), (1, .sl .u8 b), (5, .i j)] []) = if a = b then some (.fin (.exit 0) 0 [] []) else some (.fin .ret 0 [(4, .b false)] [])
  | 0, j, hj, h0, ht => by
    have he : a = b := by rwa [List.take_of_length_le (by omega), List.take_of_length_le (by omega)] at ht
    rw [if_pos he]
    rw [Y_go]; conv => lhs; whnf
    rw [ilt_f (by (simp only [LL] at * <;> omega))]
    conv => lhs; whnf
  | k + 1, j, hj, h0, ht => by
    by_cases hab : a[j.toNat]'(by omega) = b[j.toNat]'(by omega)
    · have ih := ev_same_loop a b hb hl k (j + 1) (by omega) (by omega) (by rw [show (j + 1).toNat = j.toNat + 1 from by omega]; exact take_eq a b _ (by omega) (by omega) ht hab)
      have hz : u8cmp .neq (a[j.toNat]'(by omega)) (b[j.toNat]'(by omega)) = false := by rw [u8cmp_neq, ine_f (by rw [hab])]
      rw [← ih]
      rw [Y_go]; conv => lhs; whnf
      rw [ilt_t (by (simp only [LL] at * <;> omega))]
      conv => lhs; whnf
      rw [lget_i (by omega)]
      conv => lhs; whnf
      rw [lget_i (by omega)]
      conv => lhs; whnf
      rw [hz]; conv => lhs; whnf
      rw [drw (by kernel_rfl)]; conv => lhs; whnf
      rw [iadd_eq (by omega)]
    · have hne : a ≠ b := fun e => hab (by subst e; rfl)
      have hz : u8cmp .neq (a[j.toNat]'(by omega)) (b[j.toNat]'(by omega)) = true := by rw [u8cmp_neq, ine_t (fun e => hab (UInt8.toNat_inj.1 (by omega)))]
      rw [if_neg hne]
      rw [Y_go]; conv => lhs; whnf
      rw [ilt_t (by (simp only [LL] at * <;> omega))]
      conv => lhs; whnf
      rw [lget_i (by omega)]
      conv => lhs; whnf
      rw [lget_i (by omega)]
      conv => lhs; whnf
      rw [hz]; conv => lhs; whnf
      rw [drw (by kernel_rfl)]; conv => lhs; whnf
theorem ev_same (a b : List UInt8) (ha : a.length ≤ 4294967296) : Y E0 (.call 10 [.sl .u8 a, .sl .u8 b] []) = some (.ret (.b (decide (a = b))) []) := by
  by_cases h : a = b
  · rw [decide_eq_true h]
    rw [Y_go]; conv => lhs; whnf
    rcases Bool.eq_false_or_eq_true (ine (llen a) (llen b)) with hc0 | hc0
    · rw [hc0]; replace hc0 := of_ine_t hc0; try simp only [llen_eq] at hc0
      conv => lhs; whnf
      exact absurd (congrArg List.length h) (by omega)
    · rw [hc0]; replace hc0 := of_ine_f hc0; try simp only [llen_eq] at hc0
      conv => lhs; whnf
      rw [toReq_loop]
      rw [ev_same_loop a b ha (by omega) a.length 0 (by omega) (by omega) (by simp), if_pos h]
      conv => lhs; whnf
  · rw [decide_eq_false h]
    rw [Y_go]; conv => lhs; whnf
    rcases Bool.eq_false_or_eq_true (ine (llen a) (llen b)) with hc0 | hc0
    · rw [hc0]; replace hc0 := of_ine_t hc0; try simp only [llen_eq] at hc0
      conv => lhs; whnf
    · rw [hc0]; replace hc0 := of_ine_f hc0; try simp only [llen_eq] at hc0
      conv => lhs; whnf
      rw [toReq_loop]
      rw [ev_same_loop a b ha (by omega) a.length 0 (by omega) (by omega) (by simp), if_neg h]
      conv => lhs; whnf
end Go.Proofs.Ytlaglaehkhmklaa
/-
  Own text: seeds and cuts of the drawn inputs.
-/
namespace Go.Ax
def seedB (b : List UInt8) : List UInt8 := b.take 32 ++ (List.replicate 32 0).drop b.length
theorem seedB_len (b : List UInt8) : (seedB b).length = 32 := by simp [seedB]; omega
end Go.Ax
namespace Go.Proofs.Ytlaglaehkhmklaa
open Go Go.Ax
set_option linter.unusedVariables false
set_option linter.unusedSimpArgs false
attribute [local irreducible] iadd isub imul iquo irem ibit ineg ieq ine ilt ile ishl ishr beq' bnot and' seq' u8op u32op u64op u8shr u8shl u64shr u64shl u32shr u32shl i64w u8i u64i iu8 iu32 iu64 u8u64 u64u8 u32u8 u64cmp u8cmp u32cmp llen lget linb lset lcut lrep lapp lcpy lemp fits fitn sealed drawChk fpSame
set_option maxHeartbeats 1000000
set_option maxRecDepth 100000
theorem ev_seed (b : List UInt8) : Y E0 (.call 14 [.sl .u8 b] []) = some (.ret (.sl .u8 (seedB b)) []) := by
  rw [Y_go]; conv => lhs; whnf
  rw [fitn_t (by omega)]
  conv => lhs; whnf
  rw [ieq_t (by omega)]
  conv => lhs; whnf
  rw [lcpy_eq, lrep_eq]; rfl
theorem ev_cut (b : List UInt8) (n : Int) (hn : 0 ≤ n) : Y E0 (.call 15 [.sl .u8 b, .i n] []) = some (.ret (.sl .u8 (b.take n.toNat)) []) := by
  rw [Y_go]; conv => lhs; whnf
  rcases Bool.eq_false_or_eq_true (ilt n (llen b)) with hc0 | hc0
  · rw [hc0]; replace hc0 := of_ilt_t hc0; try simp only [llen_eq] at hc0
    conv => lhs; whnf
    rw [lcut_0 (by omega)]
    conv => lhs; whnf
  · rw [hc0]; replace hc0 := of_ilt_f hc0; try simp only [llen_eq] at hc0
    conv => lhs; whnf
    rw [List.take_of_length_le (by omega)]
end Go.Proofs.Ytlaglaehkhmklaa
/-
  Own text: writers and readers of byte forms.
-/
namespace Go.Proofs.Ytlaglaehkhmklaa
open Go Go.Ax
set_option linter.unusedVariables false
set_option linter.unusedSimpArgs false
attribute [local irreducible] iadd isub imul iquo irem ibit ineg ieq ine ilt ile ishl ishr beq' bnot and' seq' u8op u32op u64op u8shr u8shl u64shr u64shl u32shr u32shl i64w u8i u64i iu8 iu32 iu64 u8u64 u64u8 u32u8 u64cmp u8cmp u32cmp llen lget linb lset lcut lrep lapp lcpy lemp fits fitn sealed drawChk fpSame
set_option maxHeartbeats 1000000
set_option maxRecDepth 100000

theorem ev_uint_loop (n : Int) : ∀ (k : Nat) (i : Int) (acc : List UInt8), i = (k : Int) - 1 → k ≤ 8 → acc.length + k ≤ 5000000000 →
    Y E0 (.loop 17 0 0 1 [(2, .i n), (7, .nm 0), (8, .i i)] [(0, some (.row 5 .u8 acc))]) = some (.fin (.exit 0) 1 [(7, .nm 0)] [(0, some (.row 5 .u8 (acc ++ beB k (UInt64.ofInt n))))])
  | 0, i, acc, hi, _, _ => by
    rw [Y_go]; conv => lhs; whnf
    rw [ile_f (by omega)]
    conv => lhs; whnf
    simp [beB]
  | k + 1, i, acc, hi, hk, hl => by
    rw [Y_go]; conv => lhs; whnf
    rw [ile_t (by omega)]
    conv => lhs; whnf
    rw [imul_eq (by omega)]
    rw [fits_t (by (simp only [LL] at * <;> omega))]
    conv => lhs; whnf
    rw [isub_eq (by omega)]
    rw [ev_uint_loop n k _ _ (by first | omega | decide | assumption | (simp only [LL] at * <;> omega) | (simp; omega)) (by first | omega | decide | assumption | (simp only [LL] at * <;> omega) | (simp; omega)) (by first | omega | decide | assumption | (simp only [LL] at * <;> omega) | (simp; omega))]
    conv => lhs; whnf
    simp only [lapp_eq, u64u8_eq, iu64_eq, beB, List.append_assoc, List.cons_append, List.nil_append]; rw [u64_ofInt (by omega), u64shr_eq (by omega), show (8 * i).toNat = 8 * k from by omega]
theorem ev_uint (b : List UInt8) (size n : Int) (hb : b.length ≤ 4294967296) : Y E0 (.call 17 [.sl .u8 b, .i size, .i n] []) = some (.ret (.nm 0) [some (.row 5 .u8 (uintB b size n))]) := by
  rw [Y_go]; conv => lhs; whnf
  rw [fits_t (by omega)]
  conv => lhs; whnf
  rcases Bool.eq_false_or_eq_true (ilt size 1) with hc0 | hc0
  · rw [hc0]; replace hc0 := of_ilt_t hc0; try simp only [llen_eq] at hc0
    conv => lhs; whnf
    unfold uintB; (repeat (first | rw [if_pos (by first | omega | decide | assumption | (simp only [LL] at * <;> omega) | (simp; omega))] | rw [if_neg (by first | omega | decide | assumption | (simp only [LL] at * <;> omega) | (simp; omega))])); try simp only [NO]
  · rw [hc0]; replace hc0 := of_ilt_f hc0; try simp only [llen_eq] at hc0
    conv => lhs; whnf
    rcases Bool.eq_false_or_eq_true (ilt 8 size) with hc1 | hc1
    · rw [hc1]; replace hc1 := of_ilt_t hc1; try simp only [llen_eq] at hc1
      conv => lhs; whnf
      unfold uintB; (repeat (first | rw [if_pos (by first | omega | decide | assumption | (simp only [LL] at * <;> omega) | (simp; omega))] | rw [if_neg (by first | omega | decide | assumption | (simp only [LL] at * <;> omega) | (simp; omega))])); try simp only [NO]
    · rw [hc1]; replace hc1 := of_ilt_f hc1; try simp only [llen_eq] at hc1
      conv => lhs; whnf
      rw [isub_eq (by omega)]
      rw [toReq_loop]
      rw [ev_uint_loop n size.toNat _ _ (by first | omega | decide | assumption | (simp only [LL] at * <;> omega) | (simp; omega)) (by first | omega | decide | assumption | (simp only [LL] at * <;> omega) | (simp; omega)) (by first | omega | decide | assumption | (simp only [LL] at * <;> omega) | (simp; omega))]
      conv => lhs; whnf
      unfold uintB; (repeat (first | rw [if_pos (by first | omega | decide | assumption | (simp only [LL] at * <;> omega) | (simp; omega))] | rw [if_neg (by first | omega | decide | assumption | (simp only [LL] at * <;> omega) | (simp; omega))])); try simp only [NO]
theorem ev_blob (b x : List UInt8) (hb : b.length ≤ 4294900000) : Y E0 (.call 16 [.sl .u8 b, .sl .u8 x] []) = some (.ret (.nm 0) [some (.row 5 .u8 (blobB b x))]) := by
  have hx : lcut x 0 (min (llen x) 65535) = some (x.take 65535) := by
    rw [lcut_s (by rw [llen_eq]; omega)]
    congr 1
    simp only [llen_eq, Int.toNat_zero, List.drop_zero]
    rw [List.take_eq_take_iff]; omega
  have h2 : (x.take 65535).length ≤ 65535 := by rw [List.length_take]; omega
  have := uintB_len b 2 (llen (x.take 65535))
  rw [Y_go]; conv => lhs; whnf
  rw [hx]; conv => lhs; whnf
  rw [toReq_call]
  rw [ev_uint _ _ _ (by omega)]
  conv => lhs; whnf
  rw [fits_t (by (simp only [LL] at * <;> omega))]
  conv => lhs; whnf
  rw [lapp_eq, blobB, llen_eq]
theorem ev_new (b : List UInt8) (hb : b.length ≤ 4294967296) : Y E0 (.call 18 [.sl .u8 b] []) = some (.ret (.pa 0 0) [some (.var [.sl .u8 b, .i 0, .i 0])]) := by
  rw [Y_go]; conv => lhs; whnf
  rw [fits_t (by omega)]
  conv => lhs; whnf
theorem ev_fail (b : List UInt8) (p e f : Int) : Y E0 (.call 32 [.pa 0 0, .i f] [.var [.sl .u8 b, .i p, .i e]]) = some (.ret (.tup []) [some (.var [.sl .u8 b, .i p, .i f])]) := by
  rw [Y_go]; conv => lhs; whnf
theorem ev_take_f (b : List UInt8) (p n : Int) (q e : Int) (hb : b.length ≤ 4294967296) (hp : 0 ≤ p ∧ p ≤ b.length) (hn : 0 ≤ n) (h : b.length < p + n) : Y E0 (.call 33 [.pa 0 0, .i p, .i n] [.var [.sl .u8 b, .i q, .i e]]) = some (.ret (.tup [.sl .u8 [], .i 2]) [some (.var [.sl .u8 b, .i q, .i e])]) := by
  rw [Y_go]; conv => lhs; whnf
  rw [isub_eq (by (simp only [LL] at * <;> omega))]
  rw [ilt_t (by (simp only [LL] at * <;> omega))]
  conv => lhs; whnf
theorem ev_take (b : List UInt8) (p n : Int) (q e : Int) (hb : b.length ≤ 4294967296) (hp : 0 ≤ p ∧ p ≤ b.length) (hn : 0 ≤ n) (h : ¬ b.length < p + n) : Y E0 (.call 33 [.pa 0 0, .i p, .i n] [.var [.sl .u8 b, .i q, .i e]]) = some (.ret (.tup [.sl .u8 ((b.drop p.toNat).take n.toNat), .i 0]) [some (.var [.sl .u8 b, .i q, .i e])]) := by
  rw [Y_go]; conv => lhs; whnf
  rw [isub_eq (by (simp only [LL] at * <;> omega))]
  rw [ilt_f (by (simp only [LL] at * <;> omega))]
  conv => lhs; whnf
  rw [iadd_eq (by omega)]
  rw [lcut_s (by omega)]
  conv => lhs; whnf
  rw [show p + n - p = n from by omega]
theorem ev_left (b : List UInt8) (p : Nat) (e : Int) (hb : b.length ≤ 4294967296) (hp : p ≤ b.length) : Y E0 (.call 34 [.pa 0 0] [.var [.sl .u8 b, .i p, .i e]]) = some (.ret (.i ((b.length - p : Nat) : Int)) [some (.var [.sl .u8 b, .i p, .i e])]) := by
  rw [Y_go]; conv => lhs; whnf
  rw [isub_eq (by (simp only [LL] at * <;> omega))]
  rw [drw (by kernel_rfl)]; conv => lhs; whnf
  simp only [llen_eq]; congr 4; omega
theorem ev_raw (b : List UInt8) (p : Nat) (e n : Int) (hb : b.length ≤ 4294967296) (hp : p ≤ b.length) (hn : n ≤ 4294967296) : Y E0 (.call 19 [.pa 0 0, .i n] [.var [.sl .u8 b, .i p, .i e]]) = some (.ret (.sl .u8 (rdR b p e n).1) [some (.var [.sl .u8 b, .i (rdR b p e n).2.1, .i (rdR b p e n).2.2])]) := by
  by_cases h : b.length < (p : Int) + n
  · rw [Y_go]; conv => lhs; whnf
    rcases Bool.eq_false_or_eq_true (ine e 0) with hc0 | hc0
    · rw [hc0]; replace hc0 := of_ine_t hc0; try simp only [llen_eq] at hc0
      conv => lhs; whnf
      unfold rdR; (repeat (first | rw [if_pos (by first | omega | decide | assumption | (simp only [LL] at * <;> omega) | (simp; omega))] | rw [if_neg (by first | omega | decide | assumption | (simp only [LL] at * <;> omega) | (simp; omega))])); try simp only [NO]
    · rw [hc0]; replace hc0 := of_ine_f hc0; try simp only [llen_eq] at hc0
      subst hc0
      conv => lhs; whnf
      rw [ilt_f (by omega)]
      conv => lhs; whnf
      rw [toReq_call]
      rw [ev_take_f _ _ _ _ _ (by omega) (by omega) (by omega) (by omega)]
      conv => lhs; whnf
      rw [ine_t (by omega)]
      conv => lhs; whnf
      rw [toReq_call]
      rw [ev_fail _ _ _ _]
      conv => lhs; whnf
      unfold rdR; (repeat (first | rw [if_pos (by first | omega | decide | assumption | (simp only [LL] at * <;> omega) | (simp; omega))] | rw [if_neg (by first | omega | decide | assumption | (simp only [LL] at * <;> omega) | (simp; omega))])); try simp only [NO]
  · rw [Y_go]; conv => lhs; whnf
    rcases Bool.eq_false_or_eq_true (ine e 0) with hc0 | hc0
    · rw [hc0]; replace hc0 := of_ine_t hc0; try simp only [llen_eq] at hc0
      conv => lhs; whnf
      unfold rdR; (repeat (first | rw [if_pos (by first | omega | decide | assumption | (simp only [LL] at * <;> omega) | (simp; omega))] | rw [if_neg (by first | omega | decide | assumption | (simp only [LL] at * <;> omega) | (simp; omega))])); try simp only [NO]
    · rw [hc0]; replace hc0 := of_ine_f hc0; try simp only [llen_eq] at hc0
      subst hc0
      conv => lhs; whnf
      rcases Bool.eq_false_or_eq_true (ilt n 0) with hc1 | hc1
      · rw [hc1]; replace hc1 := of_ilt_t hc1; try simp only [llen_eq] at hc1
        conv => lhs; whnf
        rw [toReq_call]
        rw [ev_fail _ _ _ _]
        conv => lhs; whnf
        unfold rdR; (repeat (first | rw [if_pos (by first | omega | decide | assumption | (simp only [LL] at * <;> omega) | (simp; omega))] | rw [if_neg (by first | omega | decide | assumption | (simp only [LL] at * <;> omega) | (simp; omega))])); try simp only [NO]
      · rw [hc1]; replace hc1 := of_ilt_f hc1; try simp only [llen_eq] at hc1
        conv => lhs; whnf
        rw [toReq_call]
        rw [ev_take _ _ _ _ _ (by omega) (by omega) (by omega) (by omega)]
        conv => lhs; whnf
        rw [ine_f (by omega)]
        conv => lhs; whnf
        rw [fits_t (by (simp only [LL] at * <;> omega))]
        conv => lhs; whnf
        rw [iadd_eq (by omega)]
        rw [show (p : Int) + n = ((p + n.toNat : Nat) : Int) from by omega]; unfold rdR; (repeat (first | rw [if_pos (by first | omega | decide | assumption | (simp only [LL] at * <;> omega) | (simp; omega))] | rw [if_neg (by first | omega | decide | assumption | (simp only [LL] at * <;> omega) | (simp; omega))])); rfl
theorem ev_rerr (b : List UInt8) (p e : Int) : Y E0 (.call 20 [.pa 0 0] [.var [.sl .u8 b, .i p, .i e]]) = some (.ret (.i e) [some (.var [.sl .u8 b, .i p, .i e])]) := by
  rw [Y_go]; conv => lhs; whnf
theorem ev_rend (b : List UInt8) (p : Nat) (e : Int) (hb : b.length ≤ 4294967296) (hp : p ≤ b.length) : Y E0 (.call 23 [.pa 0 0] [.var [.sl .u8 b, .i p, .i e]]) = some (.ret (.i (rdE b p e)) [some (.var [.sl .u8 b, .i p, .i e])]) := by
  rw [Y_go]; conv => lhs; whnf
  rcases Bool.eq_false_or_eq_true (ieq e 0) with hc0 | hc0
  · rw [hc0]; replace hc0 := of_ieq_t hc0; try simp only [llen_eq] at hc0
    subst hc0
    conv => lhs; whnf
    rw [toReq_call]
    rw [ev_left _ _ _ (by omega) (by omega)]
    conv => lhs; whnf
    rcases Bool.eq_false_or_eq_true (ilt 0 ↑(b.length - p)) with hc1 | hc1
    · rw [hc1]; replace hc1 := of_ilt_t hc1; try simp only [llen_eq] at hc1
      conv => lhs; whnf
      unfold rdE; (repeat (first | rw [if_pos (by first | omega | decide | assumption | (simp only [LL] at * <;> omega) | (simp; omega))] | rw [if_neg (by first | omega | decide | assumption | (simp only [LL] at * <;> omega) | (simp; omega))])); try simp only [NO]
    · rw [hc1]; replace hc1 := of_ilt_f hc1; try simp only [llen_eq] at hc1
      conv => lhs; whnf
      unfold rdE; (repeat (first | rw [if_pos (by first | omega | decide | assumption | (simp only [LL] at * <;> omega) | (simp; omega))] | rw [if_neg (by first | omega | decide | assumption | (simp only [LL] at * <;> omega) | (simp; omega))])); try simp only [NO]
  · rw [hc0]; replace hc0 := of_ieq_f hc0; try simp only [llen_eq] at hc0
    conv => lhs; whnf
    unfold rdE; (repeat (first | rw [if_pos (by first | omega | decide | assumption | (simp only [LL] at * <;> omega) | (simp; omega))] | rw [if_neg (by first | omega | decide | assumption | (simp only [LL] at * <;> omega) | (simp; omega))])); try simp only [NO]
end Go.Proofs.Ytlaglaehkhmklaa
/-
  Own text: readers of byte forms, continued.
-/
namespace Go.Proofs.Ytlaglaehkhmklaa
open Go Go.Ax
set_option linter.unusedVariables false
set_option linter.unusedSimpArgs false
attribute [local irreducible] iadd isub imul iquo irem ibit ineg ieq ine ilt ile ishl ishr beq' bnot and' seq' u8op u32op u64op u8shr u8shl u64shr u64shl u32shr u32shl i64w u8i u64i iu8 iu32 iu64 u8u64 u64u8 u32u8 u64cmp u8cmp u32cmp llen lget linb lset lcut lrep lapp lcpy lemp fits fitn sealed drawChk fpSame
set_option maxHeartbeats 1000000
set_option maxRecDepth 100000

theorem ev_ruint_loop (l b : List UInt8) (n p e : Int) (hl : l.length ≤ 8) : ∀ (k : Nat) (acc : UInt64) (j : Int), j = (l.length : Int) - k → k ≤ l.length →
    Y E0 (.loop 22 0 1 1 [(0, .pa 0 0), (1, .i n), (7, .u64 acc), (38, .sl .u8 l), (39, .i (llen l)), (40, .i j)] [(0, some (.var [.sl .u8 b, .i p, .i e]))]) = some (.fin (.exit 0) 1 [(0, .pa 0 0), (1, .i n), (7, .u64 ((l.drop j.toNat).foldl (fun n x => n <<< 8 ||| x.toUInt64) acc))] [(0, some (.var [.sl .u8 b, .i p, .i e]))])
  | 0, acc, j, hj, hk => by
    rw [Y_go]; conv => lhs; whnf
    rw [ilt_f (by (simp only [LL] at * <;> omega))]
    conv => lhs; whnf
    rw [List.drop_eq_nil_of_le (by omega)]; rfl
  | k + 1, acc, j, hj, hk => by
    have hlt : j.toNat < l.length := by omega
    rw [Y_go]; conv => lhs; whnf
    rw [ilt_t (by (simp only [LL] at * <;> omega))]
    conv => lhs; whnf
    rw [lget_i (by omega)]
    conv => lhs; whnf
    rw [iadd_eq (by omega)]
    rw [ev_ruint_loop l b n p e hl k _ _ (by omega) (by omega)]
    conv => lhs; whnf
    rw [show l.drop j.toNat = l[j.toNat] :: l.drop (j + 1).toNat from by rw [List.drop_eq_getElem_cons hlt, show (j + 1).toNat = j.toNat + 1 from by omega], List.foldl_cons, u64or_eq, u8u64_eq, u64shl_eq (by decide)]; rfl
theorem ev_ruint (b : List UInt8) (p : Nat) (e n : Int) (hb : b.length ≤ 4294967296) (hp : p ≤ b.length) : Y E0 (.call 22 [.pa 0 0, .i n] [.var [.sl .u8 b, .i p, .i e]]) = some (.ret (.i (rdU b p e n).1) [some (.var [.sl .u8 b, .i (rdU b p e n).2.1, .i (rdU b p e n).2.2])]) := by
  have hv : ∀ l : List UInt8, (l.drop (0 : Int).toNat).foldl (fun (n : UInt64) (x : UInt8) => n <<< 8 ||| x.toUInt64) (UInt64.ofNat 0) = beN l := fun _ => rfl
  by_cases h4 : (b.length : Int) < (p : Int) + n
  · rw [Y_go]; conv => lhs; whnf
    rcases Bool.eq_false_or_eq_true (ine e 0) with hc0 | hc0
    · rw [hc0]; replace hc0 := of_ine_t hc0; try simp only [llen_eq] at hc0
      conv => lhs; whnf
      unfold rdU; (repeat (first | rw [if_pos (by first | omega | decide | assumption | (simp only [LL] at * <;> omega) | (simp; omega))] | rw [if_neg (by first | omega | decide | assumption | (simp only [LL] at * <;> omega) | (simp; omega))])); try simp only [NO]
    · rw [hc0]; replace hc0 := of_ine_f hc0; try simp only [llen_eq] at hc0
      subst hc0
      conv => lhs; whnf
      rw [ilt_f (by omega)]
      conv => lhs; whnf
      rcases Bool.eq_false_or_eq_true (ilt 8 n) with hc1 | hc1
      · rw [hc1]; replace hc1 := of_ilt_t hc1; try simp only [llen_eq] at hc1
        conv => lhs; whnf
        rw [toReq_call]
        rw [ev_fail _ _ _ _]
        conv => lhs; whnf
        unfold rdU; (repeat (first | rw [if_pos (by first | omega | decide | assumption | (simp only [LL] at * <;> omega) | (simp; omega))] | rw [if_neg (by first | omega | decide | assumption | (simp only [LL] at * <;> omega) | (simp; omega))])); try simp only [NO]
      · rw [hc1]; replace hc1 := of_ilt_f hc1; try simp only [llen_eq] at hc1
        conv => lhs; whnf
        rw [toReq_call]
        rw [ev_take_f _ _ _ _ _ (by omega) (by omega) (by omega) (by omega)]
        conv => lhs; whnf
        rw [ine_t (by omega)]
        conv => lhs; whnf
        rw [toReq_call]
        rw [ev_fail _ _ _ _]
        conv => lhs; whnf
        unfold rdU; (repeat (first | rw [if_pos (by first | omega | decide | assumption | (simp only [LL] at * <;> omega) | (simp; omega))] | rw [if_neg (by first | omega | decide | assumption | (simp only [LL] at * <;> omega) | (simp; omega))])); try simp only [NO]
  · by_cases h5 : 9223372036854775807 < (beN ((b.drop p).take n.toNat)).toNat
    · rw [Y_go]; conv => lhs; whnf
      rcases Bool.eq_false_or_eq_true (ine e 0) with hc0 | hc0
      · rw [hc0]; replace hc0 := of_ine_t hc0; try simp only [llen_eq] at hc0
        conv => lhs; whnf
        unfold rdU; (repeat (first | rw [if_pos (by first | omega | decide | assumption | (simp only [LL] at * <;> omega) | (simp; omega))] | rw [if_neg (by first | omega | decide | assumption | (simp only [LL] at * <;> omega) | (simp; omega))])); try simp only [NO]
      · rw [hc0]; replace hc0 := of_ine_f hc0; try simp only [llen_eq] at hc0
        subst hc0
        conv => lhs; whnf
        rcases Bool.eq_false_or_eq_true (ilt n 1) with hc1 | hc1
        · rw [hc1]; replace hc1 := of_ilt_t hc1; try simp only [llen_eq] at hc1
          conv => lhs; whnf
          rw [toReq_call]
          rw [ev_fail _ _ _ _]
          conv => lhs; whnf
          unfold rdU; (repeat (first | rw [if_pos (by first | omega | decide | assumption | (simp only [LL] at * <;> omega) | (simp; omega))] | rw [if_neg (by first | omega | decide | assumption | (simp only [LL] at * <;> omega) | (simp; omega))])); try simp only [NO]
        · rw [hc1]; replace hc1 := of_ilt_f hc1; try simp only [llen_eq] at hc1
          conv => lhs; whnf
          rcases Bool.eq_false_or_eq_true (ilt 8 n) with hc2 | hc2
          · rw [hc2]; replace hc2 := of_ilt_t hc2; try simp only [llen_eq] at hc2
            conv => lhs; whnf
            rw [toReq_call]
            rw [ev_fail _ _ _ _]
            conv => lhs; whnf
            unfold rdU; (repeat (first | rw [if_pos (by first | omega | decide | assumption | (simp only [LL] at * <;> omega) | (simp; omega))] | rw [if_neg (by first | omega | decide | assumption | (simp only [LL] at * <;> omega) | (simp; omega))])); try simp only [NO]
          · rw [hc2]; replace hc2 := of_ilt_f hc2; try simp only [llen_eq] at hc2
            conv => lhs; whnf
            rw [toReq_call]
            rw [ev_take _ _ _ _ _ (by omega) (by omega) (by omega) (by omega)]
            conv => lhs; whnf
            rw [ine_f (by omega)]
            conv => lhs; whnf
            rw [toReq_loop]
            rw [ev_ruint_loop _ b n p 0 (by simp; omega) ((b.drop (p : Int).toNat).take n.toNat).length _ 0 (by omega) (by omega), hv, Int.toNat_natCast]
            conv => lhs; whnf
            rw [u64gt_t (by simpa using h5)]; conv => lhs; whnf
            rw [toReq_call]
            rw [ev_fail _ _ _ _]
            conv => lhs; whnf
            unfold rdU; (repeat (first | rw [if_pos (by first | omega | decide | assumption | (simp only [LL] at * <;> omega) | (simp; omega))] | rw [if_neg (by first | omega | decide | assumption | (simp only [LL] at * <;> omega) | (simp; omega))])); try simp only [NO]
    · rw [Y_go]; conv => lhs; whnf
      rcases Bool.eq_false_or_eq_true (ine e 0) with hc0 | hc0
      · rw [hc0]; replace hc0 := of_ine_t hc0; try simp only [llen_eq] at hc0
        conv => lhs; whnf
        unfold rdU; (repeat (first | rw [if_pos (by first | omega | decide | assumption | (simp only [LL] at * <;> omega) | (simp; omega))] | rw [if_neg (by first | omega | decide | assumption | (simp only [LL] at * <;> omega) | (simp; omega))])); try simp only [NO]
      · rw [hc0]; replace hc0 := of_ine_f hc0; try simp only [llen_eq] at hc0
        subst hc0
        conv => lhs; whnf
        rcases Bool.eq_false_or_eq_true (ilt n 1) with hc1 | hc1
        · rw [hc1]; replace hc1 := of_ilt_t hc1; try simp only [llen_eq] at hc1
          conv => lhs; whnf
          rw [toReq_call]
          rw [ev_fail _ _ _ _]
          conv => lhs; whnf
          unfold rdU; (repeat (first | rw [if_pos (by first | omega | decide | assumption | (simp only [LL] at * <;> omega) | (simp; omega))] | rw [if_neg (by first | omega | decide | assumption | (simp only [LL] at * <;> omega) | (simp; omega))])); try simp only [NO]
        · rw [hc1]; replace hc1 := of_ilt_f hc1; try simp only [llen_eq] at hc1
          conv => lhs; whnf
          rcases Bool.eq_false_or_eq_true (ilt 8 n) with hc2 | hc2
          · rw [hc2]; replace hc2 := of_ilt_t hc2; try simp only [llen_eq] at hc2
            conv => lhs; whnf
            rw [toReq_call]
            rw [ev_fail _ _ _ _]
            conv => lhs; whnf
            unfold rdU; (repeat (first | rw [if_pos (by first | omega | decide | assumption | (simp only [LL] at * <;> omega) | (simp; omega))] | rw [if_neg (by first | omega | decide | assumption | (simp only [LL] at * <;> omega) | (simp; omega))])); try simp only [NO]
          · rw [hc2]; replace hc2 := of_ilt_f hc2; try simp only [llen_eq] at hc2
            conv => lhs; whnf
            rw [toReq_call]
            rw [ev_take _ _ _ _ _ (by omega) (by omega) (by omega) (by omega)]
            conv => lhs; whnf
            rw [ine_f (by omega)]
            conv => lhs; whnf
            rw [toReq_loop]
            rw [ev_ruint_loop _ b n p 0 (by simp; omega) ((b.drop (p : Int).toNat).take n.toNat).length _ 0 (by omega) (by omega), hv, Int.toNat_natCast]
            conv => lhs; whnf
            rw [u64gt_f (by simpa using h5)]; conv => lhs; whnf
            rw [u64i_eq (by omega)]
            rw [iadd_eq (by omega)]
            rw [show (p : Int) + n = ((p + n.toNat : Nat) : Int) from by omega]; unfold rdU; (repeat (first | rw [if_pos (by first | omega | decide | assumption | (simp only [LL] at * <;> omega) | (simp; omega))] | rw [if_neg (by first | omega | decide | assumption | (simp only [LL] at * <;> omega) | (simp; omega))]))
theorem ev_rblob (b : List UInt8) (p : Nat) (e n : Int) (hb : b.length ≤ 4294967296) (hp : p ≤ b.length) : Y E0 (.call 21 [.pa 0 0, .i n] [.var [.sl .u8 b, .i p, .i e]]) = some (.ret (.sl .u8 (rdB b p e n).1) [some (.var [.sl .u8 b, .i (rdB b p e n).2.1, .i (rdB b p e n).2.2])]) := by
  by_cases h2 : (b.length : Int) < (p : Int) + 2
  · rw [Y_go]; conv => lhs; whnf
    rcases Bool.eq_false_or_eq_true (ine e 0) with hc0 | hc0
    · rw [hc0]; replace hc0 := of_ine_t hc0; try simp only [llen_eq] at hc0
      conv => lhs; whnf
      unfold rdB; (repeat (first | rw [if_pos (by first | omega | decide | assumption | (simp only [LL] at * <;> omega) | (simp; omega))] | rw [if_neg (by first | omega | decide | assumption | (simp only [LL] at * <;> omega) | (simp; omega))])); try simp only [NO]
    · rw [hc0]; replace hc0 := of_ine_f hc0; try simp only [llen_eq] at hc0
      subst hc0
      conv => lhs; whnf
      rw [toReq_call]
      rw [ev_take_f _ _ _ _ _ (by omega) (by omega) (by omega) (by omega)]
      conv => lhs; whnf
      rw [ine_t (by omega)]
      conv => lhs; whnf
      rw [toReq_call]
      rw [ev_fail _ _ _ _]
      conv => lhs; whnf
      unfold rdB; (repeat (first | rw [if_pos (by first | omega | decide | assumption | (simp only [LL] at * <;> omega) | (simp; omega))] | rw [if_neg (by first | omega | decide | assumption | (simp only [LL] at * <;> omega) | (simp; omega))])); try simp only [NO]
  · have g0 : lget ((b.drop (p : Int).toNat).take (2 : Int).toNat) 0 = some (b.getD p 0) := lget_s (by omega) (by simp [List.getElem?_take, List.getElem?_drop, List.getD]; rw [List.getElem?_eq_getElem (by omega)]; rfl)
    have g1 : lget ((b.drop (p : Int).toNat).take (2 : Int).toNat) 1 = some (b.getD (p + 1) 0) := lget_s (by omega) (by simp [List.getElem?_take, List.getElem?_drop, List.getD]; rw [List.getElem?_eq_getElem (by omega)]; rfl)
    have hv : ibit .or (ishl (u8i (b.getD p 0)) (UInt64.ofNat 8).toNat) (u8i (b.getD (p + 1) 0)) = (lenAt b p : Int) := by
      rw [show (UInt64.ofNat 8).toNat = 8 from rfl, u8i_eq, u8i_eq, ishl8, ior_eq, or_bytes, lenAt]
    have hx := (b.getD p 0).toNat_lt
    have hy := (b.getD (p + 1) 0).toNat_lt
    have hl : lenAt b p ≤ 65535 := by rw [lenAt]; omega
    by_cases h4 : (b.length : Int) < (p : Int) + 2 + lenAt b p
    · rw [Y_go]; conv => lhs; whnf
      rcases Bool.eq_false_or_eq_true (ine e 0) with hc0 | hc0
      · rw [hc0]; replace hc0 := of_ine_t hc0; try simp only [llen_eq] at hc0
        conv => lhs; whnf
        unfold rdB; (repeat (first | rw [if_pos (by first | omega | decide | assumption | (simp only [LL] at * <;> omega) | (simp; omega))] | rw [if_neg (by first | omega | decide | assumption | (simp only [LL] at * <;> omega) | (simp; omega))])); try simp only [NO]
      · rw [hc0]; replace hc0 := of_ine_f hc0; try simp only [llen_eq] at hc0
        subst hc0
        conv => lhs; whnf
        rw [toReq_call]
        rw [ev_take _ _ _ _ _ (by omega) (by omega) (by omega) (by omega)]
        conv => lhs; whnf
        rw [ine_f (by omega)]
        conv => lhs; whnf
        rw [g0]; conv => lhs; whnf
        rw [g1]; conv => lhs; whnf
        rw [hv]; conv => lhs; whnf
        rw [drw (by kernel_rfl)]; conv => lhs; whnf
        rcases Bool.eq_false_or_eq_true (ilt n ↑(lenAt b p)) with hc1 | hc1
        · rw [hc1]; replace hc1 := of_ilt_t hc1; try simp only [llen_eq] at hc1
          conv => lhs; whnf
          rw [toReq_call]
          rw [ev_fail _ _ _ _]
          conv => lhs; whnf
          unfold rdB; (repeat (first | rw [if_pos (by first | omega | decide | assumption | (simp only [LL] at * <;> omega) | (simp; omega))] | rw [if_neg (by first | omega | decide | assumption | (simp only [LL] at * <;> omega) | (simp; omega))])); try simp only [NO]
        · rw [hc1]; replace hc1 := of_ilt_f hc1; try simp only [llen_eq] at hc1
          conv => lhs; whnf
          rw [iadd_eq (by omega)]
          rw [toReq_call]
          rw [ev_take_f _ _ _ _ _ (by omega) (by omega) (by omega) (by omega)]
          conv => lhs; whnf
          rw [ine_t (by omega)]
          conv => lhs; whnf
          rw [toReq_call]
          rw [ev_fail _ _ _ _]
          conv => lhs; whnf
          unfold rdB; (repeat (first | rw [if_pos (by first | omega | decide | assumption | (simp only [LL] at * <;> omega) | (simp; omega))] | rw [if_neg (by first | omega | decide | assumption | (simp only [LL] at * <;> omega) | (simp; omega))])); try simp only [NO]
    · rw [Y_go]; conv => lhs; whnf
      rcases Bool.eq_false_or_eq_true (ine e 0) with hc0 | hc0
      · rw [hc0]; replace hc0 := of_ine_t hc0; try simp only [llen_eq] at hc0
        conv => lhs; whnf
        unfold rdB; (repeat (first | rw [if_pos (by first | omega | decide | assumption | (simp only [LL] at * <;> omega) | (simp; omega))] | rw [if_neg (by first | omega | decide | assumption | (simp only [LL] at * <;> omega) | (simp; omega))])); try simp only [NO]
      · rw [hc0]; replace hc0 := of_ine_f hc0; try simp only [llen_eq] at hc0
        subst hc0
        conv => lhs; whnf
        rw [toReq_call]
        rw [ev_take _ _ _ _ _ (by omega) (by omega) (by omega) (by omega)]
        conv => lhs; whnf
        rw [ine_f (by omega)]
        conv => lhs; whnf
        rw [g0]; conv => lhs; whnf
        rw [g1]; conv => lhs; whnf
        rw [hv]; conv => lhs; whnf
        rw [drw (by kernel_rfl)]; conv => lhs; whnf
        rcases Bool.eq_false_or_eq_true (ilt n ↑(lenAt b p)) with hc1 | hc1
        · rw [hc1]; replace hc1 := of_ilt_t hc1; try simp only [llen_eq] at hc1
          conv => lhs; whnf
          rw [toReq_call]
          rw [ev_fail _ _ _ _]
          conv => lhs; whnf
          unfold rdB; (repeat (first | rw [if_pos (by first | omega | decide | assumption | (simp only [LL] at * <;> omega) | (simp; omega))] | rw [if_neg (by first | omega | decide | assumption | (simp only [LL] at * <;> omega) | (simp; omega))])); try simp only [NO]
        · rw [hc1]; replace hc1 := of_ilt_f hc1; try simp only [llen_eq] at hc1
          conv => lhs; whnf
          rw [iadd_eq (by omega)]
          rw [toReq_call]
          rw [ev_take _ _ _ _ _ (by omega) (by omega) (by omega) (by omega)]
          conv => lhs; whnf
          rw [ine_f (by omega)]
          conv => lhs; whnf
          rw [fits_t (by (simp only [LL] at * <;> omega))]
          conv => lhs; whnf
          rw [iadd_eq (a := 2) (b := ↑(lenAt b p)) (by omega)]
          rw [iadd_eq (by omega)]
          unfold rdB; (repeat (first | rw [if_pos (by first | omega | decide | assumption | (simp only [LL] at * <;> omega) | (simp; omega))] | rw [if_neg (by first | omega | decide | assumption | (simp only [LL] at * <;> omega) | (simp; omega))])); simp only [show ((p : Int) + 2).toNat = p + 2 from by omega, show ((lenAt b p : Nat) : Int).toNat = lenAt b p from by omega]; rw [show (p : Int) + (2 + (lenAt b p : Int)) = ((p + 2 + lenAt b p : Nat) : Int) from by omega]
end Go.Proofs.Ytlaglaehkhmklaa
/-
  Own text: small functions around quotes, and the writers of quotes.
-/
namespace Go.Ax
abbrev attX (a : Att) : List AV := [.sl .u8 a.key, .sl .u8 a.nonce, .i a.resets, .i a.restarts, .i a.clock, .b a.safe, .i a.updates, .i a.s0, .i a.s1, .sl .u8 a.digest]
theorem magicB_len : magicB.length = 4 := rfl
end Go.Ax
namespace Go.Proofs.Ytlaglaehkhmklaa
open Go Go.Ax
set_option linter.unusedVariables false
set_option linter.unusedSimpArgs false
attribute [local irreducible] iadd isub imul iquo irem ibit ineg ieq ine ilt ile ishl ishr beq' bnot and' seq' u8op u32op u64op u8shr u8shl u64shr u64shl u32shr u32shl i64w u8i u64i iu8 iu32 iu64 u8u64 u64u8 u32u8 u64cmp u8cmp u32cmp llen lget linb lset lcut lrep lapp lcpy lemp fits fitn sealed drawChk fpSame
set_option maxHeartbeats 1000000
set_option maxRecDepth 100000
theorem ev_magic : Y E0 (.call 25 [] []) = some (.ret (.sl .u8 magicB) []) := by
  rw [Y_go]; conv => lhs; whnf
  rfl
theorem ev_att_encode_loop (b : List UInt8) (a : Att) (s0 s1 : Int) (hb : b.length ≤ 1000000) : Y E0 (.loop 8 0 0 2 [(1, .pa 0 0), (3, .nm 1), (37, .agg [.i s0, .i s1]), (38, .i 0)] [(0, some (.var (attX a))), (1, some (.row 5 .u8 b))]) = some (.fin (.exit 0) 2 [(1, .pa 0 0), (3, .nm 1)] [(0, some (.var (attX a))), (1, some (.row 5 .u8 (uintB (uintB b 2 s0) 2 s1)))]) := by
  dsimp only [attX]
  rw [Y_go]; conv => lhs; whnf
  rw [ilt_t (by omega)]
  conv => lhs; whnf
  rw [ile_t (by omega)]
  conv => lhs; whnf
  rw [ilt_t (by omega)]
  conv => lhs; whnf
  rw [toReq_call]
  rw [ev_uint _ _ _ (by omega)]
  conv => lhs; whnf
  rw [iadd_eq (by omega)]
  rw [Y_go]; conv => lhs; whnf
  rw [ilt_t (by omega)]
  conv => lhs; whnf
  rw [ile_t (by omega)]
  conv => lhs; whnf
  rw [ilt_t (by omega)]
  conv => lhs; whnf
  rw [toReq_call]
  rw [ev_uint _ _ _ (by (simp only [uintB_l8, uintB_l4, uintB_l3, uintB_l2, uintB_l1, blobB_l, seedB_len, magicB_len, LL] at * <;> omega))]
  conv => lhs; whnf
  rw [iadd_eq (by omega)]
  rw [Y_go]; conv => lhs; whnf
  rw [ilt_f (by omega)]
  conv => lhs; whnf
theorem ev_att_encode (a : Att) (hk : a.key.length ≤ 100000) (hn : a.nonce.length ≤ 100000) (hd : a.digest.length ≤ 100000) : Y E0 (.call 8 [.agg (attX a)] []) = some (.ret (.sl .u8 (encA a)) []) := by
  obtain ⟨key, nonce, resets, restarts, clock, safe, updates, s0, s1, digest⟩ := a
  simp only at hk hn hd
  dsimp only [attX]
  cases safe
  · have hlp := fun b hb => ev_att_encode_loop b ⟨key, nonce, resets, restarts, clock, false, updates, s0, s1, digest⟩ s0 s1 hb
    dsimp only [attX] at hlp
    rw [Y_go]; conv => lhs; whnf
    rw [toReq_call]
    rw [ev_blob _ _ (by (simp only [uintB_l8, uintB_l4, uintB_l3, uintB_l2, uintB_l1, blobB_l, seedB_len, magicB_len, LL] at * <;> omega))]
    conv => lhs; whnf
    rw [toReq_call]
    rw [ev_blob _ _ (by (simp only [uintB_l8, uintB_l4, uintB_l3, uintB_l2, uintB_l1, blobB_l, seedB_len, magicB_len, LL] at * <;> omega))]
    conv => lhs; whnf
    rw [drw (by kernel_rfl)]; conv => lhs; whnf
    rw [toReq_call]
    rw [ev_uint _ _ _ (by (simp only [uintB_l8, uintB_l4, uintB_l3, uintB_l2, uintB_l1, blobB_l, seedB_len, magicB_len, LL] at * <;> omega))]
    conv => lhs; whnf
    rw [toReq_call]
    rw [ev_uint _ _ _ (by (simp only [uintB_l8, uintB_l4, uintB_l3, uintB_l2, uintB_l1, blobB_l, seedB_len, magicB_len, LL] at * <;> omega))]
    conv => lhs; whnf
    rw [toReq_call]
    rw [ev_uint _ _ _ (by (simp only [uintB_l8, uintB_l4, uintB_l3, uintB_l2, uintB_l1, blobB_l, seedB_len, magicB_len, LL] at * <;> omega))]
    conv => lhs; whnf
    rw [Y_go]; conv => lhs; whnf
    rw [toReq_call]
    rw [ev_uint _ _ _ (by (simp only [uintB_l8, uintB_l4, uintB_l3, uintB_l2, uintB_l1, blobB_l, seedB_len, magicB_len, LL] at * <;> omega))]
    conv => lhs; whnf
    rw [toReq_call]
    rw [ev_uint _ _ _ (by (simp only [uintB_l8, uintB_l4, uintB_l3, uintB_l2, uintB_l1, blobB_l, seedB_len, magicB_len, LL] at * <;> omega))]
    conv => lhs; whnf
    rw [toReq_loop]
    rw [hlp _ (by first | omega | decide | assumption | (simp only [uintB_l8, uintB_l4, uintB_l3, uintB_l2, uintB_l1, blobB_l, seedB_len, magicB_len, LL] at * <;> omega) | (simp; omega))]
    conv => lhs; whnf
    rw [fits_t (by (simp only [uintB_l8, uintB_l4, uintB_l3, uintB_l2, uintB_l1, blobB_l, seedB_len, magicB_len, LL] at * <;> omega))]
    conv => lhs; whnf
    rw [lapp_eq]; rfl
  · have hlp := fun b hb => ev_att_encode_loop b ⟨key, nonce, resets, restarts, clock, true, updates, s0, s1, digest⟩ s0 s1 hb
    dsimp only [attX] at hlp
    rw [Y_go]; conv => lhs; whnf
    rw [toReq_call]
    rw [ev_blob _ _ (by (simp only [uintB_l8, uintB_l4, uintB_l3, uintB_l2, uintB_l1, blobB_l, seedB_len, magicB_len, LL] at * <;> omega))]
    conv => lhs; whnf
    rw [toReq_call]
    rw [ev_blob _ _ (by (simp only [uintB_l8, uintB_l4, uintB_l3, uintB_l2, uintB_l1, blobB_l, seedB_len, magicB_len, LL] at * <;> omega))]
    conv => lhs; whnf
    rw [drw (by kernel_rfl)]; conv => lhs; whnf
    rw [toReq_call]
    rw [ev_uint _ _ _ (by (simp only [uintB_l8, uintB_l4, uintB_l3, uintB_l2, uintB_l1, blobB_l, seedB_len, magicB_len, LL] at * <;> omega))]
    conv => lhs; whnf
    rw [toReq_call]
    rw [ev_uint _ _ _ (by (simp only [uintB_l8, uintB_l4, uintB_l3, uintB_l2, uintB_l1, blobB_l, seedB_len, magicB_len, LL] at * <;> omega))]
    conv => lhs; whnf
    rw [toReq_call]
    rw [ev_uint _ _ _ (by (simp only [uintB_l8, uintB_l4, uintB_l3, uintB_l2, uintB_l1, blobB_l, seedB_len, magicB_len, LL] at * <;> omega))]
    conv => lhs; whnf
    rw [Y_go]; conv => lhs; whnf
    rw [toReq_call]
    rw [ev_uint _ _ _ (by (simp only [uintB_l8, uintB_l4, uintB_l3, uintB_l2, uintB_l1, blobB_l, seedB_len, magicB_len, LL] at * <;> omega))]
    conv => lhs; whnf
    rw [toReq_call]
    rw [ev_uint _ _ _ (by (simp only [uintB_l8, uintB_l4, uintB_l3, uintB_l2, uintB_l1, blobB_l, seedB_len, magicB_len, LL] at * <;> omega))]
    conv => lhs; whnf
    rw [toReq_loop]
    rw [hlp _ (by first | omega | decide | assumption | (simp only [uintB_l8, uintB_l4, uintB_l3, uintB_l2, uintB_l1, blobB_l, seedB_len, magicB_len, LL] at * <;> omega) | (simp; omega))]
    conv => lhs; whnf
    rw [fits_t (by (simp only [uintB_l8, uintB_l4, uintB_l3, uintB_l2, uintB_l1, blobB_l, seedB_len, magicB_len, LL] at * <;> omega))]
    conv => lhs; whnf
    rw [lapp_eq]; rfl
theorem ev_r16_encode (a : Att) (hk : a.key.length ≤ 100000) (hn : a.nonce.length ≤ 100000) (hd : a.digest.length ≤ 100000) : Y E0 (.call 11 [.agg (attX a)] []) = some (.ret (.nm 0) [some (.row 5 .u8 (encA a))]) := by
  obtain ⟨key, nonce, resets, restarts, clock, safe, updates, s0, s1, digest⟩ := a
  simp only at hk hn hd
  dsimp only [attX]
  cases safe
  · rw [Y_go]; conv => lhs; whnf
    rw [toReq_call]
    rw [ev_magic]
    conv => lhs; whnf
    rw [toReq_call]
    rw [ev_r3blob _ _ (by (simp only [uintB_l8, uintB_l4, uintB_l3, uintB_l2, uintB_l1, blobB_l, seedB_len, magicB_len, LL] at * <;> omega))]
    conv => lhs; whnf
    rw [toReq_call]
    rw [ev_r3blob _ _ (by (simp only [uintB_l8, uintB_l4, uintB_l3, uintB_l2, uintB_l1, blobB_l, seedB_len, magicB_len, LL] at * <;> omega))]
    conv => lhs; whnf
    rw [drw (by kernel_rfl)]; conv => lhs; whnf
    rw [toReq_call]
    rw [ev_r3uint _ _ _ (by (simp only [uintB_l8, uintB_l4, uintB_l3, uintB_l2, uintB_l1, blobB_l, seedB_len, magicB_len, LL] at * <;> omega))]
    conv => lhs; whnf
    rw [toReq_call]
    rw [ev_r3uint _ _ _ (by (simp only [uintB_l8, uintB_l4, uintB_l3, uintB_l2, uintB_l1, blobB_l, seedB_len, magicB_len, LL] at * <;> omega))]
    conv => lhs; whnf
    rw [toReq_call]
    rw [ev_r3uint _ _ _ (by (simp only [uintB_l8, uintB_l4, uintB_l3, uintB_l2, uintB_l1, blobB_l, seedB_len, magicB_len, LL] at * <;> omega))]
    conv => lhs; whnf
    rw [drw (by kernel_rfl)]; conv => lhs; whnf
    rw [Y_go]; conv => lhs; whnf
    rw [fits_t (by (simp only [uintB_l8, uintB_l4, uintB_l3, uintB_l2, uintB_l1, blobB_l, seedB_len, magicB_len, LL] at * <;> omega))]
    conv => lhs; whnf
    rw [toReq_call]
    rw [ev_r3uint _ _ _ (by (simp only [uintB_l8, uintB_l4, uintB_l3, uintB_l2, uintB_l1, blobB_l, seedB_len, magicB_len, LL] at * <;> omega))]
    conv => lhs; whnf
    rw [drw (by kernel_rfl)]; conv => lhs; whnf
    rw [ile_t (by omega)]
    conv => lhs; whnf
    rw [ilt_t (by omega)]
    conv => lhs; whnf
    rw [toReq_call]
    rw [ev_r3uint _ _ _ (by (simp only [uintB_l8, uintB_l4, uintB_l3, uintB_l2, uintB_l1, blobB_l, seedB_len, magicB_len, LL] at * <;> omega))]
    conv => lhs; whnf
    rw [ile_t (by omega)]
    conv => lhs; whnf
    rw [ilt_t (by omega)]
    conv => lhs; whnf
    rw [toReq_call]
    rw [ev_r3uint _ _ _ (by (simp only [uintB_l8, uintB_l4, uintB_l3, uintB_l2, uintB_l1, blobB_l, seedB_len, magicB_len, LL] at * <;> omega))]
    conv => lhs; whnf
    rw [fits_t (by (simp only [uintB_l8, uintB_l4, uintB_l3, uintB_l2, uintB_l1, blobB_l, seedB_len, magicB_len, LL] at * <;> omega))]
    conv => lhs; whnf
    rw [drw (by kernel_rfl)]; conv => lhs; whnf
    simp only [lapp_eq, encA, cond_false, cond_true, uintB0, uintB1, iu8_eq]; rfl
  · rw [Y_go]; conv => lhs; whnf
    rw [toReq_call]
    rw [ev_magic]
    conv => lhs; whnf
    rw [toReq_call]
    rw [ev_r3blob _ _ (by (simp only [uintB_l8, uintB_l4, uintB_l3, uintB_l2, uintB_l1, blobB_l, seedB_len, magicB_len, LL] at * <;> omega))]
    conv => lhs; whnf
    rw [toReq_call]
    rw [ev_r3blob _ _ (by (simp only [uintB_l8, uintB_l4, uintB_l3, uintB_l2, uintB_l1, blobB_l, seedB_len, magicB_len, LL] at * <;> omega))]
    conv => lhs; whnf
    rw [drw (by kernel_rfl)]; conv => lhs; whnf
    rw [toReq_call]
    rw [ev_r3uint _ _ _ (by (simp only [uintB_l8, uintB_l4, uintB_l3, uintB_l2, uintB_l1, blobB_l, seedB_len, magicB_len, LL] at * <;> omega))]
    conv => lhs; whnf
    rw [toReq_call]
    rw [ev_r3uint _ _ _ (by (simp only [uintB_l8, uintB_l4, uintB_l3, uintB_l2, uintB_l1, blobB_l, seedB_len, magicB_len, LL] at * <;> omega))]
    conv => lhs; whnf
    rw [toReq_call]
    rw [ev_r3uint _ _ _ (by (simp only [uintB_l8, uintB_l4, uintB_l3, uintB_l2, uintB_l1, blobB_l, seedB_len, magicB_len, LL] at * <;> omega))]
    conv => lhs; whnf
    rw [drw (by kernel_rfl)]; conv => lhs; whnf
    rw [Y_go]; conv => lhs; whnf
    rw [fits_t (by (simp only [uintB_l8, uintB_l4, uintB_l3, uintB_l2, uintB_l1, blobB_l, seedB_len, magicB_len, LL] at * <;> omega))]
    conv => lhs; whnf
    rw [toReq_call]
    rw [ev_r3uint _ _ _ (by (simp only [uintB_l8, uintB_l4, uintB_l3, uintB_l2, uintB_l1, blobB_l, seedB_len, magicB_len, LL] at * <;> omega))]
    conv => lhs; whnf
    rw [drw (by kernel_rfl)]; conv => lhs; whnf
    rw [ile_t (by omega)]
    conv => lhs; whnf
    rw [ilt_t (by omega)]
    conv => lhs; whnf
    rw [toReq_call]
    rw [ev_r3uint _ _ _ (by (simp only [uintB_l8, uintB_l4, uintB_l3, uintB_l2, uintB_l1, blobB_l, seedB_len, magicB_len, LL] at * <;> omega))]
    conv => lhs; whnf
    rw [ile_t (by omega)]
    conv => lhs; whnf
    rw [ilt_t (by omega)]
    conv => lhs; whnf
    rw [toReq_call]
    rw [ev_r3uint _ _ _ (by (simp only [uintB_l8, uintB_l4, uintB_l3, uintB_l2, uintB_l1, blobB_l, seedB_len, magicB_len, LL] at * <;> omega))]
    conv => lhs; whnf
    rw [fits_t (by (simp only [uintB_l8, uintB_l4, uintB_l3, uintB_l2, uintB_l1, blobB_l, seedB_len, magicB_len, LL] at * <;> omega))]
    conv => lhs; whnf
    rw [drw (by kernel_rfl)]; conv => lhs; whnf
    simp only [lapp_eq, encA, cond_false, cond_true, uintB0, uintB1, iu8_eq]; rfl
end Go.Proofs.Ytlaglaehkhmklaa
/-
  Own text: the readers of quotes.
-/
namespace Go.Proofs.Ytlaglaehkhmklaa
open Go Go.Ax
set_option linter.unusedVariables false
set_option linter.unusedSimpArgs false
attribute [local irreducible] iadd isub imul iquo irem ibit ineg ieq ine ilt ile ishl ishr beq' bnot and' seq' u8op u32op u64op u8shr u8shl u64shr u64shl u32shr u32shl i64w u8i u64i iu8 iu32 iu64 u8u64 u64u8 u32u8 u64cmp u8cmp u32cmp llen lget linb lset lcut lrep lapp lcpy lemp fits fitn sealed drawChk fpSame
set_option maxHeartbeats 4000000
set_option maxRecDepth 100000
theorem ev_r16_decode (b : List UInt8) (hb : b.length ≤ 4294967296) : Y E0 (.call 13 [.sl .u8 b] []) = some (.ret (.tup [.agg (attX (decA b).1), .i (decA b).2]) []) := by
  rw [Y_go]; conv => lhs; whnf
  rw [toReq_call]
  rw [ev_r3new _]
  conv => lhs; whnf
  rw [toReq_call]
  rw [show Y E0 (.call 28 [.pa 0 0, .i 4] [.var [.sl .u8 b, .i 0, .i 0]]) = _ from ev_r3raw b 0 0 4 hb (Nat.zero_le _) (by decide)]; generalize g0 : rdR b 0 0 4 = x0; obtain ⟨v0, p0, er0⟩ := x0; have k0 : p0 ≤ b.length := (by have := rdR_le (b := b) (at' := 0) (e := 0) (n := 4) (Nat.zero_le _); rw [g0] at this; exact this); have l0 : v0.length ≤ b.length := (by have := rdR_len (b := b) (at' := 0) (e := 0) (n := 4); rw [g0] at this; exact this)
  conv => lhs; whnf
  rcases Bool.eq_false_or_eq_true (ine (v0, p0, er0).snd.snd 0) with hc0 | hc0
  · rw [hc0]; replace hc0 := of_ine_t hc0; try simp only [llen_eq] at hc0
    conv => lhs; whnf
    rw [drw (by kernel_rfl)]; conv => lhs; whnf
    rw [decA_e g0 (by assumption)]; rfl
  · rw [hc0]; replace hc0 := of_ine_f hc0; try simp only [llen_eq] at hc0
    subst hc0
    conv => lhs; whnf
    rw [toReq_call]
    rw [ev_magic]
    conv => lhs; whnf
    rw [toReq_call]
    rw [ev_same _ _ (by (simp only [LL] at * <;> omega))]
    conv => lhs; whnf
    rw [bnot_eq]; conv => lhs; whnf
    rcases Bool.eq_false_or_eq_true (decide ((v0, p0, 0).fst = magicB)) with hc1 | hc1
    · rw [hc1]; replace hc1 := of_decide_eq_true hc1; try simp only at hc1
      conv => lhs; whnf
      rw [toReq_call]
      rw [ev_r3rblob b p0 0 32 hb k0]; generalize g1 : rdB b p0 0 32 = x1; obtain ⟨v1, p1, er1⟩ := x1; have k1 : p1 ≤ b.length := (by have := rdB_le (b := b) (at' := p0) (e := 0) (most := 32) k0; rw [g1] at this; exact this); have l1 : v1.length ≤ b.length := (by have := rdB_len (b := b) (at' := p0) (e := 0) (most := 32); rw [g1] at this; exact this)
      conv => lhs; whnf
      rw [toReq_call]
      rw [ev_r3rblob b p1 er1 128 hb k1]; generalize g2 : rdB b p1 er1 128 = x2; obtain ⟨v2, p2, er2⟩ := x2; have k2 : p2 ≤ b.length := (by have := rdB_le (b := b) (at' := p1) (e := er1) (most := 128) k1; rw [g2] at this; exact this); have l2 : v2.length ≤ b.length := (by have := rdB_len (b := b) (at' := p1) (e := er1) (most := 128); rw [g2] at this; exact this)
      conv => lhs; whnf
      rw [toReq_call]
      rw [ev_r3ruint b p2 er2 8 hb k2]; generalize g3 : rdU b p2 er2 8 = x3; obtain ⟨v3, p3, er3⟩ := x3; have k3 : p3 ≤ b.length := (by have := rdU_le (b := b) (at' := p2) (e := er2) (size := 8) k2; rw [g3] at this; exact this)
      conv => lhs; whnf
      rw [toReq_call]
      rw [ev_r3ruint b p3 er3 8 hb k3]; generalize g4 : rdU b p3 er3 8 = x4; obtain ⟨v4, p4, er4⟩ := x4; have k4 : p4 ≤ b.length := (by have := rdU_le (b := b) (at' := p3) (e := er3) (size := 8) k3; rw [g4] at this; exact this)
      conv => lhs; whnf
      rw [toReq_call]
      rw [ev_r3ruint b p4 er4 8 hb k4]; generalize g5 : rdU b p4 er4 8 = x5; obtain ⟨v5, p5, er5⟩ := x5; have k5 : p5 ≤ b.length := (by have := rdU_le (b := b) (at' := p4) (e := er4) (size := 8) k4; rw [g5] at this; exact this)
      conv => lhs; whnf
      rw [toReq_call]
      rw [ev_r3ruint b p5 er5 1 hb k5]; generalize g6 : rdU b p5 er5 1 = x6; obtain ⟨v6, p6, er6⟩ := x6; have k6 : p6 ≤ b.length := (by have := rdU_le (b := b) (at' := p5) (e := er5) (size := 1) k5; rw [g6] at this; exact this)
      conv => lhs; whnf
      rw [toReq_call]
      rw [ev_r3ruint b p6 er6 8 hb k6]; generalize g7 : rdU b p6 er6 8 = x7; obtain ⟨v7, p7, er7⟩ := x7; have k7 : p7 ≤ b.length := (by have := rdU_le (b := b) (at' := p6) (e := er6) (size := 8) k6; rw [g7] at this; exact this)
      conv => lhs; whnf
      rw [toReq_call]
      rw [ev_r3ruint b p7 er7 2 hb k7]; generalize g8 : rdU b p7 er7 2 = x8; obtain ⟨v8, p8, er8⟩ := x8; have k8 : p8 ≤ b.length := (by have := rdU_le (b := b) (at' := p7) (e := er7) (size := 2) k7; rw [g8] at this; exact this)
      conv => lhs; whnf
      rw [ile_t (by omega)]
      conv => lhs; whnf
      rw [ilt_t (by omega)]
      conv => lhs; whnf
      rw [toReq_call]
      rw [ev_r3ruint b p8 er8 2 hb k8]; generalize g9 : rdU b p8 er8 2 = x9; obtain ⟨v9, p9, er9⟩ := x9; have k9 : p9 ≤ b.length := (by have := rdU_le (b := b) (at' := p8) (e := er8) (size := 2) k8; rw [g9] at this; exact this)
      conv => lhs; whnf
      rw [ile_t (by omega)]
      conv => lhs; whnf
      rw [ilt_t (by omega)]
      conv => lhs; whnf
      rw [toReq_call]
      rw [ev_r3raw b p9 er9 32 hb k9 (by decide)]; generalize g10 : rdR b p9 er9 32 = x10; obtain ⟨v10, p10, er10⟩ := x10; have k10 : p10 ≤ b.length := (by have := rdR_le (b := b) (at' := p9) (e := er9) (n := 32) k9; rw [g10] at this; exact this); have l10 : v10.length ≤ b.length := (by have := rdR_len (b := b) (at' := p9) (e := er9) (n := 32); rw [g10] at this; exact this)
      conv => lhs; whnf
      rw [toReq_call]
      rw [ev_r3end _ _ _ (by omega) (by omega)]
      conv => lhs; whnf
      rw [Y_go]; conv => lhs; whnf
      rcases Bool.eq_false_or_eq_true (ine (rdE b (v10, p10, er10).snd.fst (v10, p10, er10).snd.snd) 0) with hc2 | hc2
      · rw [hc2]; replace hc2 := of_ine_t hc2; try simp only [llen_eq] at hc2
        conv => lhs; whnf
        rw [decA_of g0 (by assumption) g1 g2 g3 g4 g5 g6 g7 g8 g9 g10]; (repeat (first | rw [if_pos (by first | omega | decide | assumption | (simp only [LL] at * <;> omega) | (simp; omega))] | rw [if_neg (by first | omega | decide | assumption | (simp only [LL] at * <;> omega) | (simp; omega))])); rfl
      · rw [hc2]; replace hc2 := of_ine_f hc2; try simp only [llen_eq] at hc2
        conv => lhs; whnf
        rcases Bool.eq_false_or_eq_true (ine (llen (v1, p1, er1).fst) 32) with hc3 | hc3
        · rw [hc3]; replace hc3 := of_ine_t hc3; try simp only [llen_eq] at hc3
          conv => lhs; whnf
          rw [decA_of g0 (by assumption) g1 g2 g3 g4 g5 g6 g7 g8 g9 g10]; (repeat (first | rw [if_pos (by first | omega | decide | assumption | (simp only [LL] at * <;> omega) | (simp; omega))] | rw [if_neg (by first | omega | decide | assumption | (simp only [LL] at * <;> omega) | (simp; omega))])); rfl
        · rw [hc3]; replace hc3 := of_ine_f hc3; try simp only [llen_eq] at hc3
          conv => lhs; whnf
          rcases Bool.eq_false_or_eq_true (ilt 1 (v6, p6, er6).fst) with hc4 | hc4
          · rw [hc4]; replace hc4 := of_ilt_t hc4; try simp only [llen_eq] at hc4
            conv => lhs; whnf
            rw [decA_of g0 (by assumption) g1 g2 g3 g4 g5 g6 g7 g8 g9 g10]; (repeat (first | rw [if_pos (by first | omega | decide | assumption | (simp only [LL] at * <;> omega) | (simp; omega))] | rw [if_neg (by first | omega | decide | assumption | (simp only [LL] at * <;> omega) | (simp; omega))])); rfl
          · rw [hc4]; replace hc4 := of_ilt_f hc4; try simp only [llen_eq] at hc4
            conv => lhs; whnf
            rw [decA_of g0 (by assumption) g1 g2 g3 g4 g5 g6 g7 g8 g9 g10]; (repeat (first | rw [if_pos (by first | omega | decide | assumption | (simp only [LL] at * <;> omega) | (simp; omega))] | rw [if_neg (by first | omega | decide | assumption | (simp only [LL] at * <;> omega) | (simp; omega))])); rw [← ieq_beq]
    · rw [hc1]; replace hc1 := of_decide_eq_false hc1; try simp only at hc1
      conv => lhs; whnf
      rw [decA_m g0 (by assumption)]; rfl
end Go.Proofs.Ytlaglaehkhmklaa
/-
  Own text: the readers of quotes.
-/
namespace Go.Proofs.Ytlaglaehkhmklaa
open Go Go.Ax
set_option linter.unusedVariables false
set_option linter.unusedSimpArgs false
attribute [local irreducible] iadd isub imul iquo irem ibit ineg ieq ine ilt ile ishl ishr beq' bnot and' seq' u8op u32op u64op u8shr u8shl u64shr u64shl u32shr u32shl i64w u8i u64i iu8 iu32 iu64 u8u64 u64u8 u32u8 u64cmp u8cmp u32cmp llen lget linb lset lcut lrep lapp lcpy lemp fits fitn sealed drawChk fpSame
set_option maxHeartbeats 4000000
set_option maxRecDepth 100000
theorem ev_att_decode_loop (b v1 v2 : List UInt8) (v3 v4 v5 v6 v7 : Int) {p p8 p9 : Nat} {e v8 e8 v9 e9 : Int} (hb : b.length ≤ 4294967296) (hp : p ≤ b.length) (g8 : rdU b p e 2 = (v8, p8, e8)) (g9 : rdU b p8 e8 2 = (v9, p9, e9)) :
    Y E0 (.loop 9 0 0 2 [(2, .pa 0 0), (4, .pa 1 0), (6, .i v6), (43, .i 0)] [(0, some (.var [.sl .u8 v1, .sl .u8 v2, .i v3, .i v4, .i v5, .b false, .i v7, .i 0, .i 0, .nil])), (1, some (.var [.sl .u8 b, .i p, .i e]))]) = some (.fin (.exit 0) 2 [(2, .pa 0 0), (4, .pa 1 0), (6, .i v6)] [(0, some (.var [.sl .u8 v1, .sl .u8 v2, .i v3, .i v4, .i v5, .b false, .i v7, .i v8, .i v9, .nil])), (1, some (.var [.sl .u8 b, .i p9, .i e9]))]) := by
  have k8 : p8 ≤ b.length := by have := rdU_le (b := b) (at' := p) (e := e) (size := 2) hp; rw [g8] at this; exact this
  rw [Y_go]; conv => lhs; whnf
  rw [ilt_t (by omega)]
  conv => lhs; whnf
  rw [toReq_call]
  rw [ev_ruint b p e 2 hb hp, g8]
  conv => lhs; whnf
  rw [ile_t (by omega)]
  conv => lhs; whnf
  rw [ilt_t (by omega)]
  conv => lhs; whnf
  rw [iadd_eq (by omega)]
  rw [Y_go]; conv => lhs; whnf
  rw [ilt_t (by omega)]
  conv => lhs; whnf
  rw [toReq_call]
  rw [ev_ruint b p8 e8 2 hb k8, g9]
  conv => lhs; whnf
  rw [ile_t (by omega)]
  conv => lhs; whnf
  rw [ilt_t (by omega)]
  conv => lhs; whnf
  rw [iadd_eq (by omega)]
  rw [Y_go]; conv => lhs; whnf
  rw [ilt_f (by omega)]
  conv => lhs; whnf
theorem ev_att_decode (b : List UInt8) (hb : b.length ≤ 4294967296) : Y E0 (.call 9 [.sl .u8 b] []) = some (.ret (.tup [.agg (attX (decA b).1), .i (decA b).2]) []) := by
  rw [Y_go]; conv => lhs; whnf
  rw [toReq_call]
  rw [ev_new _ (by omega)]
  conv => lhs; whnf
  rw [toReq_call]
  rw [show Y E0 (.call 19 [.pa 0 0, .i 4] [.var [.sl .u8 b, .i 0, .i 0]]) = _ from ev_raw b 0 0 4 hb (Nat.zero_le _) (by decide)]; generalize g0 : rdR b 0 0 4 = x0; obtain ⟨v0, p0, er0⟩ := x0; have k0 : p0 ≤ b.length := (by have := rdR_le (b := b) (at' := 0) (e := 0) (n := 4) (Nat.zero_le _); rw [g0] at this; exact this); have l0 : v0.length ≤ b.length := (by have := rdR_len (b := b) (at' := 0) (e := 0) (n := 4); rw [g0] at this; exact this)
  conv => lhs; whnf
  rw [toReq_call]
  rw [ev_rerr _ _ _]
  conv => lhs; whnf
  rcases Bool.eq_false_or_eq_true (ine (v0, p0, er0).snd.snd 0) with hc0 | hc0
  · rw [hc0]; replace hc0 := of_ine_t hc0; try simp only [llen_eq] at hc0
    conv => lhs; whnf
    rw [toReq_call]
    rw [ev_rerr _ _ _]
    conv => lhs; whnf
    rw [decA_e g0 (by assumption)]; rfl
  · rw [hc0]; replace hc0 := of_ine_f hc0; try simp only [llen_eq] at hc0
    subst hc0
    conv => lhs; whnf
    rw [bnot_eq]; conv => lhs; whnf
    rcases Bool.eq_false_or_eq_true (seq' (v0, p0, 0).fst (strOf { data := #[83, 87, 81, 49] })) with hc1 | hc1
    · rw [hc1]; replace hc1 := of_seq_t hc1; try simp only [llen_eq] at hc1
      conv => lhs; whnf
      rw [toReq_call]
      rw [ev_rblob b p0 0 32 hb k0]; generalize g1 : rdB b p0 0 32 = x1; obtain ⟨v1, p1, er1⟩ := x1; have k1 : p1 ≤ b.length := (by have := rdB_le (b := b) (at' := p0) (e := 0) (most := 32) k0; rw [g1] at this; exact this); have l1 : v1.length ≤ b.length := (by have := rdB_len (b := b) (at' := p0) (e := 0) (most := 32); rw [g1] at this; exact this)
      conv => lhs; whnf
      rw [toReq_call]
      rw [ev_rblob b p1 er1 128 hb k1]; generalize g2 : rdB b p1 er1 128 = x2; obtain ⟨v2, p2, er2⟩ := x2; have k2 : p2 ≤ b.length := (by have := rdB_le (b := b) (at' := p1) (e := er1) (most := 128) k1; rw [g2] at this; exact this); have l2 : v2.length ≤ b.length := (by have := rdB_len (b := b) (at' := p1) (e := er1) (most := 128); rw [g2] at this; exact this)
      conv => lhs; whnf
      rw [toReq_call]
      rw [ev_ruint b p2 er2 8 hb k2]; generalize g3 : rdU b p2 er2 8 = x3; obtain ⟨v3, p3, er3⟩ := x3; have k3 : p3 ≤ b.length := (by have := rdU_le (b := b) (at' := p2) (e := er2) (size := 8) k2; rw [g3] at this; exact this)
      conv => lhs; whnf
      rw [toReq_call]
      rw [ev_ruint b p3 er3 8 hb k3]; generalize g4 : rdU b p3 er3 8 = x4; obtain ⟨v4, p4, er4⟩ := x4; have k4 : p4 ≤ b.length := (by have := rdU_le (b := b) (at' := p3) (e := er3) (size := 8) k3; rw [g4] at this; exact this)
      conv => lhs; whnf
      rw [toReq_call]
      rw [ev_ruint b p4 er4 8 hb k4]; generalize g5 : rdU b p4 er4 8 = x5; obtain ⟨v5, p5, er5⟩ := x5; have k5 : p5 ≤ b.length := (by have := rdU_le (b := b) (at' := p4) (e := er4) (size := 8) k4; rw [g5] at this; exact this)
      conv => lhs; whnf
      rw [toReq_call]
      rw [ev_ruint b p5 er5 1 hb k5]; generalize g6 : rdU b p5 er5 1 = x6; obtain ⟨v6, p6, er6⟩ := x6; have k6 : p6 ≤ b.length := (by have := rdU_le (b := b) (at' := p5) (e := er5) (size := 1) k5; rw [g6] at this; exact this)
      conv => lhs; whnf
      rw [toReq_call]
      rw [ev_ruint b p6 er6 8 hb k6]; generalize g7 : rdU b p6 er6 8 = x7; obtain ⟨v7, p7, er7⟩ := x7; have k7 : p7 ≤ b.length := (by have := rdU_le (b := b) (at' := p6) (e := er6) (size := 8) k6; rw [g7] at this; exact this)
      conv => lhs; whnf
      rw [toReq_loop]
      generalize g8 : rdU b p7 er7 2 = x8; obtain ⟨v8, p8, er8⟩ := x8; generalize g9 : rdU b p8 er8 2 = x9; obtain ⟨v9, p9, er9⟩ := x9; have k8 : p8 ≤ b.length := (by have := rdU_le (b := b) (at' := p7) (e := er7) (size := 2) k7; rw [g8] at this; exact this); have k9 : p9 ≤ b.length := (by have := rdU_le (b := b) (at' := p8) (e := er8) (size := 2) k8; rw [g9] at this; exact this); rw [ev_att_decode_loop b v1 v2 v3 v4 v5 v6 v7 hb k7 g8 g9]
      conv => lhs; whnf
      rw [toReq_call]
      rw [ev_raw b p9 er9 32 hb k9 (by decide)]; generalize g10 : rdR b p9 er9 32 = x10; obtain ⟨v10, p10, er10⟩ := x10; have k10 : p10 ≤ b.length := (by have := rdR_le (b := b) (at' := p9) (e := er9) (n := 32) k9; rw [g10] at this; exact this); have l10 : v10.length ≤ b.length := (by have := rdR_len (b := b) (at' := p9) (e := er9) (n := 32); rw [g10] at this; exact this)
      conv => lhs; whnf
      rw [toReq_call]
      rw [ev_rend _ _ _ (by omega) (by omega)]
      conv => lhs; whnf
      rcases Bool.eq_false_or_eq_true (ine (rdE b (v10, p10, er10).snd.fst (v10, p10, er10).snd.snd) 0) with hc2 | hc2
      · rw [hc2]; replace hc2 := of_ine_t hc2; try simp only [llen_eq] at hc2
        conv => lhs; whnf
        rw [decA_of g0 (by assumption) g1 g2 g3 g4 g5 g6 g7 g8 g9 g10]; (repeat (first | rw [if_pos (by first | omega | decide | assumption | (simp only [LL] at * <;> omega) | (simp; omega))] | rw [if_neg (by first | omega | decide | assumption | (simp only [LL] at * <;> omega) | (simp; omega))])); rfl
      · rw [hc2]; replace hc2 := of_ine_f hc2; try simp only [llen_eq] at hc2
        conv => lhs; whnf
        rcases Bool.eq_false_or_eq_true (ine (llen v1) 32) with hc3 | hc3
        · rw [hc3]; replace hc3 := of_ine_t hc3; try simp only [llen_eq] at hc3
          conv => lhs; whnf
          rw [Y_go]; conv => lhs; whnf
          rw [decA_of g0 (by assumption) g1 g2 g3 g4 g5 g6 g7 g8 g9 g10]; (repeat (first | rw [if_pos (by first | omega | decide | assumption | (simp only [LL] at * <;> omega) | (simp; omega))] | rw [if_neg (by first | omega | decide | assumption | (simp only [LL] at * <;> omega) | (simp; omega))])); rfl
        · rw [hc3]; replace hc3 := of_ine_f hc3; try simp only [llen_eq] at hc3
          conv => lhs; whnf
          rw [Y_go]; conv => lhs; whnf
          rcases Bool.eq_false_or_eq_true (ilt 1 v6) with hc4 | hc4
          · rw [hc4]; replace hc4 := of_ilt_t hc4; try simp only [llen_eq] at hc4
            conv => lhs; whnf
            rw [decA_of g0 (by assumption) g1 g2 g3 g4 g5 g6 g7 g8 g9 g10]; (repeat (first | rw [if_pos (by first | omega | decide | assumption | (simp only [LL] at * <;> omega) | (simp; omega))] | rw [if_neg (by first | omega | decide | assumption | (simp only [LL] at * <;> omega) | (simp; omega))])); rfl
          · rw [hc4]; replace hc4 := of_ilt_f hc4; try simp only [llen_eq] at hc4
            conv => lhs; whnf
            rw [decA_of g0 (by assumption) g1 g2 g3 g4 g5 g6 g7 g8 g9 g10]; (repeat (first | rw [if_pos (by first | omega | decide | assumption | (simp only [LL] at * <;> omega) | (simp; omega))] | rw [if_neg (by first | omega | decide | assumption | (simp only [LL] at * <;> omega) | (simp; omega))])); rw [← ieq_beq]
    · rw [hc1]; replace hc1 := of_seq_f hc1; try simp only [llen_eq] at hc1
      conv => lhs; whnf
      rw [decA_m g0 (by assumption)]; rfl
end Go.Proofs.Ytlaglaehkhmklaa
/-
  Own text: what the statements on quotes call besides.
-/
namespace Go.Ax
def sameQ (a b : Att) : Bool := decide (a.key = b.key) && (decide (a.nonce = b.nonce) && (decide (a.resets = b.resets) && (decide (a.restarts = b.restarts) && (decide (a.clock = b.clock) && ((a.safe == b.safe) && (decide (a.updates = b.updates) && ((decide (a.s0 = b.s0) && decide (a.s1 = b.s1)) && decide (a.digest = b.digest))))))))
theorem sameQ_refl (a : Att) : sameQ a a = true := by simp [sameQ]
def validA (a : Att) : Att := { key := seedB a.key, nonce := a.nonce.take 128, digest := seedB a.digest, resets := a.resets % 4611686018427387904, restarts := a.restarts % 4611686018427387904, clock := a.clock % 4611686018427387904, safe := a.safe, updates := a.updates % 4611686018427387904, s0 := a.s0 % 65536, s1 := a.s1 % 65536 }
theorem validA_ok (a : Att) : OkA (validA a) := by
  refine ⟨seedB_len _, by simp only [validA, List.length_take]; omega, ?_, ?_, ?_, ?_, ?_, ?_, seedB_len _⟩
  all_goals simp only [validA]; omega
def fewA (a : Att) : Bool := decide ((a.key.length : Int) ≤ 60) && (decide ((a.nonce.length : Int) ≤ 200) && decide ((a.digest.length : Int) ≤ 60))
theorem fewA_t {a : Att} (h : fewA a = true) : a.key.length ≤ 60 ∧ a.nonce.length ≤ 200 ∧ a.digest.length ≤ 60 := by
  simp only [fewA, Bool.and_eq_true, decide_eq_true_eq] at h; omega
theorem fewA_f {a : Att} (h : 60 < a.key.length ∨ 200 < a.nonce.length ∨ 60 < a.digest.length) : fewA a = false := by
  cases hf : fewA a with
  | false => rfl
  | true => have := fewA_t hf; omega
end Go.Ax
namespace Go.Proofs.Ytlaglaehkhmklaa
open Go Go.Ax
set_option linter.unusedVariables false
set_option linter.unusedSimpArgs false
attribute [local irreducible] iadd isub imul iquo irem ibit ineg ieq ine ilt ile ishl ishr beq' bnot and' seq' u8op u32op u64op u8shr u8shl u64shr u64shl u32shr u32shl i64w u8i u64i iu8 iu32 iu64 u8u64 u64u8 u32u8 u64cmp u8cmp u32cmp llen lget linb lset lcut lrep lapp lcpy lemp fits fitn sealed drawChk fpSame
set_option maxHeartbeats 4000000
set_option maxRecDepth 100000
theorem ev_r16_same (a b : Att) (h1 : a.key.length ≤ 100000) (h2 : a.nonce.length ≤ 100000) (h3 : a.digest.length ≤ 100000) : Y E0 (.call 12 [.agg (attX a), .agg (attX b)] []) = some (.ret (.b (sameQ a b)) []) := by
  obtain ⟨key, nonce, resets, restarts, clock, safe, updates, s0, s1, digest⟩ := a
  obtain ⟨key', nonce', resets', restarts', clock', safe', updates', s0', s1', digest'⟩ := b
  simp only at h1 h2 h3
  dsimp only [attX]
  rw [Y_go]; conv => lhs; whnf
  rw [toReq_call]
  rw [ev_same _ _ (by omega)]
  conv => lhs; whnf
  rcases Bool.eq_false_or_eq_true (decide (key = key')) with hc0 | hc0
  · rw [hc0]; replace hc0 := of_decide_eq_true hc0; try simp only at hc0
    conv => lhs; whnf
    rw [toReq_call]
    rw [ev_same _ _ (by omega)]
    conv => lhs; whnf
    rcases Bool.eq_false_or_eq_true (decide (nonce = nonce')) with hc1 | hc1
    · rw [hc1]; replace hc1 := of_decide_eq_true hc1; try simp only at hc1
      conv => lhs; whnf
      rcases Bool.eq_false_or_eq_true (ieq resets resets') with hc2 | hc2
      · rw [hc2]; replace hc2 := of_ieq_t hc2; try simp only [llen_eq] at hc2
        subst hc2
        conv => lhs; whnf
        rcases Bool.eq_false_or_eq_true (ieq restarts restarts') with hc3 | hc3
        · rw [hc3]; replace hc3 := of_ieq_t hc3; try simp only [llen_eq] at hc3
          subst hc3
          conv => lhs; whnf
          rw [Y_go]; conv => lhs; whnf
          rcases Bool.eq_false_or_eq_true (ieq clock clock') with hc4 | hc4
          · rw [hc4]; replace hc4 := of_ieq_t hc4; try simp only [llen_eq] at hc4
            subst hc4
            conv => lhs; whnf
            rcases Bool.eq_false_or_eq_true (beq' safe safe') with hc5 | hc5
            · rw [hc5]; replace hc5 := of_beq_t hc5; try simp only [llen_eq] at hc5
              conv => lhs; whnf
              rcases Bool.eq_false_or_eq_true (ieq updates updates') with hc6 | hc6
              · rw [hc6]; replace hc6 := of_ieq_t hc6; try simp only [llen_eq] at hc6
                subst hc6
                conv => lhs; whnf
                rw [Y_go]; conv => lhs; whnf
                rw [and_eq]; conv => lhs; whnf
                rcases Bool.eq_false_or_eq_true (ieq s0 s0') with hc7 | hc7
                · rw [hc7]; replace hc7 := of_ieq_t hc7; try simp only [llen_eq] at hc7
                  subst hc7
                  conv => lhs; whnf
                  rcases Bool.eq_false_or_eq_true (ieq s1 s1') with hc8 | hc8
                  · rw [hc8]; replace hc8 := of_ieq_t hc8; try simp only [llen_eq] at hc8
                    subst hc8
                    conv => lhs; whnf
                    rw [toReq_call]
                    rw [ev_same _ _ (by omega)]
                    conv => lhs; whnf
                    simp_all [sameQ, ieq_eq, beq_eq]
                  · rw [hc8]; replace hc8 := of_ieq_f hc8; try simp only [llen_eq] at hc8
                    conv => lhs; whnf
                    simp_all [sameQ, ieq_eq, beq_eq]
                · rw [hc7]; replace hc7 := of_ieq_f hc7; try simp only [llen_eq] at hc7
                  conv => lhs; whnf
                  simp_all [sameQ, ieq_eq, beq_eq]
              · rw [hc6]; replace hc6 := of_ieq_f hc6; try simp only [llen_eq] at hc6
                conv => lhs; whnf
                rw [Y_go]; conv => lhs; whnf
                simp_all [sameQ, ieq_eq, beq_eq]
            · rw [hc5]; replace hc5 := of_beq_f hc5; try simp only [llen_eq] at hc5
              conv => lhs; whnf
              simp_all [sameQ, ieq_eq, beq_eq]
          · rw [hc4]; replace hc4 := of_ieq_f hc4; try simp only [llen_eq] at hc4
            conv => lhs; whnf
            simp_all [sameQ, ieq_eq, beq_eq]
        · rw [hc3]; replace hc3 := of_ieq_f hc3; try simp only [llen_eq] at hc3
          conv => lhs; whnf
          rw [Y_go]; conv => lhs; whnf
          simp_all [sameQ, ieq_eq, beq_eq]
      · rw [hc2]; replace hc2 := of_ieq_f hc2; try simp only [llen_eq] at hc2
        conv => lhs; whnf
        rw [Y_go]; conv => lhs; whnf
        simp_all [sameQ, ieq_eq, beq_eq]
    · rw [hc1]; replace hc1 := of_decide_eq_false hc1; try simp only at hc1
      conv => lhs; whnf
      rw [Y_go]; conv => lhs; whnf
      simp_all [sameQ, ieq_eq, beq_eq]
  · rw [hc0]; replace hc0 := of_decide_eq_false hc0; try simp only at hc0
    conv => lhs; whnf
    rw [Y_go]; conv => lhs; whnf
    simp_all [sameQ, ieq_eq, beq_eq]
theorem ev_few (a : Att) : Y E0 (.call 6 [.agg (attX a)] []) = some (.ret (.b (fewA a)) []) := by
  rw [Y_go]; conv => lhs; whnf
  rcases Bool.eq_false_or_eq_true (ile (llen a.key) 60) with hc0 | hc0
  · rw [hc0]; replace hc0 := of_ile_t hc0; try simp only [llen_eq] at hc0
    conv => lhs; whnf
    rcases Bool.eq_false_or_eq_true (ile (llen a.nonce) 200) with hc1 | hc1
    · rw [hc1]; replace hc1 := of_ile_t hc1; try simp only [llen_eq] at hc1
      conv => lhs; whnf
      simp_all [fewA, ile_eq, llen_eq]; done
    · rw [hc1]; replace hc1 := of_ile_f hc1; try simp only [llen_eq] at hc1
      conv => lhs; whnf
      rw [fewA_f (by omega)]
  · rw [hc0]; replace hc0 := of_ile_f hc0; try simp only [llen_eq] at hc0
    conv => lhs; whnf
    rw [fewA_f (by omega)]
theorem ev_valid (a : Att) : Y E0 (.call 7 [.agg (attX a)] []) = some (.ret (.agg (attX (validA a))) []) := by
  rw [Y_go]; conv => lhs; whnf
  rw [toReq_call]
  rw [ev_seed _]
  conv => lhs; whnf
  rw [toReq_call]
  rw [ev_cut _ _ (by omega)]
  conv => lhs; whnf
  rw [toReq_call]
  rw [ev_seed _]
  conv => lhs; whnf
  rw [drw (by kernel_rfl)]; conv => lhs; whnf
  rw [drw (by kernel_rfl)]; conv => lhs; whnf
  rw [ile_t (by omega)]
  conv => lhs; whnf
  rw [ilt_t (by omega)]
  conv => lhs; whnf
  rw [ile_t (by omega)]
  conv => lhs; whnf
  rw [ilt_t (by omega)]
  conv => lhs; whnf
  (simp only [iand_62, iand_65535]; rfl)
end Go.Proofs.Ytlaglaehkhmklaa
/-
  Own text: the two statements on the byte form of quotes, walked.
-/
namespace Go.Ax
theorem decA_len (b : List UInt8) : (decA b).1.key.length ≤ b.length ∧ (decA b).1.nonce.length ≤ b.length ∧ (decA b).1.digest.length ≤ b.length := by
  unfold decA
  dsimp only
  split
  · simp [att0]
  split
  · simp [att0]
  split
  · simp [att0]
  split
  · simp [att0]
  exact ⟨rdB_len, rdB_len, rdR_len⟩
def attW : Att := ⟨List.replicate 32 0, [], 0, 0, 5, false, 0, 0, 0, List.replicate 32 0⟩
theorem lenW : (encA attW).length = 109 := by decide +kernel
theorem decW : decA (encA attW) = (attW, 0) := dec_enc ⟨rfl, by decide, by decide, by decide, by decide, by decide, by decide, by decide, rfl⟩
theorem decT : decA [UInt8.ofNat 83, UInt8.ofNat 87, UInt8.ofNat 81, UInt8.ofNat 50] = (att0, 5) := by
  rw [show ([UInt8.ofNat 83, UInt8.ofNat 87, UInt8.ofNat 81, UInt8.ofNat 50] : List UInt8) = [83, 87, 81, 50] from rfl]
  exact decA_m (v0 := [83, 87, 81, 50]) (p0 := 4) rfl (by decide)
end Go.Ax
namespace Go.Proofs.Ytlaglaehkhmklaa
open Go Go.Ax
set_option linter.unusedVariables false
set_option linter.unusedSimpArgs false
attribute [local irreducible] iadd isub imul iquo irem ibit ineg ieq ine ilt ile ishl ishr beq' bnot and' seq' u8op u32op u64op u8shr u8shl u64shr u64shl u32shr u32shl i64w u8i u64i iu8 iu32 iu64 u8u64 u64u8 u32u8 u64cmp u8cmp u32cmp llen lget linb lset lcut lrep lapp lcpy lemp fits fitn sealed drawChk fpSame
set_option maxHeartbeats 4000000
set_option maxRecDepth 100000
theorem ev_awake : Y E0 (.call 5 [] []) = some (.ret (.b true) []) := by
  have henc := ev_att_encode attW (by decide) (by decide) (by decide)
  have hr : lrep 32 (0 : UInt8) = List.replicate 32 0 := by rw [lrep_eq]; rfl
  have hl := lenW
  dsimp only [attX, attW] at henc
  rw [Y_go]; conv => lhs; whnf
  rw [hr]; conv => lhs; whnf
  rw [fitn_t (by omega)]
  conv => lhs; whnf
  rw [ieq_t (by omega)]
  conv => lhs; whnf
  rw [hr]; conv => lhs; whnf
  rw [fitn_t (by omega)]
  conv => lhs; whnf
  rw [ieq_t (by omega)]
  conv => lhs; whnf
  rw [toReq_call]
  rw [henc]
  conv => lhs; whnf
  rw [drw (by kernel_rfl)]; conv => lhs; whnf
  rw [toReq_call]
  rw [ev_att_decode _ (by rw [show (encA ⟨List.replicate 32 0, [], 0, 0, 5, false, 0, 0, 0, List.replicate 32 0⟩).length = 109 from lenW]; decide), show decA (encA ⟨List.replicate 32 0, [], 0, 0, 5, false, 0, 0, 0, List.replicate 32 0⟩) = (attW, 0) from decW]
  conv => lhs; whnf
  rw [toReq_call]
  rw [ev_att_decode _ (by decide), decT]
  conv => lhs; whnf
  rw [ieq_t (by rw [llen_eq]; exact congrArg (fun n : Nat => (n : Int)) lenW)]; conv => lhs; whnf
  rw [ieq_t (by omega)]
  conv => lhs; whnf
  rw [ieq_t (by decide)]
  conv => lhs; whnf
  rw [ieq_t rfl]
theorem ev_codec (a : Att) : Y E0 (.call 3 [.agg (attX a)] []) = some (.ret (.b true) []) := by
  have hd := dec_enc (validA_ok a)
  have hk := (validA_ok a).key
  have hn := (validA_ok a).nonce
  have hg := (validA_ok a).digest
  have hl := encA_le (validA a) (by omega) (by omega) (by omega)
  cases hf : fewA a
  · rw [Y_go]; conv => lhs; whnf
    rw [toReq_call]
    rw [ev_awake]
    conv => lhs; whnf
    rw [bnot_eq]; conv => lhs; whnf
    rw [toReq_call]
    rw [ev_few _]
    conv => lhs; whnf
    rw [hf]; conv => lhs; whnf
    rw [bnot_eq]; conv => lhs; whnf
  · rw [Y_go]; conv => lhs; whnf
    rw [toReq_call]
    rw [ev_awake]
    conv => lhs; whnf
    rw [bnot_eq]; conv => lhs; whnf
    rw [toReq_call]
    rw [ev_few _]
    conv => lhs; whnf
    rw [hf]; conv => lhs; whnf
    rw [bnot_eq]; conv => lhs; whnf
    rw [toReq_call]
    rw [ev_valid _]
    conv => lhs; whnf
    rw [toReq_call]
    rw [ev_att_encode _ (by omega) (by omega) (by omega)]
    conv => lhs; whnf
    rw [toReq_call]
    rw [ev_att_decode _ (by omega), hd]
    conv => lhs; whnf
    rw [toReq_call]
    rw [ev_r16_encode _ (by omega) (by omega) (by omega)]
    conv => lhs; whnf
    rw [toReq_call]
    rw [ev_same _ _ (by omega)]
    conv => lhs; whnf
    rw [decide_eq_true rfl]; conv => lhs; whnf
    rw [ieq_t (by omega)]
    conv => lhs; whnf
    rw [toReq_call]
    rw [ev_r16_same _ _ (by omega) (by omega) (by omega), sameQ_refl]
    conv => lhs; whnf
end Go.Proofs.Ytlaglaehkhmklaa
/-
  Own text: the second statement on the byte form of quotes, walked.
-/
namespace Go.Proofs.Ytlaglaehkhmklaa
open Go Go.Ax
set_option linter.unusedVariables false
set_option linter.unusedSimpArgs false
attribute [local irreducible] iadd isub imul iquo irem ibit ineg ieq ine ilt ile ishl ishr beq' bnot and' seq' u8op u32op u64op u8shr u8shl u64shr u64shl u32shr u32shl i64w u8i u64i iu8 iu32 iu64 u8u64 u64u8 u32u8 u64cmp u8cmp u32cmp llen lget linb lset lcut lrep lapp lcpy lemp fits fitn sealed drawChk fpSame
set_option maxHeartbeats 4000000
set_option maxRecDepth 100000
theorem ev_decode_m2 (raw b : List UInt8) (v : AV) (hv : v = .sl .u8 b ∨ v = .st .u8 b) (hr : raw.length ≤ 200) (hb : b.length ≤ 50200) : Y E0 (.ops ⟨110, 4, 0⟩ [true, true, true, true, true, true, false] 0 [Fr.seq [true, true, true, true, true, true, true] 0, Fr.ret] 0 [(4, AV.sl Ty.u8 raw), (11, v)] []) = some (.ret (.b true) []) := by
  have eb := ev_att_decode b (by omega)
  have er := ev_att_decode raw (by omega)
  have fb := ev_r16_decode b (by omega)
  have fr := ev_r16_decode raw (by omega)
  have lb := decA_len b
  have lr := decA_len raw
  have henc := @enc_dec b
  generalize decA b = B at *
  generalize decA raw = R at *
  obtain ⟨A, e⟩ := B
  obtain ⟨C, f⟩ := R
  replace henc := fun (h : e = 0) => henc (a := A) (by rw [h])
  simp only at eb er fb fr lb lr
  have hq := fun (x y : Int) => ieq_t (a := x) (b := x) rfl
  rcases hv with rfl | rfl
  · rw [Y_go]; conv => lhs; whnf
    rw [toReq_call]
    rw [eb]
    conv => lhs; whnf
    rw [toReq_call]
    rw [fb]
    conv => lhs; whnf
    rw [toReq_call]
    rw [er]
    conv => lhs; whnf
    rw [toReq_call]
    rw [fr]
    conv => lhs; whnf
    rw [ieq_t (by omega)]
    conv => lhs; whnf
    rw [toReq_call]
    rw [ev_r16_same _ _ (by omega) (by omega) (by omega), sameQ_refl]
    conv => lhs; whnf
    rw [ieq_t (by omega)]
    conv => lhs; whnf
    rw [toReq_call]
    rw [ev_r16_same _ _ (by omega) (by omega) (by omega), sameQ_refl]
    conv => lhs; whnf
    rcases Bool.eq_false_or_eq_true (ine e 0) with hc0 | hc0
    · rw [hc0]; replace hc0 := of_ine_t hc0; try simp only [llen_eq] at hc0
      conv => lhs; whnf
      rw [Y_go]; conv => lhs; whnf
    · rw [hc0]; replace hc0 := of_ine_f hc0; try simp only [llen_eq] at hc0
      subst hc0
      conv => lhs; whnf
      rw [toReq_call]
      rw [ev_att_encode _ (by omega) (by omega) (by omega)]
      conv => lhs; whnf
      rw [Y_go]; conv => lhs; whnf
      rw [toReq_call]
      rw [ev_same _ _ (by rw [henc (by omega)]; omega), decide_eq_true (henc (by omega))]
      conv => lhs; whnf
  · rw [Y_go]; conv => lhs; whnf
    rw [toReq_call]
    rw [eb]
    conv => lhs; whnf
    rw [toReq_call]
    rw [fb]
    conv => lhs; whnf
    rw [toReq_call]
    rw [er]
    conv => lhs; whnf
    rw [toReq_call]
    rw [fr]
    conv => lhs; whnf
    rw [ieq_t (by omega)]
    conv => lhs; whnf
    rw [toReq_call]
    rw [ev_r16_same _ _ (by omega) (by omega) (by omega), sameQ_refl]
    conv => lhs; whnf
    rw [ieq_t (by omega)]
    conv => lhs; whnf
    rw [toReq_call]
    rw [ev_r16_same _ _ (by omega) (by omega) (by omega), sameQ_refl]
    conv => lhs; whnf
    rcases Bool.eq_false_or_eq_true (ine e 0) with hc0 | hc0
    · rw [hc0]; replace hc0 := of_ine_t hc0; try simp only [llen_eq] at hc0
      conv => lhs; whnf
      rw [Y_go]; conv => lhs; whnf
    · rw [hc0]; replace hc0 := of_ine_f hc0; try simp only [llen_eq] at hc0
      subst hc0
      conv => lhs; whnf
      rw [toReq_call]
      rw [ev_att_encode _ (by omega) (by omega) (by omega)]
      conv => lhs; whnf
      rw [Y_go]; conv => lhs; whnf
      rw [toReq_call]
      rw [ev_same _ _ (by rw [henc (by omega)]; omega), decide_eq_true (henc (by omega))]
      conv => lhs; whnf
theorem ev_decode_m1 (n : Int) (raw b : List UInt8) (hr : raw.length ≤ 200) (hb : b.length ≤ 50000) : Y E0 (.ops ⟨110, 4, 0⟩ [true, true, true, true, true, false, false] 0 [Fr.seq [true, true, true, true, true, false, true] 0, Fr.seq [true, true, true, true, true, true] 0, Fr.ret] 0 [(3, AV.i n), (4, AV.sl Ty.u8 raw), (11, AV.sl Ty.u8 b)] []) = some (.ret (.b true) []) := by
  rw [Y_go]; conv => lhs; whnf
  rcases Bool.eq_false_or_eq_true (ile 0 n) with hc0 | hc0
  · rw [hc0]; replace hc0 := of_ile_t hc0; try simp only [llen_eq] at hc0
    conv => lhs; whnf
    rcases Bool.eq_false_or_eq_true (ilt n (llen b)) with hc1 | hc1
    · rw [hc1]; replace hc1 := of_ilt_t hc1; try simp only [llen_eq] at hc1
      conv => lhs; whnf
      rw [ieq_t (by omega)]
      conv => lhs; whnf
      rw [lcut_0 (by omega)]
      conv => lhs; whnf
      rcases Bool.eq_false_or_eq_true (lemp raw) with hc2 | hc2
      · rw [hc2]; replace hc2 := of_lemp_t hc2; try simp only [llen_eq] at hc2
        conv => lhs; whnf
        rw [ev_decode_m2 raw (List.take n.toNat b) _ (.inr rfl) hr (by rw [List.length_take]; omega)]
      · rw [hc2]; replace hc2 := of_lemp_f hc2; try simp only [llen_eq] at hc2
        conv => lhs; whnf
        rw [fits_t (by (simp only [LL] at * <;> omega))]
        conv => lhs; whnf
        rw [lapp_eq, ev_decode_m2 raw (List.take n.toNat b ++ raw) _ (.inl rfl) hr (by rw [List.length_append, List.length_take]; omega)]
    · rw [hc1]; replace hc1 := of_ilt_f hc1; try simp only [llen_eq] at hc1
      conv => lhs; whnf
      rw [ev_decode_m2 raw b _ (.inl rfl) hr (by omega)]
  · rw [hc0]; replace hc0 := of_ile_f hc0; try simp only [llen_eq] at hc0
    conv => lhs; whnf
    rw [ev_decode_m2 raw b _ (.inl rfl) hr (by omega)]
theorem ev_decode (a : Att) (at' : Int) (x : UInt8) (n : Int) (raw : List UInt8) : Y E0 (.call 4 [.agg (attX a), .i at', .u8 x, .i n, .sl .u8 raw] []) = some (.ret (.b true) []) := by
  have hk := (validA_ok a).key
  have hn := (validA_ok a).nonce
  have hg := (validA_ok a).digest
  have hl := encA_le (validA a) (by omega) (by omega) (by omega)
  cases hf : fewA a
  · rw [Y_go]; conv => lhs; whnf
    rw [toReq_call]
    rw [ev_awake]
    conv => lhs; whnf
    rw [bnot_eq]; conv => lhs; whnf
    rw [toReq_call]
    rw [ev_few _]
    conv => lhs; whnf
    rw [hf]; conv => lhs; whnf
    rw [bnot_eq]; conv => lhs; whnf
  · rw [Y_go]; conv => lhs; whnf
    rw [toReq_call]
    rw [ev_awake]
    conv => lhs; whnf
    rw [bnot_eq]; conv => lhs; whnf
    rw [toReq_call]
    rw [ev_few _]
    conv => lhs; whnf
    rw [hf]; conv => lhs; whnf
    rw [bnot_eq]; conv => lhs; whnf
    rcases Bool.eq_false_or_eq_true (ilt 200 (llen raw)) with hc0 | hc0
    · rw [hc0]; replace hc0 := of_ilt_t hc0; try simp only [llen_eq] at hc0
      conv => lhs; whnf
    · rw [hc0]; replace hc0 := of_ilt_f hc0; try simp only [llen_eq] at hc0
      conv => lhs; whnf
      rw [toReq_call]
      rw [ev_valid _]
      conv => lhs; whnf
      rw [toReq_call]
      rw [ev_r16_encode _ (by omega) (by omega) (by omega)]
      conv => lhs; whnf
      rcases Bool.eq_false_or_eq_true (ile 0 at') with hc1 | hc1
      · rw [hc1]; replace hc1 := of_ile_t hc1; try simp only [llen_eq] at hc1
        conv => lhs; whnf
        rcases Bool.eq_false_or_eq_true (ilt at' (llen (encA (validA a)))) with hc2 | hc2
        · rw [hc2]; replace hc2 := of_ilt_t hc2; try simp only [llen_eq] at hc2
          conv => lhs; whnf
          rw [linb_t (by omega)]
          conv => lhs; whnf
          rw [lget_i (by omega)]
          conv => lhs; whnf
          rw [linb_t (by omega)]
          conv => lhs; whnf
          rw [lget_i (by omega)]
          conv => lhs; whnf
          rw [ev_decode_m1 _ _ _ (by omega) (by first | omega | (rw [lset_eq, List.length_set]; omega))]
        · rw [hc2]; replace hc2 := of_ilt_f hc2; try simp only [llen_eq] at hc2
          conv => lhs; whnf
          rw [ev_decode_m1 _ _ _ (by omega) (by first | omega | (rw [lset_eq, List.length_set]; omega))]
      · rw [hc1]; replace hc1 := of_ile_f hc1; try simp only [llen_eq] at hc1
        conv => lhs; whnf
        rw [ev_decode_m1 _ _ _ (by omega) (by first | omega | (rw [lset_eq, List.length_set]; omega))]
end Go.Proofs.Ytlaglaehkhmklaa
