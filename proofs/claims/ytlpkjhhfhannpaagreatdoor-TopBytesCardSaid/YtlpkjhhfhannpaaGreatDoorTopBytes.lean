/-
  Own text. What is proved: TopBytes, in the tied card's form: for every input the law returns true, and each argument reads behind the call as it did. Conditions: none beyond the given statement's own.
-/
import Derived.Test.YtlpkjhhfhannpaaGreatDoorBtaa
import Derived.Test.YtlpkjhhfhannpaaGreatDoorBtab
import Derived.Test.YtlpkjhhfhannpaaGreatDoorBtbr
namespace Go.Proofs.YtlpkjhhfhannpaaGreatDoor.lTopBytes
open Go Go.RowKit Go.Eng Go.WideShapes Go.ChangeAt Go.ChangeShapes Go.Ax
set_option linter.unusedVariables false
attribute [local irreducible] Calls Value.okWide
theorem goes_no{P:Program}(h:P.funcs.any Func.goes=false)(f:FuncId):P.goes f=false:=by
  unfold Program.goes
  rw[h,Bool.and_false,Bool.or_false,List.any_eq_false]
  intro g _ hg
  cases e:P.funcs[g]? with
  | none=>rw[e] at hg;cases hg
  | some fn =>
    rw[e] at hg
    obtain⟨hi,rfl⟩:=Array.getElem?_eq_some_iff.1 e
    rw[Array.any_eq_false] at h
    exact h g hi hg
theorem goesBy_no{c:OpenClaim}{P:Program}(h:P.funcs.any Func.goes=false)(hs:c.start=.entering):false=c.goesBy P:=by
  unfold OpenClaim.goesBy Program.goesAt Program.goesFrom
  rw[hs]
  cases P.funcNamed c.func with
  | none=>rfl
  | some f=>rw[Option.any_some,goes_no h];rfl
theorem gonone:Tryz.pinned.checked.prog.funcs.any Func.goes=false:=by kernel_rfl
theorem hg0:false=Rows.topBytesRow.goesBy Tryz.pinned.checked.prog:=goesBy_no gonone rfl
theorem card:Rows.TopBytesCardSaid :=
  Claim7.holds_tied_plain_at .later [] _ _ _ _ said (fun _ h=>by cases h) (by kernel_rfl) (fun _ h=>by cases h) topBytes_row_tie rfl ⟨rfl,rfl⟩ AEM rfl plain hg0
end Go.Proofs.YtlpkjhhfhannpaaGreatDoor.lTopBytes
