/-
  Own text. The abstract machine: calls, regions, code. It claims nothing of any program.
-/
import Derived.Test.YtlaglaehkhmklaaAx3
namespace Go.Ax
noncomputable section
open Go Go.RowKit Go.Eng
set_option linter.unusedVariables false

/-! ### What a function is known by -/
structure FI where
  ps : List (Option Ty)          -- its parameters, where they are plain data
  rs : List (Option Ty)          -- its results
  own : Bool                     -- the result is handed out as a row of its own
  pown : Bool                    -- rows are handed in as such
  keep : List (List Nat × List Nat)   -- for each loop: the slots that live at its head, and behind it
abbrev FT := List (Nat × FI)
def filk (k : Nat) : FT → Option FI
  | [] => none
  | (d, v) :: H => bif Nat.beq k d then some v else filk k H

inductive Req where
  | call (f : Nat) (args : List AV) (H : List Rs)
  | loop (f k n0 m : Nat) (L : LX) (H : HX)
inductive Rsp where
  | ret (s : AV) (H : List (Option Rs))
  | fin (e : Exit) (m : Nat) (L : LX) (H : HX)

/-! ### Plain data in a fixed shape -/
def norm1 (t : Option Ty) (a : AV) : AV := match t with
  | none => a
  | some τ => (match a with
    | .agg l => (match unf τ l with | some (x, []) => .agg (flat τ x) | _ => a)
    | a => (match unf τ [a] with | some (x, []) => (match flat τ x with | [b] => b | _ => a) | _ => a))
def normL : List (Option Ty) → List AV → List AV
  | t :: ts, a :: as => norm1 t a :: normL ts as
  | _, as => as

/-! ### Names -/
mutual
def names : AV → List Nat
  | .nm k => [k]
  | .pa k _ => [k]
  | .pe k _ _ _ => [k]
  | .pt l => namesL l
  | .agg l => namesL l
  | .tup l => namesL l
  | .fn _ a b => namesL a ++ namesL b
  | _ => []
def namesL : List AV → List Nat
  | [] => []
  | s :: r => names s ++ namesL r
end
def memN (k : Nat) : List Nat → Bool | [] => false | a :: r => Nat.beq k a || memN k r
def nub : List Nat → List Nat → List Nat
  | acc, [] => acc
  | acc, k :: r => bif memN k acc then nub acc r else nub (acc ++ [k]) r
def idx (k : Nat) : List Nat → Nat
  | [] => 0
  | a :: r => bif Nat.beq k a then 0 else idx k r + 1
/-- all names that can be reached -/
def close (hk : Nat → Option Rs) : Nat → List Nat → List Nat → List Nat
  | 0, acc, _ => acc
  | _, acc, [] => acc
  | n + 1, acc, k :: r => bif memN k acc then close hk n acc r else match hk k with
    | some R => close hk n (acc ++ [k]) (r ++ (match R with | .var l => namesL l | .rowA _ _ _ l => namesL l | .row _ _ _ => []))
    | none => close hk n (acc ++ [k]) r
mutual
/-- rows are looked at as plain data -/
def vw (hk : Nat → Option Rs) : AV → AV
  | .nm k => (match hk k with | some (.row _ t l) => .sl t l | _ => .nm k)
  | .pt l => .pt l
  | .agg l => .agg (vwL hk l)
  | .tup l => .tup (vwL hk l)
  | .fn f a b => .fn f (vwL hk a) (vwL hk b)
  | s => s
def vwL (hk : Nat → Option Rs) : List AV → List AV
  | [] => []
  | s :: r => vw hk s :: vwL hk r
end
/-- the rows among some names -/
def rowsOf (hk : Nat → Option Rs) : List Nat → Fp
  | [] => []
  | k :: r => match hk k with | some (.row e t l) => (k, .row e t l) :: rowsOf hk r | _ => rowsOf hk r
def rssOf (hk : Nat → Option Rs) : List Nat → Option (List Rs)
  | [] => some []
  | k :: r => match hk k, rssOf hk r with | some R, some l => some (R :: l) | _, _ => none
def zipF : List Nat → List Rs → Fp
  | k :: r, R :: l => (k, R) :: zipF r l
  | _, _ => []
def outF (ρ : Nat → Nat) : Nat → List (Option Rs) → Fp
  | _, [] => []
  | i, some R :: l => (ρ i, renR ρ R) :: outF ρ (i + 1) l
  | i, none :: l => outF ρ (i + 1) l
def nth (l : List Nat) (i : Nat) : Nat := l.getD i 0
variable {R : Type}
def forceRL : List Rs → (List Rs → R) → R
  | [], K => K []
  | s :: r, K => forceR s fun s => forceRL r fun r => K (s :: r)
def nodupB : List Nat → Bool
  | [] => true
  | k :: r => !memN k r && nodupB r
def allIn (ks : List Nat) : List Nat → Bool
  | [] => true
  | k :: r => memN k ks && allIn ks r
def namesR : Rs → List Nat
  | .var l => namesL l
  | .rowA _ _ _ l => namesL l
  | .row _ _ _ => []
def allInR (ks : List Nat) : List Rs → Bool
  | [] => true
  | R :: r => allIn ks (namesR R) && allInR ks r
def djB (ks : List Nat) : Fp → Bool
  | [] => true
  | (k, _) :: r => !memN k ks && djB ks r
/-- what a call hands back: as long as it must be, all new things there, names within bounds -/
def newOK : Nat → List (Option Rs) → Bool
  | _, [] => true
  | 0, none :: _ => false
  | 0, some _ :: r => newOK 0 r
  | n + 1, _ :: r => newOK n r
def rltO (m : Nat) : List (Option Rs) → Bool
  | [] => true
  | none :: r => rltO m r
  | some R :: r => rlt m R && rltO m r
def toName (ks : List Nat) (m i : Nat) : Nat := bif Nat.blt i ks.length then nth ks i else m + (i - ks.length)
def evCall3 (Q : Req → Option Rsp) (hk : Nat → Option Rs) (m f : Nat) (vs : Fp) (all' : List AV) (ks : List Nat) (K : Tr → Option R) : Option R := match rssOf hk ks with
  | some Rs => bif nodupB ks && allIn ks (namesL all') && allInR ks Rs && djB ks vs then
    forceL (renL (fun k => idx k ks) all') fun args => forceRL (Rs.map (renR fun k => idx k ks)) fun Hin =>
      (Q (.call f args Hin)).bind fun r => (match r with
        | .ret s H => bif Nat.ble ks.length H.length && newOK ks.length H && nlt H.length s && rltO H.length H then
            (bif noRd (ren (toName ks m) s) && noRdF (outF (toName ks m) 0 H) then K ⟨ren (toName ks m) s, vs ++ zipF ks Rs, vs ++ outF (toName ks m) 0 H, false, H.length - ks.length⟩
            else K ⟨ren (toName ks m) s, vs ++ zipF ks Rs, outF (toName ks m) 0 H, false, H.length - ks.length⟩)
          else none
        | _ => none)
    else none
  | none => none
def evCall2 (Q : Req → Option Rsp) (hk : Nat → Option Rs) (m f : Nat) (vs : Fp) (all' : List AV) (K : Tr → Option R) : Option R :=
  forceNs (close hk 40 [] (namesL all')) fun ks => evCall3 Q hk m f vs all' ks K
def evCall (T : FT) (Q : Req → Option Rsp) (hk : Nat → Option Rs) (m : Nat) (fx : Option AV) (args : Option (List AV)) (K : Tr → Option R) : Option R := match fx, args with
  | some (.fn f a b), some l => (match filk f T with
    | some fi => bif fi.pown then forceL (normL fi.ps (a ++ l ++ b)) fun all => evCall2 Q hk m f [] all K
      else forceL (normL fi.ps (vwL hk (a ++ l ++ b))) fun all => evCall2 Q hk m f (rowsOf hk (nub [] (namesL (a ++ l ++ b)))) all K
    | none => none)
  | _, _ => none
def evAny (T : TT) (G : FT) (Q : Req → Option Rsp) (ev : Operand → Option AV) (hk : Nat → Option Rs) (m : Nat) (op : Op) (K : Tr → Option R) : Option R := match op with
  | .call { callee := .value fx, args := xs, .. } => evCall G Q hk m (ev fx) (evsX ev xs.toList) K
  | op => evOp T ev hk m op K

/-! ### States -/
def hPut : Fp → HX → (HX → R) → R
  | [], H, K => K H
  | (k, r) :: F, H, K => forceR r fun r => hPut F H fun H => K ((k, some r) :: H)
def hDel : Fp → HX → (HX → R) → R
  | [], H, K => K H
  | (k, r) :: F, H, K => hDel F H fun H => K ((k, none) :: H)
def putL (d : Option Nat) (s : AV) (L : LX) : LX := match d with | some d => (d, s) :: L | none => L
def stepK (d : Option Nat) (t : Tr) (m : Nat) (L : LX) (H : HX) (K : Nat → LX → HX → R) : R := match t with
  | ⟨s, F, F', rd, nn⟩ => force s fun s => addN m nn fun m => match d with
    | some d => bif rd then K m ((d, s) :: L) H else hDel F H fun H => hPut F' H fun H => K m ((d, s) :: L) H
    | none => bif rd then K m L H else hDel F H fun H => hPut F' H fun H => K m L H
def dstB (n : Nat) (d : Option Nat) : Bool := match d with | some d => Nat.blt d n | none => true
/-- a region in the order of its text -/
def evOps (T : TT) (G : FT) (Q : Req → Option Rsp) (n : Nat) (ops : List Oper) : List Oper → Nat → LX → HX → (Nat → LX → HX → Option R) → Option R
  | [], m, L, H, K => K m L H
  | o :: r, m, L, H, K => match o.guard with
    | none => bif dstB n o.dst then evAny T G Q (evx L) (fun k => hlk k H) m o.op fun t => stepK o.dst t m L H fun m L H => evOps T G Q n ops r m L H K else none
    | some (j, want) => (match (ops[j]?).bind (·.dst) with
      | some d' => (match lkx d' L with
        | some (.b c) => bif dstB n o.dst && Nat.blt d' n then
            (bif c then
              bif want then evAny T G Q (evx ((d', .b true) :: L)) (fun k => hlk k H) m o.op fun t => stepK o.dst t m ((d', .b true) :: L) H fun m L H => evOps T G Q n ops r m L H K
              else evOps T G Q n ops r m (match o.dst with | some d => (d, .tup []) :: (d', .b true) :: L | none => (d', .b true) :: L) H K
            else
              bif want then evOps T G Q n ops r m (match o.dst with | some d => (d, .tup []) :: (d', .b false) :: L | none => (d', .b false) :: L) H K
              else evAny T G Q (evx ((d', .b false) :: L)) (fun k => hlk k H) m o.op fun t => stepK o.dst t m ((d', .b false) :: L) H fun m L H => evOps T G Q n ops r m L H K)
          else none
        | some (.tup []) => bif dstB n o.dst && Nat.blt d' n then evOps T G Q n ops r m (putL o.dst (.tup []) L) H K else none
        | _ => none)
      | none => none)
/-- the slots that an operation looks at -/
def rst (lk : List Nat) : LX → LX
  | [] => []
  | (t, s) :: L => bif memN t lk then (t, s) :: rst lk L else rst lk L
end
end Go.Ax
