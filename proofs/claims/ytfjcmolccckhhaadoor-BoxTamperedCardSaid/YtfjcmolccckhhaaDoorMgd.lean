/-
  Own texts, laid together for this claim: the rules that every walk uses, which claim nothing of any program.
-/
import Derived.OpenShut
import Derived.ChangeSlices
import Derived.Test.YtfjcmolccckhhaaDoorMgc
set_option linter.all false

namespace Go.Ax
noncomputable section
open Go Go.RowKit Go.Eng
set_option linter.unusedVariables false
set_option linter.unusedSimpArgs false
def subc : Code → List Bool → Code
  | c, [] => c
  | .seq a b, x :: p => (match x with | true => subc b p | false => subc a p)
  | .cond _ a b, x :: p => (match x with | true => subc b p | false => subc a p)
  | .block _ c, _ :: p => subc c p
  | .loop c, _ :: p => subc c p
  | _, _ :: _ => .skip
theorem subc_app : ∀ (c : Code) (p q : List Bool), subc c (p ++ q) = subc (subc c p) q := by
  intro c
  induction c with
  | seq a b iha ihb => intro p q; cases p with | nil => rfl | cons x p => cases x <;> simp only [List.cons_append, subc] <;> first | exact iha p q | exact ihb p q
  | cond x a b iha ihb => intro p q; cases p with | nil => rfl | cons x p => cases x <;> simp only [List.cons_append, subc] <;> first | exact iha p q | exact ihb p q
  | block id c ih => intro p q; cases p with | nil => rfl | cons x p => simp only [List.cons_append, subc]; exact ih p q
  | loop c ih => intro p q; cases p with | nil => rfl | cons x p => simp only [List.cons_append, subc]; exact ih p q
  | _ => intro p q; cases p with | nil => rfl | cons x p => (simp only [List.cons_append, subc]; cases q <;> simp only [subc])
def bodyAt (C : CT) (f : Nat) : Code := match cfk f C with
  | some fn => (match fn.body with | some c => c | none => .skip)
  | none => .skip
def keepAt (G : FT) (f : Nat) : List (Plc × Plc) := match filk f G with | some fi => fi.keep | none => []
def opsOf : Code → List Oper
  | .region _ ops _ => ops.toList
  | _ => []
def forceP {R : Type} : List Bool → (List Bool → R) → R
  | [], K => K []
  | true :: r, K => forceP r fun r => K (true :: r)
  | false :: r, K => forceP r fun r => K (false :: r)
theorem forceP_eq {R : Type} : ∀ (l : List Bool) (K : List Bool → R), forceP l K = K l
  | [], K => rfl
  | true :: r, K => by simp only [forceP, forceP_eq r]
  | false :: r, K => by simp only [forceP, forceP_eq r]
def loopP : Code → Nat → Option (List Bool)
  | .seq a b, k => bif Nat.blt k (nloops a) then (loopP a k).map (false :: ·) else (loopP b (k - nloops a)).map (true :: ·)
  | .cond _ a b, k => bif Nat.blt k (nloops a) then (loopP a k).map (false :: ·) else (loopP b (k - nloops a)).map (true :: ·)
  | .block _ c, k => (loopP c k).map (false :: ·)
  | .loop c, k => bif Nat.beq k 0 then some [false] else (loopP c (k - 1)).map (false :: ·)
  | _, _ => none
theorem loopP_at : ∀ {c : Code} {k : Nat} {p : List Bool}, loopP c k = some p → loopAt c k = some (subc c p) := by
  intro c
  induction c with
  | seq a b iha ihb =>
    intro k p h
    simp only [loopP] at h
    simp only [loopAt]
    cases hb : Nat.blt k (nloops a) with
    | true => rw [hb] at h; obtain ⟨q, h1, rfl⟩ := Option.map_eq_some_iff.1 h; exact iha h1
    | false => rw [hb] at h; obtain ⟨q, h1, rfl⟩ := Option.map_eq_some_iff.1 h; exact ihb h1
  | cond x a b iha ihb =>
    intro k p h
    simp only [loopP] at h
    simp only [loopAt]
    cases hb : Nat.blt k (nloops a) with
    | true => rw [hb] at h; obtain ⟨q, h1, rfl⟩ := Option.map_eq_some_iff.1 h; exact iha h1
    | false => rw [hb] at h; obtain ⟨q, h1, rfl⟩ := Option.map_eq_some_iff.1 h; exact ihb h1
  | block id c ih =>
    intro k p h
    simp only [loopP] at h
    obtain ⟨q, h1, rfl⟩ := Option.map_eq_some_iff.1 h
    exact ih h1
  | loop c ih =>
    intro k p h
    simp only [loopP] at h
    simp only [loopAt]
    cases hb : Nat.beq k 0 with
    | true => rw [hb] at h; obtain rfl := Option.some.inj h; simp only [cond_true, subc]
    | false => rw [hb] at h; obtain ⟨q, h1, rfl⟩ := Option.map_eq_some_iff.1 h; exact ih h1
  | _ => intro k p h; cases h
inductive Fr where
  | seq (p : List Bool) (k : Nat)
  | blk (id : Nat)
  | ret
  | lup (k : Nat)
structure Fx where
  n : Nat
  f : Nat
  n0 : Nat
inductive Rq where
  | call (f : Nat) (args : List AV) (H : List Rs)
  | loop (f k n0 m : Nat) (L : LX) (H : HX)
  | code (X : Fx) (p : List Bool) (k : Nat) (fr : List Fr) (m : Nat) (L : LX) (H : HX)
  | nxt (X : Fx) (e : Exit) (fr : List Fr) (m : Nat) (L : LX) (H : HX)
  | ops (X : Fx) (p : List Bool) (i : Nat) (fr : List Fr) (m : Nat) (L : LX) (H : HX)
  | one (X : Fx) (p : List Bool) (i : Nat) (fr : List Fr) (m : Nat) (L : LX) (H : HX)
  | drw (X : Fx) (p : List Bool) (i : Nat) (tr : List Tr) (fr : List Fr) (m : Nat) (L : LX) (H : HX)
  | drw1 (X : Fx) (p : List Bool) (i : Nat) (tr : List Tr) (fr : List Fr) (m : Nat) (L : LX) (H : HX)
abbrev Oyr := Rq → Option Rsp
def toReq (Q : Oyr) : Orc := fun q => match q with
  | .call f a H => Q (.call f a H)
  | .loop f k n0 m L H => Q (.loop f k n0 m L H)
theorem toReq_call (Q : Oyr) (f : Nat) (a : List AV) (H : List Rs) : toReq Q (.call f a H) = Q (.call f a H) := rfl
theorem toReq_loop (Q : Oyr) (f k n0 m : Nat) (L : LX) (H : HX) : toReq Q (.loop f k n0 m L H) = Q (.loop f k n0 m L H) := rfl
def withL {R : Type} (d : Option Nat) (s : AV) (L : LX) (K : LX → R) : R := match d with
  | some d => K ((d, s) :: L)
  | none => K L
theorem withL_eq {R : Type} (d : Option Nat) (s : AV) (L : LX) (K : LX → R) : withL d s L K = K (putL d s L) := by cases d <;> rfl
theorem withL_m {R : Type} (d : Option Nat) (s : AV) (L : LX) (K : LX → R) : withL d s L K = K (match d with | some d => (d, s) :: L | none => L) := by cases d <;> rfl
def quiet : Op → Bool
  | .move _ => true
  | .assign _ => true
  | .nilCheck _ => true
  | .extract _ _ => true
  | .unOp _ _ _ => true
  | .binOp op _ _ _ _ => (match op with | .quo => false | .rem => false | .shl => false | .shr => false | _ => true)
  | .convert _ _ _ => true
  | .alloc _ => true
  | .box _ _ => true
  | .load _ _ => true
  | .store _ _ _ => true
  | .fieldAddr _ _ _ => true
  | .field _ _ _ => true
  | .build _ _ => true
  | .makeFunc _ _ _ => true
  | .call { callee := .builtin b, .. } => (match b with | .len => true | .min => true | .max => true | _ => false)
  | _ => false
def retY (E : Env) (X : Fx) (m : Nat) (L : LX) (H : HX) : Option Rsp := match cfk X.f E.C, filk X.f E.G with
  | some fn, some fi => finK E.T fi X.n0 fn.results.toList m L H
  | _, _ => none
def nxtY (E : Env) (Qc : Orc) (Q : Oyr) (X : Fx) : List Fr → Exit → Nat → LX → HX → Option Rsp
  | [], _, _, _, _ => none
  | .seq p k :: fr, e, m, L, H => (match e with
    | .normal => Q (.code X p k fr m L H)
    | e => nxtY E Qc Q X fr e m L H)
  | .blk id :: fr, e, m, L, H => (match e with
    | .exit id' => bif Nat.beq id' id then nxtY E Qc Q X fr .normal m L H else nxtY E Qc Q X fr (.exit id') m L H
    | e => nxtY E Qc Q X fr e m L H)
  | .ret :: _, e, m, L, H => (match e with
    | .normal => retY E X m L H
    | .ret => retY E X m L H
    | _ => none)
  | .lup k :: _, e, m, L, H => (match (keepAt E.G X.f)[k]? with
    | some kp => (match e with
      | .normal => entK kp.1 X.n0 m L H fun m L H => Qc (.loop X.f k X.n0 m L H)
      | e => entK kp.2 X.n0 m L H fun m L H => some (.fin e m L H))
    | none => none)
def opsY (E : Env) (Qc : Orc) (Q : Oyr) (X : Fx) (p : List Bool) (fr : List Fr) : List Oper → Nat → Nat → LX → HX → Option Rsp
  | [], i, m, L, H => nxtY E Qc Q X fr .normal m L H
  | o :: r, i, m, L, H => match o.guard with
    | none => bif dstB X.n o.dst then addN 1 i fun i => (bif quiet o.op
        then evAny E.T E.G Qc (evx L) (fun k => hlk k H) m o.op fun t => stepK o.dst t m L H fun m L H => opsY E Qc Q X p fr r i m L H
        else evAny E.T E.G Qc (evx L) (fun k => hlk k H) m o.op fun t => stepK o.dst t m L H fun m L H => Q (.ops X p i fr m L H)) else none
    | some (j, want) => (match ((opsOf (subc (bodyAt E.C X.f) p))[j]?).bind (·.dst) with
      | some d' => (match lkx d' L with
        | some (.b c) => bif dstB X.n o.dst && Nat.blt d' X.n then
            (addN 1 i fun i1 => bif c then
              bif want then Q (.one X p i fr m ((d', .b true) :: L) H)
              else withL o.dst (.tup []) ((d', .b true) :: L) fun L => Q (.ops X p i1 fr m L H)
            else
              bif want then withL o.dst (.tup []) ((d', .b false) :: L) fun L => Q (.ops X p i1 fr m L H)
              else Q (.one X p i fr m ((d', .b false) :: L) H))
          else none
        | some (.tup []) => bif dstB X.n o.dst && Nat.blt d' X.n then addN 1 i fun i => withL o.dst (.tup []) L fun L => opsY E Qc Q X p fr r i m L H else none
        | _ => none)
      | none => none)
def drwY (E : Env) (Qc : Orc) (Q : Oyr) (X : Fx) (p : List Bool) (fr : List Fr) : List Oper → Nat → List Tr → Nat → LX → HX → Option Rsp
  | [], i, tr, m, L, H => bif drawChk X.n (opsOf (subc (bodyAt E.C X.f) p)).toArray tr then Q (.nxt X .normal fr m L H) else none
  | o :: r, i, tr, m, L, H => match o.guard with
    | none => forceNs (o.looksAt (opsOf (subc (bodyAt E.C X.f) p)).toArray) fun lk => forceX (rst lk L) fun L' => addN 1 i fun i => (bif quiet o.op
        then evAny E.T E.G Qc (evx L') (fun k => hlk k H) m o.op fun t => stepK o.dst t m L H fun m L H => drwY E Qc Q X p fr r i (tr ++ [t]) m L H
        else evAny E.T E.G Qc (evx L') (fun k => hlk k H) m o.op fun t => stepK o.dst t m L H fun m L H => Q (.drw X p i (tr ++ [t]) fr m L H))
    | some (j, want) => (match ((opsOf (subc (bodyAt E.C X.f) p))[j]?).bind (·.dst) with
      | some d' => (match lkx d' L with
        | some (.b c) => addN 1 i fun i1 => bif c then
            bif want then Q (.drw1 X p i tr fr m L H)
            else withL o.dst (.tup []) L fun L => Q (.drw X p i1 (tr ++ [⟨.tup [], [], [], true, 0⟩]) fr m L H)
          else
            bif want then withL o.dst (.tup []) L fun L => Q (.drw X p i1 (tr ++ [⟨.tup [], [], [], true, 0⟩]) fr m L H)
            else Q (.drw1 X p i tr fr m L H)
        | some (.tup []) => addN 1 i fun i => withL o.dst (.tup []) L fun L => drwY E Qc Q X p fr r i (tr ++ [⟨.tup [], [], [], true, 0⟩]) m L H
        | _ => none)
      | none => none)
def codeY (E : Env) (Qc : Orc) (Qs Q : Oyr) (X : Fx) : Code → List Bool → Nat → List Fr → Nat → LX → HX → Option Rsp
  | .skip, p, k, fr, m, L, H => nxtY E Qc Q X fr .normal m L H
  | .label _, p, k, fr, m, L, H => nxtY E Qc Q X fr .normal m L H
  | .seq a b, p, k, fr, m, L, H => addN k (nloops a) fun k2 => forceP (p ++ [true]) fun p2 => codeY E Qc Qs Q X a (p ++ [false]) k (.seq p2 k2 :: fr) m L H
  | .cond c a b, p, k, fr, m, L, H => addN 0 k fun k => addN k (nloops a) fun k2 => forceP (p ++ [false]) fun p1 => forceP (p ++ [true]) fun p2 => (match evx L c with
    | some (.b t) => bif t then Q (.code X p1 k fr m L H) else Q (.code X p2 k2 fr m L H)
    | _ => none)
  | .block id c, p, k, fr, m, L, H => codeY E Qc Qs Q X c (p ++ [false]) k (.blk id :: fr) m L H
  | .exit id, p, k, fr, m, L, H => nxtY E Qc Q X fr (.exit id) m L H
  | .ret, p, k, fr, m, L, H => nxtY E Qc Q X fr .ret m L H
  | .region id ops false, p, k, fr, m, L, H => forceP p fun p => entK (entAt E.G X.f id) X.n0 m L H fun m L H => bif (entAt E.G X.f id).meet then Qs (.ops X p 0 fr m L H) else opsY E Qc Q X p fr ops.toList 0 m L H
  | .region id ops true, p, k, fr, m, L, H => forceP p fun p => entK (entAt E.G X.f id) X.n0 m L H fun m L H => bif (entAt E.G X.f id).meet then Qs (.drw X p 0 [] fr m L H) else drwY E Qc Q X p fr ops.toList 0 [] m L H
  | .loop c, p, k, fr, m, L, H => addN 0 k fun k => (match (keepAt E.G X.f)[k]? with
    | some kp => entK kp.1 X.n0 m L H fun m L H => (Qc (.loop X.f k X.n0 m L H)).bind fun r => match r with
      | .fin e m L H => Q (.nxt X e fr m L H)
      | _ => none
    | none => none)
  | _, _, _, _, _, _, _ => none
def bodyY (E : Env) (Qc : Orc) (Qs Q : Oyr) (q : Rq) : Option Rsp := match q with
  | .call f args H => (match E.ov (.call f args H) with
    | some r => some r
    | none => (match cfk f E.C, filk f E.G with
      | some fn, some _ => (match fn.body with
        | some _ => bif Nat.ble args.length fn.ntmps then addN 0 fn.ntmps fun n => addN 0 H.length fun n0 => Q (.code ⟨n, f, n0⟩ [] 0 [.ret] n0 (argX 0 args) (hOf 0 H)) else none
        | none => none)
      | _, _ => none))
  | .loop f k n0 m L H => (match E.ov (.loop f k n0 m L H) with
    | some r => some r
    | none => addN 0 n0 fun n0 => (match cfk f E.C, filk f E.G with
      | some fn, some fi => (match fn.body, fi.keep[k]? with
        | some c, some _ => (match loopP c k with
          | some p => addN 0 fn.ntmps fun n => forceP p fun p => Q (.code ⟨n, f, n0⟩ p (k + 1) [.lup k] m L H)
          | none => none)
        | _, _ => none)
      | _, _ => none))
  | .code X p k fr m L H => codeY E Qc Qs Q X (subc (bodyAt E.C X.f) p) p k fr m L H
  | .nxt X e fr m L H => nxtY E Qc Q X fr e m L H
  | .ops X p i fr m L H => opsY E Qc Q X p fr ((opsOf (subc (bodyAt E.C X.f) p)).drop i) i m L H
  | .one X p i fr m L H => (match (opsOf (subc (bodyAt E.C X.f) p))[i]? with
    | some o => addN 1 i fun i => evAny E.T E.G Qc (evx L) (fun k => hlk k H) m o.op fun t => stepK o.dst t m L H fun m L H => Q (.ops X p i fr m L H)
    | none => none)
  | .drw X p i tr fr m L H => drwY E Qc Q X p fr ((opsOf (subc (bodyAt E.C X.f) p)).drop i) i tr m L H
  | .drw1 X p i tr fr m L H => (match (opsOf (subc (bodyAt E.C X.f) p))[i]? with
    | some o => forceNs (o.looksAt (opsOf (subc (bodyAt E.C X.f) p)).toArray) fun lk => forceX (rst lk L) fun L' => addN 1 i fun i => evAny E.T E.G Qc (evx L') (fun k => hlk k H) m o.op fun t => stepK o.dst t m L H fun m L H => Q (.drw X p i (tr ++ [t]) fr m L H)
    | none => none)
def OyLe (Q Q' : Oyr) : Prop := ∀ q r, Q q = some r → Q' q = some r
section
variable {E : Env} {Qc Qc' : Orc} {Q Q' Qs Qs' : Oyr} {X : Fx} {r : Rsp}
theorem toReq_mono (h : OyLe Q Q') : OLe (toReq Q) (toReq Q') := by
  intro q r
  cases q with
  | call f a H => exact h _ _
  | loop f k n0 m L H => exact h _ _
theorem nxtY_mono (hc : OLe Qc Qc') (h : OyLe Q Q') : ∀ (fr : List Fr) {e : Exit} {m : Nat} {L : LX} {H : HX}, nxtY E Qc Q X fr e m L H = some r → nxtY E Qc' Q' X fr e m L H = some r
  | [], e, m, L, H => id
  | .seq p k :: fr, e, m, L, H => by
    cases e <;> first | exact h (.code X p k fr m L H) r | exact nxtY_mono hc h fr
  | .blk id :: fr, e, m, L, H => by
    cases e <;> first | exact bif_mono (nxtY_mono hc h fr) (nxtY_mono hc h fr) | exact nxtY_mono hc h fr
  | .ret :: fr, e, m, L, H => by cases e <;> exact id
  | .lup k :: fr, e, m, L, H => by
    simp only [nxtY]
    generalize (keepAt E.G X.f)[k]? = z
    cases z with
    | none => exact id
    | some kp => cases e <;> first | exact entK_mono fun m L H => hc (.loop X.f k X.n0 m L H) r | exact id
theorem opsY_mono (hc : OLe Qc Qc') (h : OyLe Q Q') {p : List Bool} {fr : List Fr} : ∀ (l : List Oper) {i m : Nat} {L : LX} {H : HX}, opsY E Qc Q X p fr l i m L H = some r → opsY E Qc' Q' X p fr l i m L H = some r
  | [], i, m, L, H => by rw [opsY, opsY]; exact nxtY_mono hc h fr
  | o :: l, i, m, L, H => by
    rw [opsY, opsY]
    simp only [addN_eq, withL_eq]
    split
    · exact bif_mono (bif_mono (evAny_mono hc fun t => stepK_mono fun m L H => opsY_mono hc h l) (evAny_mono hc fun t => stepK_mono fun m L H => h _ _)) id
    · split
      · split
        · exact bif_mono (bif_mono (bif_mono (h _ _) (h _ _)) (bif_mono (h _ _) (h _ _))) id
        · exact bif_mono (opsY_mono hc h l) id
        · exact id
      · exact id
theorem drwY_mono (hc : OLe Qc Qc') (h : OyLe Q Q') {p : List Bool} {fr : List Fr} : ∀ (l : List Oper) {i : Nat} {tr : List Tr} {m : Nat} {L : LX} {H : HX}, drwY E Qc Q X p fr l i tr m L H = some r → drwY E Qc' Q' X p fr l i tr m L H = some r
  | [], i, tr, m, L, H => by rw [drwY, drwY]; exact bif_mono (h _ _) id
  | o :: l, i, tr, m, L, H => by
    rw [drwY, drwY]
    simp only [addN_eq, forceNs_eq, forceX_eq, withL_eq]
    split
    · exact bif_mono (evAny_mono hc fun t => stepK_mono fun m L H => drwY_mono hc h l) (evAny_mono hc fun t => stepK_mono fun m L H => h _ _)
    · split
      · split
        · exact bif_mono (bif_mono (h _ _) (h _ _)) (bif_mono (h _ _) (h _ _))
        · exact drwY_mono hc h l
        · exact id
      · exact id
theorem codeY_mono (hc : OLe Qc Qc') (hs : OyLe Qs Qs') (h : OyLe Q Q') : ∀ (c : Code) {p : List Bool} {k : Nat} {fr : List Fr} {m : Nat} {L : LX} {H : HX}, codeY E Qc Qs Q X c p k fr m L H = some r → codeY E Qc' Qs' Q' X c p k fr m L H = some r := by
  intro c
  induction c with
  | skip => intro p k fr m L H; exact nxtY_mono hc h fr
  | label l => intro p k fr m L H; exact nxtY_mono hc h fr
  | exit id => intro p k fr m L H; exact nxtY_mono hc h fr
  | ret => intro p k fr m L H; exact nxtY_mono hc h fr
  | seq a b iha ihb => intro p k fr m L H; rw [codeY, codeY]; simp only [addN_eq, forceP_eq]; exact iha
  | block id c ih => intro p k fr m L H; rw [codeY, codeY]; exact ih
  | cond x a b iha ihb =>
    intro p k fr m L H
    rw [codeY, codeY]
    simp only [addN_eq, forceP_eq]
    split
    · exact bif_mono (h _ _) (h _ _)
    · exact id
  | region id ops b =>
    intro p k fr m L H
    cases b with
    | false => rw [codeY, codeY]; simp only [forceP_eq]; exact entK_mono fun m L H => bif_mono (hs _ _) (opsY_mono hc h _)
    | true => rw [codeY, codeY]; simp only [forceP_eq]; exact entK_mono fun m L H => bif_mono (hs _ _) (drwY_mono hc h _)
  | loop c ih =>
    intro p k fr m L H
    rw [codeY, codeY]
    simp only [addN_eq, Nat.zero_add]
    split
    · refine entK_mono fun m L H hh => ?_
      obtain ⟨x, h1, h2⟩ := Option.bind_eq_some_iff.1 hh
      rw [hc _ _ h1]
      simp only [Option.bind_some]
      revert h2
      split
      · exact h _ _
      · exact id
    · exact id
  | _ => intro p k fr m L H hh; simp only [codeY] at hh; cases hh
theorem bodyY_mono (hc : OLe Qc Qc') (hs : OyLe Qs Qs') (h : OyLe Q Q') : OyLe (bodyY E Qc Qs Q) (bodyY E Qc' Qs' Q') := by
  intro q r
  cases q with
  | call f args H =>
    simp only [bodyY, addN_eq]
    split
    · exact id
    · split
      · split
        · exact bif_mono (h _ _) id
        · exact id
      · exact id
  | loop f k n0 m L H =>
    simp only [bodyY, addN_eq, forceP_eq]
    split
    · exact id
    · split
      · split
        · split
          · exact h _ _
          · exact id
        · exact id
      · exact id
  | code X p k fr m L H => exact codeY_mono hc hs h _
  | nxt X e fr m L H => exact nxtY_mono hc h fr
  | ops X p i fr m L H => exact opsY_mono hc h _
  | one X p i fr m L H =>
    simp only [bodyY, addN_eq]
    split
    · exact evAny_mono hc fun t => stepK_mono fun m L H => h _ _
    · exact id
  | drw X p i tr fr m L H => exact drwY_mono hc h _
  | drw1 X p i tr fr m L H =>
    simp only [bodyY, forceNs_eq, forceX_eq, addN_eq]
    split
    · exact evAny_mono hc fun t => stepK_mono fun m L H => h _ _
    · exact id
end
def Y (E : Env) (q : Rq) : Option Rsp := bodyY E (toReq (Y E)) (Y E) (Y E) q
partial_fixpoint monotonicity by
  intro F1 F2 h q
  have hQ : OyLe F1 F2 := fun q r hq => by
    have hr := h q
    generalize F2 q = z at hr ⊢
    generalize F1 q = y at hr hq
    subst hq
    cases hr
    rfl
  have hm := bodyY_mono (E := E) (toReq_mono hQ) hQ hQ q
  dsimp only
  generalize bodyY E (toReq F2) F2 F2 q = z at hm ⊢
  generalize bodyY E (toReq F1) F1 F1 q = y at hm ⊢
  cases y with
  | none => exact .bot
  | some r => rw [hm r rfl]; exact .refl
abbrev cdA (E : Env) (X : Fx) (p : List Bool) : Code := subc (bodyAt E.C X.f) p
abbrev opA (E : Env) (X : Fx) (p : List Bool) : List Oper := opsOf (cdA E X p)
def KF (E : Env) (X : Fx) : List Fr → Exit → Nat → LX → HX → Option Rsp
  | [], _, _, _, _ => none
  | .seq p k :: fr, e, m, L, H => (match e with
    | .normal => evC E.T E.G (F E) X.n X.f X.n0 (keepAt E.G X.f) (cdA E X p) k m L H (KF E X fr)
    | e => KF E X fr e m L H)
  | .blk id :: fr, e, m, L, H => (match e with
    | .exit id' => bif Nat.beq id' id then KF E X fr .normal m L H else KF E X fr (.exit id') m L H
    | e => KF E X fr e m L H)
  | .ret :: _, e, m, L, H => (match e with
    | .normal => retY E X m L H
    | .ret => retY E X m L H
    | _ => none)
  | .lup k :: _, e, m, L, H => (match (keepAt E.G X.f)[k]? with
    | some kp => (match e with
      | .normal => entK kp.1 X.n0 m L H fun m L H => F E (.loop X.f k X.n0 m L H)
      | e => entK kp.2 X.n0 m L H fun m L H => some (.fin e m L H))
    | none => none)
def den (E : Env) : Rq → Option Rsp
  | .call f args H => F E (.call f args H)
  | .loop f k n0 m L H => F E (.loop f k n0 m L H)
  | .code X p k fr m L H => evC E.T E.G (F E) X.n X.f X.n0 (keepAt E.G X.f) (cdA E X p) k m L H (KF E X fr)
  | .nxt X e fr m L H => KF E X fr e m L H
  | .ops X p i fr m L H => evOps E.T E.G (F E) X.n (opA E X p) ((opA E X p).drop i) m L H fun m L H => KF E X fr .normal m L H
  | .one X p i fr m L H => (match (opA E X p)[i]? with
    | some o => evAny E.T E.G (F E) (evx L) (fun k => hlk k H) m o.op fun t => stepK o.dst t m L H fun m L H => evOps E.T E.G (F E) X.n (opA E X p) ((opA E X p).drop (1 + i)) m L H fun m L H => KF E X fr .normal m L H
    | none => none)
  | .drw X p i tr fr m L H => evDrw E.T E.G (F E) (opA E X p) ((opA E X p).drop i) tr m L H fun tr m L H => bif drawChk X.n (opA E X p).toArray tr then KF E X fr .normal m L H else none
  | .drw1 X p i tr fr m L H => (match (opA E X p)[i]? with
    | some o => forceNs (o.looksAt (opA E X p).toArray) fun lk => forceX (rst lk L) fun L' => evAny E.T E.G (F E) (evx L') (fun k => hlk k H) m o.op fun t => stepK o.dst t m L H fun m L H => evDrw E.T E.G (F E) (opA E X p) ((opA E X p).drop (1 + i)) (tr ++ [t]) m L H fun tr m L H => bif drawChk X.n (opA E X p).toArray tr then KF E X fr .normal m L H else none
    | none => none)
section
variable {E : Env} {Qc : Orc} {Q Qs : Oyr} {X : Fx} {r : Rsp}
theorem toReq_den (h : OyLe Q (den E)) : OLe (toReq Q) (F E) := by
  intro q r
  cases q with
  | call f a H => exact h (.call f a H) r
  | loop f k n0 m L H => exact h (.loop f k n0 m L H) r
theorem nxtY_den (hc : OLe Qc (F E)) (h : OyLe Q (den E)) : ∀ (fr : List Fr) {e : Exit} {m : Nat} {L : LX} {H : HX}, nxtY E Qc Q X fr e m L H = some r → KF E X fr e m L H = some r
  | [], e, m, L, H => id
  | .seq p k :: fr, e, m, L, H => by
    cases e <;> first | exact h (.code X p k fr m L H) r | exact nxtY_den hc h fr
  | .blk id :: fr, e, m, L, H => by
    cases e <;> first | exact bif_mono (nxtY_den hc h fr) (nxtY_den hc h fr) | exact nxtY_den hc h fr
  | .ret :: fr, e, m, L, H => by cases e <;> exact id
  | .lup k :: fr, e, m, L, H => by
    simp only [nxtY, KF]
    generalize (keepAt E.G X.f)[k]? = z
    cases z with
    | none => exact id
    | some kp => cases e <;> first | exact entK_mono fun m L H => hc (.loop X.f k X.n0 m L H) r | exact id
theorem drop_tl {α : Type} {l t : List α} {i : Nat} {o : α} (h : l.drop i = o :: t) : l[i]? = some o ∧ l.drop (1 + i) = t := by
  constructor
  · have := congrArg (fun z => z[0]?) h
    simpa using this
  · have := congrArg (fun z => z.drop 1) h
    simp only [List.drop_drop, List.drop_succ_cons, List.drop_zero] at this
    rw [Nat.add_comm]; exact this
theorem opsY_den (hc : OLe Qc (F E)) (h : OyLe Q (den E)) {p : List Bool} {fr : List Fr} : ∀ (l : List Oper) {i m : Nat} {L : LX} {H : HX}, (opA E X p).drop i = l → opsY E Qc Q X p fr l i m L H = some r → evOps E.T E.G (F E) X.n (opA E X p) l m L H (fun m L H => KF E X fr .normal m L H) = some r
  | [], i, m, L, H, _ => by rw [opsY, evOps]; exact nxtY_den hc h fr
  | o :: l, i, m, L, H, hl => by
    obtain ⟨h1, h2⟩ := drop_tl hl
    have hops : ∀ {m L H}, Q (.ops X p (1 + i) fr m L H) = some r → evOps E.T E.G (F E) X.n (opA E X p) l m L H (fun m L H => KF E X fr .normal m L H) = some r := fun hh => by
      have := h _ _ hh
      rw [den, h2] at this
      exact this
    have hone : ∀ {m L H}, Q (.one X p i fr m L H) = some r → (evAny E.T E.G (F E) (evx L) (fun k => hlk k H) m o.op fun t => stepK o.dst t m L H fun m L H => evOps E.T E.G (F E) X.n (opA E X p) l m L H fun m L H => KF E X fr .normal m L H) = some r := fun hh => by
      have := h _ _ hh
      rw [den, h1, h2] at this
      exact this
    rw [opsY, evOps]
    simp only [addN_eq, withL_m]
    generalize o.guard = g
    cases g with
    | none =>
      refine bif_mono (fun hh => ?_) id
      cases hq : quiet o.op with
      | true =>
        rw [hq, cond_true] at hh
        exact evAny_mono hc (fun t => stepK_mono fun m L H => opsY_den hc h l h2) hh
      | false =>
        rw [hq, cond_false] at hh
        exact evAny_mono hc (fun t => stepK_mono fun m L H => hops) hh
    | some q =>
      obtain ⟨j, want⟩ := q
      simp only
      generalize ((opA E X p)[j]?).bind (·.dst) = x
      cases x with
      | none => exact id
      | some d' =>
        simp only
        generalize lkx d' L = y
        match y with
        | some (.b c) => exact bif_mono (bif_mono (bif_mono hone hops) (bif_mono hops hone)) id
        | some (.tup []) => exact bif_mono (opsY_den hc h l h2) id
        | none | some .un | some (.i _) | some (.u8 _) | some (.u32 _) | some (.u64 _) | some (.str _) | some (.sl _ _) | some (.st _ _) | some (.sn _ _) | some .nil | some (.nm _) | some (.pa _ _) | some (.pe _ _ _ _) | some (.vs _ _ _ _) | some (.pt _) | some (.agg _) | some (.tup (_ :: _)) | some (.fn _ _ _) => exact fun hh => by cases hh
theorem drwY_den (hc : OLe Qc (F E)) (h : OyLe Q (den E)) {p : List Bool} {fr : List Fr} : ∀ (l : List Oper) {i : Nat} {tr : List Tr} {m : Nat} {L : LX} {H : HX}, (opA E X p).drop i = l → drwY E Qc Q X p fr l i tr m L H = some r → evDrw E.T E.G (F E) (opA E X p) l tr m L H (fun tr m L H => bif drawChk X.n (opA E X p).toArray tr then KF E X fr .normal m L H else none) = some r
  | [], i, tr, m, L, H, _ => by rw [drwY, evDrw]; exact bif_mono (h (.nxt X .normal fr m L H) r) id
  | o :: l, i, tr, m, L, H, hl => by
    obtain ⟨h1, h2⟩ := drop_tl hl
    have hops : ∀ {tr m L H}, Q (.drw X p (1 + i) tr fr m L H) = some r → evDrw E.T E.G (F E) (opA E X p) l tr m L H (fun tr m L H => bif drawChk X.n (opA E X p).toArray tr then KF E X fr .normal m L H else none) = some r := fun hh => by
      have := h _ _ hh
      rw [den, h2] at this
      exact this
    have hone : ∀ {tr m L H}, Q (.drw1 X p i tr fr m L H) = some r → (evAny E.T E.G (F E) (evx (rst (o.looksAt (opA E X p).toArray) L)) (fun k => hlk k H) m o.op fun t => stepK o.dst t m L H fun m L H => evDrw E.T E.G (F E) (opA E X p) l (tr ++ [t]) m L H (fun tr m L H => bif drawChk X.n (opA E X p).toArray tr then KF E X fr .normal m L H else none)) = some r := fun hh => by
      have := h _ _ hh
      rw [den, h1, h2] at this
      simpa only [forceNs_eq, forceX_eq] using this
    rw [drwY, evDrw]
    simp only [addN_eq, forceNs_eq, forceX_eq, withL_eq]
    generalize o.guard = g
    cases g with
    | none =>
      intro hh
      cases hq : quiet o.op with
      | true =>
        rw [hq, cond_true] at hh
        exact evAny_mono hc (fun t => stepK_mono fun m L H => drwY_den hc h l h2) hh
      | false =>
        rw [hq, cond_false] at hh
        exact evAny_mono hc (fun t => stepK_mono fun m L H => hops) hh
    | some q =>
      obtain ⟨j, want⟩ := q
      simp only
      generalize ((opA E X p)[j]?).bind (·.dst) = x
      cases x with
      | none => exact id
      | some d' =>
        simp only
        generalize lkx d' L = y
        match y with
        | some (.b c) => exact bif_mono (bif_mono hone hops) (bif_mono hops hone)
        | some (.tup []) => exact drwY_den hc h l h2
        | none | some .un | some (.i _) | some (.u8 _) | some (.u32 _) | some (.u64 _) | some (.str _) | some (.sl _ _) | some (.st _ _) | some (.sn _ _) | some .nil | some (.nm _) | some (.pa _ _) | some (.pe _ _ _ _) | some (.vs _ _ _ _) | some (.pt _) | some (.agg _) | some (.tup (_ :: _)) | some (.fn _ _ _) => exact fun hh => by cases hh
theorem subc_nil (c : Code) : subc c [] = c := by cases c <;> simp only [subc]
theorem codeY_den (hc : OLe Qc (F E)) (hs : OyLe Qs (den E)) (h : OyLe Q (den E)) : ∀ (c : Code) {p : List Bool} {k : Nat} {fr : List Fr} {m : Nat} {L : LX} {H : HX}, cdA E X p = c → codeY E Qc Qs Q X c p k fr m L H = some r → evC E.T E.G (F E) X.n X.f X.n0 (keepAt E.G X.f) c k m L H (KF E X fr) = some r := by
  intro c
  induction c with
  | skip => intro p k fr m L H _; exact nxtY_den hc h fr
  | label l => intro p k fr m L H _; exact nxtY_den hc h fr
  | exit id => intro p k fr m L H _; exact nxtY_den hc h fr
  | ret => intro p k fr m L H _; exact nxtY_den hc h fr
  | seq a b iha ihb =>
    intro p k fr m L H hcd hh
    rw [codeY] at hh
    simp only [addN_eq, forceP_eq] at hh
    have ha : cdA E X (p ++ [false]) = a := by unfold cdA; rw [subc_app]; unfold cdA at hcd; rw [hcd]; simp only [subc, subc_nil]
    have hb : cdA E X (p ++ [true]) = b := by unfold cdA; rw [subc_app]; unfold cdA at hcd; rw [hcd]; simp only [subc, subc_nil]
    have := iha ha hh
    rw [evC]
    refine evC_mono (fun _ _ h => h) a (fun e m L H => ?_) this
    cases e <;> simp only [KF, hb] <;> exact id
  | block id c ih =>
    intro p k fr m L H hcd hh
    rw [codeY] at hh
    have ha : cdA E X (p ++ [false]) = c := by unfold cdA; rw [subc_app]; unfold cdA at hcd; rw [hcd]; simp only [subc, subc_nil]
    have := ih ha hh
    rw [evC]
    refine evC_mono (fun _ _ h => h) c (fun e m L H => ?_) this
    cases e <;> exact _root_.id
  | cond x a b iha ihb =>
    intro p k fr m L H hcd
    have ha : cdA E X (p ++ [false]) = a := by unfold cdA; rw [subc_app]; unfold cdA at hcd; rw [hcd]; simp only [subc, subc_nil]
    have hb : cdA E X (p ++ [true]) = b := by unfold cdA; rw [subc_app]; unfold cdA at hcd; rw [hcd]; simp only [subc, subc_nil]
    rw [codeY, evC]
    simp only [addN_eq, forceP_eq, Nat.zero_add]
    generalize evx L x = y
    match y with
    | some (.b c) => exact bif_mono (fun hh => by have := h _ _ hh; rw [den, ha] at this; exact this) (fun hh => by have := h _ _ hh; rw [den, hb] at this; exact this)
    | none | some .un | some (.i _) | some (.u8 _) | some (.u32 _) | some (.u64 _) | some (.str _) | some (.sl _ _) | some (.st _ _) | some (.sn _ _) | some .nil | some (.nm _) | some (.pa _ _) | some (.pe _ _ _ _) | some (.vs _ _ _ _) | some (.pt _) | some (.agg _) | some (.tup _) | some (.fn _ _ _) => exact fun hh => by cases hh
  | region id ops b =>
    intro p k fr m L H hcd
    have ho : opA E X p = ops.toList := by unfold opA; rw [hcd]; rfl
    cases b with
    | false =>
      rw [codeY, evC]; simp only [forceP_eq]
      refine entK_mono fun m L H hh => ?_
      revert hh
      cases (entAt E.G X.f id).meet with
      | true =>
        intro hh
        have := hs _ _ hh
        rw [den, ho, List.drop_zero] at this; exact this
      | false =>
        intro hh
        have := opsY_den hc h ops.toList (p := p) (fr := fr) (by rw [ho, List.drop_zero]) hh
        rw [ho] at this; exact this
    | true =>
      rw [codeY, evC]; simp only [forceP_eq]
      refine entK_mono fun m L H hh => ?_
      revert hh
      cases (entAt E.G X.f id).meet with
      | true =>
        intro hh
        have := hs _ _ hh
        rw [den, ho, List.drop_zero] at this; exact this
      | false =>
        intro hh
        have := drwY_den hc h ops.toList (p := p) (fr := fr) (by rw [ho, List.drop_zero]) hh
        rw [ho] at this; exact this
  | loop c ih =>
    intro p k fr m L H hcd
    rw [codeY, evC]
    simp only [addN_eq, Nat.zero_add]
    generalize (keepAt E.G X.f)[k]? = z
    cases z with
    | none => exact id
    | some kp =>
      refine entK_mono fun m L H hh => ?_
      obtain ⟨x, h1, h2⟩ := Option.bind_eq_some_iff.1 hh
      rw [show F E (.loop X.f k X.n0 m L H) = some x from hc (.loop X.f k X.n0 m L H) x h1]
      simp only [Option.bind_some]
      cases x with
      | fin e m L H => exact h (.nxt X e fr m L H) r h2
      | ret s H => cases h2
  | _ => intro p k fr m L H _ hh; simp only [codeY] at hh; cases hh
theorem Y_den : ∀ q r, Y E q = some r → den E q = some r := by
  refine Y.partial_correctness E _ fun Q hQ q r hr => ?_
  have h : OyLe Q (den E) := hQ
  have hc := toReq_den h
  cases q with
  | call f args H =>
    rw [den, F.eq_1]
    simp only [bodyY, addN_eq, Nat.zero_add] at hr
    unfold bodyF
    split at hr
    · rename_i x ho; rw [ho]; exact hr
    · rename_i ho
      rw [ho]
      simp only [addN_eq, Nat.zero_add]
      split at hr
      · rename_i fn fi hcf hfi
        rw [hcf, hfi]
        simp only
        split at hr
        · rename_i c hb
          rw [hb]
          simp only
          revert hr
          refine bif_mono (fun hr => ?_) id
          have := h _ _ hr
          have e1 : cdA E ⟨fn.ntmps, f, H.length⟩ [] = c := by simp only [cdA, bodyAt, hcf, hb, subc_nil]
          have e2 : keepAt E.G f = fi.keep := by simp only [keepAt, hfi]
          rw [den, e1] at this
          simp only [e2] at this
          refine evC_mono (fun _ _ h => h) c (fun e m L H => ?_) this
          cases e <;> simp only [KF, retY, hcf, hfi] <;> exact id
        · cases hr
      · cases hr
  | loop f k n0 m L H =>
    rw [den, F.eq_1]
    simp only [bodyY, addN_eq, Nat.zero_add, forceP_eq] at hr
    unfold bodyF
    split at hr
    · rename_i x ho; rw [ho]; exact hr
    · rename_i ho
      rw [ho]
      simp only
      split at hr
      · rename_i fn fi hcf hfi
        rw [hcf, hfi]
        simp only
        split at hr
        · rename_i c kp hb hkp
          rw [hb, hkp]
          simp only
          split at hr
          · rename_i p hl
            rw [loopP_at hl]
            simp only
            have := h _ _ hr
            have e1 : cdA E ⟨fn.ntmps, f, n0⟩ p = subc c p := by simp only [cdA, bodyAt, hcf, hb]
            have e2 : keepAt E.G f = fi.keep := by simp only [keepAt, hfi]
            rw [den, e1] at this
            simp only [e2] at this
            refine evC_mono (fun _ _ h => h) _ (fun e m L H => ?_) this
            simp only [KF, e2, hkp]
            cases e <;> exact id
          · cases hr
        · cases hr
      · cases hr
  | code X p k fr m L H => exact codeY_den hc h h _ rfl hr
  | nxt X e fr m L H => exact nxtY_den hc h fr hr
  | ops X p i fr m L H => exact opsY_den hc h _ rfl hr
  | one X p i fr m L H =>
    rw [den]
    simp only [bodyY, addN_eq] at hr
    show (match (opA E X p)[i]? with | some o => _ | none => none) = some r
    generalize (opA E X p)[i]? = z at hr ⊢
    cases z with
    | none => cases hr
    | some o => exact evAny_mono hc (fun t => stepK_mono fun m L H => h (.ops X p (1 + i) fr m L H) r) hr
  | drw X p i tr fr m L H => exact drwY_den hc h _ rfl hr
  | drw1 X p i tr fr m L H =>
    rw [den]
    simp only [bodyY, addN_eq, forceNs_eq, forceX_eq] at hr ⊢
    generalize hz : (opA E X p)[i]? = z at hr ⊢
    cases z with
    | none => cases hr
    | some o => exact evAny_mono hc (fun t => stepK_mono fun m L H => h (.drw X p (1 + i) _ fr m L H) r) hr
def Y1 (E : Env) (q : Rq) : Option Rsp := bodyY E (toReq (Y E)) (Y E) (Y E) q
def Y2 (E : Env) (q : Rq) : Option Rsp := bodyY E (toReq (Y E)) (Y E) (Y1 E) q
def Y3 (E : Env) (q : Rq) : Option Rsp := bodyY E (toReq (Y E)) (Y E) (Y2 E) q
def Y4 (E : Env) (q : Rq) : Option Rsp := bodyY E (toReq (Y E)) (Y E) (Y3 E) q
def Y5 (E : Env) (q : Rq) : Option Rsp := bodyY E (toReq (Y E)) (Y E) (Y4 E) q
def Y6 (E : Env) (q : Rq) : Option Rsp := bodyY E (toReq (Y E)) (Y E) (Y5 E) q
def Y7 (E : Env) (q : Rq) : Option Rsp := bodyY E (toReq (Y E)) (Y E) (Y6 E) q
def Y8 (E : Env) (q : Rq) : Option Rsp := bodyY E (toReq (Y E)) (Y E) (Y7 E) q
def Y9 (E : Env) (q : Rq) : Option Rsp := bodyY E (toReq (Y E)) (Y E) (Y8 E) q
def Y10 (E : Env) (q : Rq) : Option Rsp := bodyY E (toReq (Y E)) (Y E) (Y9 E) q
def Y11 (E : Env) (q : Rq) : Option Rsp := bodyY E (toReq (Y E)) (Y E) (Y10 E) q
def Y12 (E : Env) (q : Rq) : Option Rsp := bodyY E (toReq (Y E)) (Y E) (Y11 E) q
def Y13 (E : Env) (q : Rq) : Option Rsp := bodyY E (toReq (Y E)) (Y E) (Y12 E) q
def Y14 (E : Env) (q : Rq) : Option Rsp := bodyY E (toReq (Y E)) (Y E) (Y13 E) q
def Y15 (E : Env) (q : Rq) : Option Rsp := bodyY E (toReq (Y E)) (Y E) (Y14 E) q
def Y16 (E : Env) (q : Rq) : Option Rsp := bodyY E (toReq (Y E)) (Y E) (Y15 E) q
def Y17 (E : Env) (q : Rq) : Option Rsp := bodyY E (toReq (Y E)) (Y E) (Y16 E) q
def Y18 (E : Env) (q : Rq) : Option Rsp := bodyY E (toReq (Y E)) (Y E) (Y17 E) q
def Y19 (E : Env) (q : Rq) : Option Rsp := bodyY E (toReq (Y E)) (Y E) (Y18 E) q
def Y20 (E : Env) (q : Rq) : Option Rsp := bodyY E (toReq (Y E)) (Y E) (Y19 E) q
def Y21 (E : Env) (q : Rq) : Option Rsp := bodyY E (toReq (Y E)) (Y E) (Y20 E) q
def Y22 (E : Env) (q : Rq) : Option Rsp := bodyY E (toReq (Y E)) (Y E) (Y21 E) q
def Y23 (E : Env) (q : Rq) : Option Rsp := bodyY E (toReq (Y E)) (Y E) (Y22 E) q
def Y24 (E : Env) (q : Rq) : Option Rsp := bodyY E (toReq (Y E)) (Y E) (Y23 E) q
def Y25 (E : Env) (q : Rq) : Option Rsp := bodyY E (toReq (Y E)) (Y E) (Y24 E) q
def Y26 (E : Env) (q : Rq) : Option Rsp := bodyY E (toReq (Y E)) (Y E) (Y25 E) q
def Y27 (E : Env) (q : Rq) : Option Rsp := bodyY E (toReq (Y E)) (Y E) (Y26 E) q
def Y28 (E : Env) (q : Rq) : Option Rsp := bodyY E (toReq (Y E)) (Y E) (Y27 E) q
def Y29 (E : Env) (q : Rq) : Option Rsp := bodyY E (toReq (Y E)) (Y E) (Y28 E) q
def Y30 (E : Env) (q : Rq) : Option Rsp := bodyY E (toReq (Y E)) (Y E) (Y29 E) q
def Y31 (E : Env) (q : Rq) : Option Rsp := bodyY E (toReq (Y E)) (Y E) (Y30 E) q
def Y32 (E : Env) (q : Rq) : Option Rsp := bodyY E (toReq (Y E)) (Y E) (Y31 E) q
def Y33 (E : Env) (q : Rq) : Option Rsp := bodyY E (toReq (Y E)) (Y E) (Y32 E) q
def Y34 (E : Env) (q : Rq) : Option Rsp := bodyY E (toReq (Y E)) (Y E) (Y33 E) q
def Y35 (E : Env) (q : Rq) : Option Rsp := bodyY E (toReq (Y E)) (Y E) (Y34 E) q
def Y36 (E : Env) (q : Rq) : Option Rsp := bodyY E (toReq (Y E)) (Y E) (Y35 E) q
def Y37 (E : Env) (q : Rq) : Option Rsp := bodyY E (toReq (Y E)) (Y E) (Y36 E) q
def Y38 (E : Env) (q : Rq) : Option Rsp := bodyY E (toReq (Y E)) (Y E) (Y37 E) q
def Y39 (E : Env) (q : Rq) : Option Rsp := bodyY E (toReq (Y E)) (Y E) (Y38 E) q
def Y40 (E : Env) (q : Rq) : Option Rsp := bodyY E (toReq (Y E)) (Y E) (Y39 E) q
theorem Y_0 : Y = Y := rfl
theorem Y_1 : Y = Y1 := by funext E q; rw [Y.eq_1]; show _ = bodyY E (toReq (Y E)) (Y E) (Y E) q; rw [← Y_0]
theorem Y_2 : Y = Y2 := by funext E q; rw [Y.eq_1]; show _ = bodyY E (toReq (Y E)) (Y E) (Y1 E) q; rw [← Y_1]
theorem Y_3 : Y = Y3 := by funext E q; rw [Y.eq_1]; show _ = bodyY E (toReq (Y E)) (Y E) (Y2 E) q; rw [← Y_2]
theorem Y_4 : Y = Y4 := by funext E q; rw [Y.eq_1]; show _ = bodyY E (toReq (Y E)) (Y E) (Y3 E) q; rw [← Y_3]
theorem Y_5 : Y = Y5 := by funext E q; rw [Y.eq_1]; show _ = bodyY E (toReq (Y E)) (Y E) (Y4 E) q; rw [← Y_4]
theorem Y_6 : Y = Y6 := by funext E q; rw [Y.eq_1]; show _ = bodyY E (toReq (Y E)) (Y E) (Y5 E) q; rw [← Y_5]
theorem Y_7 : Y = Y7 := by funext E q; rw [Y.eq_1]; show _ = bodyY E (toReq (Y E)) (Y E) (Y6 E) q; rw [← Y_6]
theorem Y_8 : Y = Y8 := by funext E q; rw [Y.eq_1]; show _ = bodyY E (toReq (Y E)) (Y E) (Y7 E) q; rw [← Y_7]
theorem Y_9 : Y = Y9 := by funext E q; rw [Y.eq_1]; show _ = bodyY E (toReq (Y E)) (Y E) (Y8 E) q; rw [← Y_8]
theorem Y_10 : Y = Y10 := by funext E q; rw [Y.eq_1]; show _ = bodyY E (toReq (Y E)) (Y E) (Y9 E) q; rw [← Y_9]
theorem Y_11 : Y = Y11 := by funext E q; rw [Y.eq_1]; show _ = bodyY E (toReq (Y E)) (Y E) (Y10 E) q; rw [← Y_10]
theorem Y_12 : Y = Y12 := by funext E q; rw [Y.eq_1]; show _ = bodyY E (toReq (Y E)) (Y E) (Y11 E) q; rw [← Y_11]
theorem Y_13 : Y = Y13 := by funext E q; rw [Y.eq_1]; show _ = bodyY E (toReq (Y E)) (Y E) (Y12 E) q; rw [← Y_12]
theorem Y_14 : Y = Y14 := by funext E q; rw [Y.eq_1]; show _ = bodyY E (toReq (Y E)) (Y E) (Y13 E) q; rw [← Y_13]
theorem Y_15 : Y = Y15 := by funext E q; rw [Y.eq_1]; show _ = bodyY E (toReq (Y E)) (Y E) (Y14 E) q; rw [← Y_14]
theorem Y_16 : Y = Y16 := by funext E q; rw [Y.eq_1]; show _ = bodyY E (toReq (Y E)) (Y E) (Y15 E) q; rw [← Y_15]
theorem Y_17 : Y = Y17 := by funext E q; rw [Y.eq_1]; show _ = bodyY E (toReq (Y E)) (Y E) (Y16 E) q; rw [← Y_16]
theorem Y_18 : Y = Y18 := by funext E q; rw [Y.eq_1]; show _ = bodyY E (toReq (Y E)) (Y E) (Y17 E) q; rw [← Y_17]
theorem Y_19 : Y = Y19 := by funext E q; rw [Y.eq_1]; show _ = bodyY E (toReq (Y E)) (Y E) (Y18 E) q; rw [← Y_18]
theorem Y_20 : Y = Y20 := by funext E q; rw [Y.eq_1]; show _ = bodyY E (toReq (Y E)) (Y E) (Y19 E) q; rw [← Y_19]
theorem Y_21 : Y = Y21 := by funext E q; rw [Y.eq_1]; show _ = bodyY E (toReq (Y E)) (Y E) (Y20 E) q; rw [← Y_20]
theorem Y_22 : Y = Y22 := by funext E q; rw [Y.eq_1]; show _ = bodyY E (toReq (Y E)) (Y E) (Y21 E) q; rw [← Y_21]
theorem Y_23 : Y = Y23 := by funext E q; rw [Y.eq_1]; show _ = bodyY E (toReq (Y E)) (Y E) (Y22 E) q; rw [← Y_22]
theorem Y_24 : Y = Y24 := by funext E q; rw [Y.eq_1]; show _ = bodyY E (toReq (Y E)) (Y E) (Y23 E) q; rw [← Y_23]
theorem Y_25 : Y = Y25 := by funext E q; rw [Y.eq_1]; show _ = bodyY E (toReq (Y E)) (Y E) (Y24 E) q; rw [← Y_24]
theorem Y_26 : Y = Y26 := by funext E q; rw [Y.eq_1]; show _ = bodyY E (toReq (Y E)) (Y E) (Y25 E) q; rw [← Y_25]
theorem Y_27 : Y = Y27 := by funext E q; rw [Y.eq_1]; show _ = bodyY E (toReq (Y E)) (Y E) (Y26 E) q; rw [← Y_26]
theorem Y_28 : Y = Y28 := by funext E q; rw [Y.eq_1]; show _ = bodyY E (toReq (Y E)) (Y E) (Y27 E) q; rw [← Y_27]
theorem Y_29 : Y = Y29 := by funext E q; rw [Y.eq_1]; show _ = bodyY E (toReq (Y E)) (Y E) (Y28 E) q; rw [← Y_28]
theorem Y_30 : Y = Y30 := by funext E q; rw [Y.eq_1]; show _ = bodyY E (toReq (Y E)) (Y E) (Y29 E) q; rw [← Y_29]
theorem Y_31 : Y = Y31 := by funext E q; rw [Y.eq_1]; show _ = bodyY E (toReq (Y E)) (Y E) (Y30 E) q; rw [← Y_30]
theorem Y_32 : Y = Y32 := by funext E q; rw [Y.eq_1]; show _ = bodyY E (toReq (Y E)) (Y E) (Y31 E) q; rw [← Y_31]
theorem Y_33 : Y = Y33 := by funext E q; rw [Y.eq_1]; show _ = bodyY E (toReq (Y E)) (Y E) (Y32 E) q; rw [← Y_32]
theorem Y_34 : Y = Y34 := by funext E q; rw [Y.eq_1]; show _ = bodyY E (toReq (Y E)) (Y E) (Y33 E) q; rw [← Y_33]
theorem Y_35 : Y = Y35 := by funext E q; rw [Y.eq_1]; show _ = bodyY E (toReq (Y E)) (Y E) (Y34 E) q; rw [← Y_34]
theorem Y_36 : Y = Y36 := by funext E q; rw [Y.eq_1]; show _ = bodyY E (toReq (Y E)) (Y E) (Y35 E) q; rw [← Y_35]
theorem Y_37 : Y = Y37 := by funext E q; rw [Y.eq_1]; show _ = bodyY E (toReq (Y E)) (Y E) (Y36 E) q; rw [← Y_36]
theorem Y_38 : Y = Y38 := by funext E q; rw [Y.eq_1]; show _ = bodyY E (toReq (Y E)) (Y E) (Y37 E) q; rw [← Y_37]
theorem Y_39 : Y = Y39 := by funext E q; rw [Y.eq_1]; show _ = bodyY E (toReq (Y E)) (Y E) (Y38 E) q; rw [← Y_38]
theorem Y_40 : Y = Y40 := by funext E q; rw [Y.eq_1]; show _ = bodyY E (toReq (Y E)) (Y E) (Y39 E) q; rw [← Y_39]
theorem Y_go (E : Env) (q : Rq) : Y E q = Y40 E q := by rw [← Y_40]
theorem Y_call {P : Program} {I : World → Prop} (h : EnvOK P I E) {f : FuncId} {args : List AV} {Hin : List Rs} {s : AV} {Hout : List (Option Rs)} (hY : Y E (.call f args Hin) = some (.ret s Hout)) : SemC P I f args Hin s Hout := F_call h (Y_den _ _ hY)
end
end
end Go.Ax

namespace Go.Ax
open Go Go.RowKit Go.Eng Go.ChangeShapes Go.WideShapes
set_option linter.unusedVariables false
set_option linter.unusedSimpArgs false
def offB (P : Program) : Nat → List Field → Bool
  | _, [] => true
  | o, f :: r => Nat.beq f.offset o && offB P (o + P.cellsOf f.type) r
def tysB (P : Program) : Nat → Ty → List TypeId → Bool
  | 0, _, _ => false
  | n + 1, .unit, [] => true
  | n + 1, τ, [t] => match P.underlying t, τ with
    | some .bool, .bool => true
    | some (.int .i64), .i64 => true
    | some (.int .u8), .u8 => true
    | some (.int .u32), .u32 => true
    | some (.int .u64), .u64 => true
    | some .string, .str => true
    | some (.slice e), .sl a => tysB P n a [e]
    | some (.struct fs), τ => offB P 0 fs.toList && Nat.beq (P.cellsOf t) ((fs.toList.map fun f => P.cellsOf f.type).sum) && tysB P n τ (fs.toList.map (·.type))
    | some (.array k e), τ => Nat.beq (P.cellsOf t) (k * P.cellsOf e) && tysB P n τ (List.replicate k e)
    | _, _ => false
  | n + 1, .pair a b, t :: u :: r => tysB P n a [t] && tysB P n b (u :: r)
  | _, _, _ => false
def oneB (P : Program) (n : Nat) (t : TypeId) (τ : Ty) : Bool := match P.underlying t, τ with
    | some .bool, .bool => true
    | some (.int .i64), .i64 => true
    | some (.int .u8), .u8 => true
    | some (.int .u32), .u32 => true
    | some (.int .u64), .u64 => true
    | some .string, .str => true
    | some (.slice e), .sl a => tysB P n a [e]
    | some (.struct fs), τ => offB P 0 fs.toList && Nat.beq (P.cellsOf t) ((fs.toList.map fun f => P.cellsOf f.type).sum) && tysB P n τ (fs.toList.map (·.type))
    | some (.array k e), τ => Nat.beq (P.cellsOf t) (k * P.cellsOf e) && tysB P n τ (List.replicate k e)
    | _, _ => false
theorem tysB_one (P : Program) (n : Nat) (t : TypeId) (τ : Ty) : tysB P (n + 1) τ [t] = oneB P n t τ := by cases τ <;> rfl
def Wf : (t : Ty) → El t → Prop
  | .i64, x => -9223372036854775808 ≤ x ∧ x ≤ 9223372036854775807
  | .pair a b, x => Wf a x.1 ∧ Wf b x.2
  | .sl e, l => List.length l ≤ maxLen ∧ ∀ x ∈ l, Wf e x
  | .str, l => List.length l ≤ maxLen
  | _, _ => True
section
variable {H : Type} {enc : TypeId × Value → H} {P : Program} {w : World}
def Pcs (enc : TypeId × Value → H) (P : Program) (w : World) : List TypeId → List Value → Prop
  | [], cs => cs = []
  | t :: r, cs => P.cellsOf t ≤ cs.length ∧ (∃ n x, DataW.trod enc P w 0 (fun _ => true) true n t (cs.take (P.cellsOf t)) = some x) ∧ Pcs enc P w r (cs.drop (P.cellsOf t))
theorem pcs_fields {cs : List Value} {n : Nat} : ∀ {fs : List Field} {o : Nat}, offB P o fs = true → (∀ (i : Nat) (f : Field), fs[i]? = some f → ∃ x, DataW.trod enc P w 0 (fun _ => true) true n f.type ((cs.drop f.offset).take (P.cellsOf f.type)) = some x) →
    cs.length = o + (fs.map fun f => P.cellsOf f.type).sum → Pcs enc P w (fs.map (·.type)) (cs.drop o)
  | [], o, _, _, hl => by simp only [List.map_nil, Pcs]; exact List.drop_eq_nil_of_le (by simp at hl; omega)
  | f :: r, o, ho, hf, hl => by
    simp only [offB, Bool.and_eq_true] at ho
    have h0 : f.offset = o := by simpa using ho.1
    simp only [List.map_cons, List.sum_cons] at hl
    simp only [List.map_cons, Pcs]
    refine ⟨by rw [List.length_drop]; omega, ?_, ?_⟩
    · obtain ⟨x, hx⟩ := hf 0 f rfl
      rw [h0] at hx
      exact ⟨n, x, hx⟩
    · rw [List.drop_drop]
      exact pcs_fields ho.2 (fun i g hg => hf (i + 1) g (by simpa using hg)) (by omega)
theorem pcs_arr {cs : List Value} {n : Nat} {e : TypeId} : ∀ {k j : Nat}, (∀ i, j ≤ i → i < j + k → ∃ x, DataW.trod enc P w 0 (fun _ => true) true n e ((cs.drop (i * P.cellsOf e)).take (P.cellsOf e)) = some x) →
    cs.length = (j + k) * P.cellsOf e → Pcs enc P w (List.replicate k e) (cs.drop (j * P.cellsOf e))
  | 0, j, _, hl => by simp only [List.replicate_zero, Pcs]; exact List.drop_eq_nil_of_le (by rw [hl]; simp)
  | k + 1, j, h, hl => by
    simp only [List.replicate_succ, Pcs]
    have e1 : (j + (k + 1)) * P.cellsOf e = j * P.cellsOf e + P.cellsOf e + k * P.cellsOf e := by rw [Nat.add_mul, Nat.add_mul]; omega
    refine ⟨by rw [List.length_drop, hl, e1]; omega, ?_, ?_⟩
    · obtain ⟨x, hx⟩ := h j (by omega) (by omega)
      exact ⟨n, x, hx⟩
    · rw [List.drop_drop]
      have := pcs_arr (cs := cs) (n := n) (e := e) (k := k) (j := j + 1) (fun i hi hk => h i (by omega) (by omega)) (by rw [hl]; congr 1; omega)
      rwa [Nat.add_mul, Nat.one_mul] at this
theorem Pcs.len : ∀ {ts : List TypeId} {cs : List Value}, Pcs enc P w ts cs → cs.length = (ts.map fun t => P.cellsOf t).sum
  | [], cs, h => by simp only [Pcs] at h; subst h; rfl
  | t :: r, cs, h => by
    have := Pcs.len h.2.2
    rw [List.length_drop] at this
    simp only [List.map_cons, List.sum_cons]
    have h1 := h.1
    omega
theorem choose_list {α : Type} {p : Nat → α → Prop} : ∀ (n : Nat), (∀ i, i < n → ∃ a, p i a) → ∃ l : List α, l.length = n ∧ ∀ (i : Nat) (a : α), l[i]? = some a → p i a
  | 0, _ => ⟨[], rfl, fun i a h => by simp at h⟩
  | n + 1, h => by
    obtain ⟨l, h1, h2⟩ := choose_list n fun i hi => h i (by omega)
    obtain ⟨a, ha⟩ := h n (by omega)
    refine ⟨l ++ [a], by simp [h1], fun i b hb => ?_⟩
    rcases Nat.lt_or_ge i n with hi | hi
    · exact h2 i b (by rwa [List.getElem?_append_left (by omega)] at hb)
    · have : i = n := by
        have := (List.getElem?_eq_some_iff.1 hb).1
        simp at this; omega
      subst this
      rw [List.getElem?_append_right (by omega), h1] at hb
      simp at hb; subst hb; exact ha
theorem all2_of {α β : Type} {R : α → β → Prop} : ∀ {l : List α} {m : List β}, l.length = m.length → (∀ (i : Nat) (a : α) (b : β), l[i]? = some a → m[i]? = some b → R a b) → All2 R l m
  | [], [], _, _ => trivial
  | a :: l, b :: m, h, hR => ⟨hR 0 a b rfl rfl, all2_of (by simpa using h) fun i x y hx hy => hR (i + 1) x y (by simpa using hx) (by simpa using hy)⟩
  | [], _ :: _, h, _ => by simp at h
  | _ :: _, [], h, _ => by simp at h
theorem flat_get {n : Nat} {d : List Value} : ∀ {l : List (List Value)} (hl : ∀ x ∈ l, x.length = n) {j : Nat} {u : Value}, l.flatten[j]? = some u → ∃ i k c, l[i]? = some c ∧ c[k]? = some u ∧ j = i * n + k ∧ k < n
  | [], _, j, u, h => by simp at h
  | x :: l, hl, j, u, h => by
    have hx := hl x (by simp)
    rw [List.flatten_cons] at h
    rcases Nat.lt_or_ge j x.length with hj | hj
    · rw [List.getElem?_append_left hj] at h
      exact ⟨0, j, x, rfl, h, by omega, by omega⟩
    · rw [List.getElem?_append_right hj] at h
      obtain ⟨i, k, c, h1, h2, h3, h4⟩ := flat_get (d := d) (fun y hy => hl y (by simp [hy])) h
      exact ⟨i + 1, k, c, by simpa using h1, h2, by rw [Nat.add_mul]; omega, h4⟩
theorem flat_length {n : Nat} : ∀ {l : List (List Value)} (hl : ∀ x ∈ l, x.length = n), l.flatten.length = l.length * n
  | [], _ => by simp
  | x :: l, hl => by
    rw [List.flatten_cons, List.length_append, flat_length (fun y hy => hl y (by simp [hy])), hl x (by simp), List.length_cons, Nat.add_mul]; omega
theorem opens : ∀ (n : Nat) {τ : Ty} {ts : List TypeId} {cs : List Value}, tysB P n τ ts = true → Pcs enc P w ts cs → ∃ x : El τ, CR τ x cs w ∧ Wf τ x := by
  intro n
  induction n with
  | zero => intro τ ts cs h; cases h
  | succ n ih =>
    intro τ ts cs h hp
    match ts, h, hp with
    | [], h, hp =>
      cases τ with
      | unit => exact ⟨(), by simpa only [CR, Pcs] using hp, trivial⟩
      | _ => simp [tysB] at h
    | t :: u :: r, h, hp =>
      cases τ with
      | pair a b =>
        simp only [tysB, Bool.and_eq_true] at h
        obtain ⟨h1, h2, h3⟩ := hp
        obtain ⟨m, x, hx⟩ := h2
        have hp1 : Pcs enc P w [t] (cs.take (P.cellsOf t)) := by
          have hl : (cs.take (P.cellsOf t)).length = P.cellsOf t := by simp; omega
          refine ⟨by omega, ⟨m, x, by rw [List.take_of_length_le (by omega)]; exact hx⟩, ?_⟩
          simp only [Pcs]; exact List.drop_eq_nil_of_le (by omega)
        obtain ⟨y, hy, hy'⟩ := ih h.1 hp1
        obtain ⟨z, hz, hz'⟩ := ih h.2 h3
        refine ⟨(y, z), ?_, hy', hz'⟩
        simp only [CR]
        exact ⟨_, _, (List.take_append_drop _ _).symm, hy, hz⟩
      | _ => simp [tysB] at h
    | [t], h, hp =>
      obtain ⟨h1, ⟨m, x, hx⟩, h3⟩ := hp
      simp only [Pcs] at h3
      have hcs : cs.length = P.cellsOf t := by
        have := congrArg List.length h3
        simp at this; omega
      rw [List.take_of_length_le (by omega)] at hx
      rw [tysB_one] at h
      unfold oneB at h
      split at h
      · rename_i hu _; obtain ⟨b, rfl, _⟩ := DataW.trod_bool hu hx; exact ⟨b, by simp only [CR], trivial⟩
      · rename_i hu _; obtain ⟨b, rfl, _, hw⟩ := DataW.trod_int hu hx; exact ⟨b, by simp only [CR], bounds_i64 hw⟩
      · rename_i hu _
        obtain ⟨b, rfl, _, hw⟩ := DataW.trod_int hu hx
        have := bounds_u8 hw
        refine ⟨UInt8.ofNat b.toNat, ?_, trivial⟩
        simp only [CR, byteV, UInt8.toNat_ofNat', List.cons.injEq, Value.int.injEq, true_and, and_true]
        omega
      · rename_i hu _
        obtain ⟨b, rfl, _, hw⟩ := DataW.trod_int hu hx
        have hb := bounds_u32 hw
        refine ⟨UInt32.ofNat b.toNat, ?_, trivial⟩
        simp only [CR, wordV, UInt32.toNat_ofNat', List.cons.injEq, Value.int.injEq, true_and, and_true]
        omega
      · rename_i hu _
        obtain ⟨b, rfl, _, hw⟩ := DataW.trod_int hu hx
        have hb := bounds_u64 hw
        refine ⟨UInt64.ofNat b.toNat, ?_, trivial⟩
        simp only [CR, longV, UInt64.toNat_ofNat', List.cons.injEq, Value.int.injEq, true_and, and_true]
        omega
      · rename_i hu _
        obtain ⟨b, rfl, _, hw⟩ := DataW.trod_string hu hx
        exact ⟨b.data.toList, by simp only [CR], hw⟩
      · rename_i e a hu _
        rcases DataW.trod_slice hu hx with ⟨rfl, _⟩ | ⟨ad, len, cap, elems, rest, n', _, rfl, _, _, hl, hmx, hlen, hel, _⟩
        · exact ⟨[], by simp only [CR]; exact ⟨_, [], rfl, trivial, Sl.nil _ _⟩, by show List.length _ ≤ maxLen ∧ _; exact ⟨by simp, fun x hx => by cases hx⟩⟩
        · have each : ∀ i, i < len → ∃ q : El a × List Value, (CR a q.1 q.2 w ∧ Wf a q.1) ∧ q.2.length = P.cellsOf e ∧ ∀ k, k < P.cellsOf e → w.cell? (ad.add (i * P.cellsOf e + k)) = q.2[k]? := by
            intro i hi
            have h1 := hel i hi
            rw [List.getElem?_eq_getElem (by omega), Option.bind_eq_some_iff] at h1
            obtain ⟨ci, h2, h3⟩ := h1
            obtain ⟨_, h4, h5⟩ := World.cells?_some h2
            have hp1 : Pcs enc P w [e] ci := by
              refine ⟨by omega, ⟨n', _, by rw [List.take_of_length_le (by omega)]; exact h3⟩, ?_⟩
              simp only [Pcs]; exact List.drop_eq_nil_of_le (by omega)
            obtain ⟨y, hy, hy'⟩ := ih h hp1
            exact ⟨(y, ci), ⟨hy, hy'⟩, h4, fun k hk => by have := h5 k hk; rw [add_add] at this; exact this⟩
          obtain ⟨l, hll, hl2⟩ := choose_list len each
          have hsz : ∀ x ∈ l.map (·.2), x.length = a.n := by
            intro x hx
            obtain ⟨q, hq, rfl⟩ := List.mem_map.1 hx
            obtain ⟨i, hi⟩ := List.getElem?_of_mem hq
            exact (hl2 i q hi).1.1.len
          refine ⟨l.map (·.1), ?_, by
            show List.length _ ≤ maxLen ∧ _
            refine ⟨by rw [List.length_map, hll]; omega, fun x hx => ?_⟩
            obtain ⟨q, hq, rfl⟩ := List.mem_map.1 hx
            obtain ⟨i, hi⟩ := List.getElem?_of_mem hq
            exact (hl2 i q hi).1.2⟩
          simp only [CR]
          refine ⟨_, l.map (·.2), rfl, all2_of (by simp) fun i x c hx hc => ?_, ?_⟩
          · rw [List.getElem?_map, Option.map_eq_some_iff] at hx hc
            obtain ⟨q, hq, rfl⟩ := hx
            obtain ⟨q', hq', rfl⟩ := hc
            rw [hq] at hq'; obtain rfl := Option.some.inj hq'
            exact (hl2 i q hq).1.1
          · refine ⟨some ad, cap, by simp [hll], by rw [flat_length hsz]; simp, by simp [hll]; exact hl, hmx, (fun h => by cases h), fun q hq j u hu => ?_⟩
            obtain rfl := Option.some.inj hq
            obtain ⟨i, k, c, h1, h2, h3, h4⟩ := flat_get (d := []) hsz hu
            rw [List.getElem?_map, Option.map_eq_some_iff] at h1
            obtain ⟨q, hq, rfl⟩ := h1
            obtain ⟨g1, g2, g3⟩ := hl2 i q hq
            have hn : a.n = P.cellsOf e := by rw [← g1.1.len, g2]
            rw [h3, hn, g3 k (by omega)]; exact h2
      · rename_i fs hu _
        simp only [Bool.and_eq_true] at h
        obtain ⟨xs, n', _, _, hl, hxl, hf⟩ := DataW.trod_struct hu hx
        refine ih h.2 ?_
        have := pcs_fields (enc := enc) (w := w) (cs := cs) (n := n') h.1.1 (fun i f hif => ?_) (by rw [hl]; have := h.1.2; simp only [Nat.zero_add]; simpa using this)
        · simpa using this
        · have hif' : fs[i]? = some f := by simpa using hif
          have hlt : i < xs.length := by rw [hxl]; exact (Array.getElem?_eq_some_iff.1 hif').1
          exact ⟨xs[i], by rw [hf i f hif', List.getElem?_eq_getElem hlt]⟩
      · rename_i k e hu _
        simp only [Bool.and_eq_true] at h
        obtain ⟨xs, n', _, _, hl, hxl, hf⟩ := DataW.trod_array hu hx
        refine ih h.2 ?_
        have := pcs_arr (enc := enc) (P := P) (w := w) (cs := cs) (n := n') (e := e) (k := k) (j := 0) (fun i _ hi => ⟨xs[i]'(by omega), by rw [hf i (by omega), List.getElem?_eq_getElem (by omega)]⟩) (by rw [hl]; have := h.1; simp only [Nat.zero_add]; simpa using this)
        simpa using this
      · cases h
theorem open_cells {t : TypeId} {v : Value} {d : DataW H} {ps : List MemPlace} {τ : Ty} (n : Nat) (ht : tysB P n τ [t] = true) (h : DataW.Trod enc P w 0 (fun _ => true) true t v d ps) (hl : v.cells.toList.length = P.cellsOf t) : ∃ x : El τ, CR τ x v.cells.toList w ∧ Wf τ x := by
  obtain ⟨m, hm⟩ := h
  refine opens n ht ⟨by omega, ⟨m, _, by rw [List.take_of_length_le (by omega)]; exact hm⟩, ?_⟩
  simp only [Pcs]; exact List.drop_eq_nil_of_le (by omega)
end
theorem CR.ext : ∀ {t : Ty} {x : El t} {us : List Value} {w w' : World}, Ext w w' → CR t x us w → CR t x us w'
  | .bool, x, us, w, w', he, h => by simpa only [CR] using h
  | .i64, x, us, w, w', he, h => by simpa only [CR] using h
  | .u8, x, us, w, w', he, h => by simpa only [CR] using h
  | .u32, x, us, w, w', he, h => by simpa only [CR] using h
  | .u64, x, us, w, w', he, h => by simpa only [CR] using h
  | .str, x, us, w, w', he, h => by simpa only [CR] using h
  | .unit, x, us, w, w', he, h => by simpa only [CR] using h
  | .pair a b, x, us, w, w', he, h => by
    simp only [CR] at h ⊢
    obtain ⟨u1, u2, h0, h1, h2⟩ := h
    exact ⟨u1, u2, h0, h1.ext he, h2.ext he⟩
  | .sl e, l, us, w, w', he, h => by
    simp only [CR] at h ⊢
    obtain ⟨v, cs, h0, h1, h2⟩ := h
    exact ⟨v, cs, h0, All2.mono (fun x c hx => hx.ext he) h1, h2.ext he⟩
end Go.Ax
