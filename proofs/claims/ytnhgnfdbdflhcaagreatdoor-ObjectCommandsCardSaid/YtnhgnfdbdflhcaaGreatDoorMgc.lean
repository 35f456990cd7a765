/-
  Own texts, laid together for this claim: the rules that every walk uses, which claim nothing of any program.
-/
import Derived.Laws.BitsLemmas
import Derived.Test.YtnhgnfdbdflhcaaGreatDoorMgb
set_option linter.all false
namespace Go.Ax
open Go Go.RowKit Go.Eng
set_option linter.unusedVariables false
set_option linter.unusedSimpArgs false
variable {t:TypeId}{a x b:Option AV}
section
variable {R:Type}{r:R}{T:TT}{hk:Nat->Option Rs}{m:Nat}
def Le{α:Type}(K K':α->Option R)(r:R):Prop:=∀ x,K x=some r->K' x=some r
theorem IQ{K K':AV->Option R}(hK:Le K K' r):evK a K=some r->evK a K'=some r:=by
 unfold evK;intro h;split at h
 ·exact hK _ h
 ·cases h
theorem bind_mono{α:Type}{a:Option α}{K K':α->Option R}(hK:Le K K' r):a.bind K=some r->a.bind K'=some r:=by
 intro h
 obtain⟨x,h1,h2⟩:=Option.bind_eq_some_iff.1 h
 rw[h1];exact hK _ h2
theorem BD{c:Bool}{a a' b b':Option R}(h1:a=some r->a'=some r)(h2:b=some r->b'=some r):(bif c then a else b)=some r->(bif c then a' else b')=some r:=by
 grind
theorem Um{y:AV}{K K':Nat->Option R}(hK:Le K K' r):Oq y K=some r->Oq y K'=some r:=by
 unfold Oq
 split
 ·exact BD id (hK _)
 all_goals first|exact hK _|exact id
theorem lH{op:BinOp}{a b:UInt8}{K K':AV->Option R}(hK:Le K K' r):WB op a b K=some r->WB op a b K'=some r:=by
 unfold WB;split
 ·exact BD id (hK _)
 ·exact id
theorem rY{bt e2:Bool}{en:Nat}{bs:Bool}{op:BinOp}{x y:AV}{K K':AV->Option R}(hK:Le K K' r):bT bt e2 en bs op x y K=some r->bT bt e2 en bs op x y K'=some r:=by
 unfold bT
 split
 ·refine Um fun c=>?_
  split<;>first|exact hK _|exact id
 ·refine Um fun c=>?_
  split<;>first|exact hK _|exact id
 ·repeat' split
  all_goals first|exact hK _|exact id|exact BD id (hK _)|exact BD (hK _) id|exact BD (hK _) (BD (hK _) id)|exact BD (hK _) (BD (hK _) (lH hK))|exact BD (BD id (hK _)) id|skip
  all_goals refine BD ?_ id;split<;>first|exact hK _|exact id
theorem lI{d:Und}{x:AV}{K K':AV->Option R}(hK:Le K K' r):Q7 d x K=some r->Q7 d x K'=some r:=by
 unfold Q7;split<;>first|exact hK _|exact id
theorem lJ{K K':Tr->Option R}(hK:Le K K' r):WC T hk t x K=some r->WC T hk t x K'=some r:=by
 unfold WC
 repeat' split
 all_goals first|exact hK _|exact id|skip
 all_goals refine BD (bind_mono fun x=>?_) id
 all_goals split<;>first|exact hK _|exact id
theorem iJ{y:Option (List AV)}{K K':Tr->Option R}(hK:Le K K' r):RD T hk t x y K=some r->RD T hk t x y K'=some r:=by
 unfold RD
 repeat' split
 all_goals first|exact hK _|exact id|skip
 all_goals repeat'(first|exact hK _|exact id|exact IQ (fun x=>hK _)|exact bind_mono (fun x=>hK _)|refine BD ?_ ?_|refine bind_mono fun x=>?_|split)
theorem lK{f:Nat}{K K':Tr->Option R}(hK:Le K K' r):WE T t x f K=some r->WE T t x f K'=some r:=by
 unfold WE
 repeat' split
 all_goals first|exact hK _|exact id|skip
 all_goals repeat'(first|exact hK _|exact id|exact IQ (fun x=>hK _)|exact bind_mono (fun x=>hK _)|refine BD ?_ ?_|refine bind_mono fun x=>?_|split)
theorem lL{ev:Operand->Option AV}{n:Nat}{ps:List (Nat×Operand)}{K K':Tr->Option R}(hK:Le K K' r):WF T ev hk m t n ps K=some r->WF T ev hk m t n ps K'=some r:=by
 unfold WF
 repeat' split
 all_goals first|exact hK _|exact id|skip
 all_goals repeat'(first|exact hK _|exact id|exact IQ (fun x=>hK _)|exact bind_mono (fun x=>hK _)|refine BD ?_ ?_|refine bind_mono fun x=>?_|split)
theorem A06{l c:Option AV}{K K':Tr->Option R}(hK:Le K K' r):zW T m t l c K=some r->zW T m t l c K'=some r:=by
 unfold zW
 simp only[UX]
 repeat' split
 all_goals first|exact hK _|exact id|skip
 all_goals repeat'(first|exact hK _|exact id|exact IQ (fun x=>hK _)|exact bind_mono (fun x=>hK _)|refine BD ?_ ?_|refine bind_mono fun x=>?_|split)
theorem rZ{j:Option Int}{K K':Tr->Option R}(hK:Le K K' r):bU T hk t x j K=some r->bU T hk t x j K'=some r:=by
 unfold bU A6X
 repeat' split
 all_goals first|exact hK _|exact id|skip
 all_goals repeat'(first|exact hK _|exact id|exact IQ (fun x=>hK _)|exact bind_mono (fun x=>hK _)|refine BD ?_ ?_|refine bind_mono fun x=>?_|split)
theorem A07{j:Option Int}{K K':Tr->Option R}(hK:Le K K' r):zX T t x j K=some r->zX T t x j K'=some r:=by
 unfold zX
 repeat' split
 all_goals first|exact hK _|exact id|skip
 all_goals repeat'(first|exact hK _|exact id|exact IQ (fun x=>hK _)|exact bind_mono (fun x=>hK _)|refine BD ?_ ?_|refine bind_mono fun x=>?_|split)
theorem ry{x:AV}{F:Fp}{lo:Int}{hi mx:Option (Option Int)}{K K':Tr->Option R}(hK:Le K K' r):bV T t x F lo hi mx K=some r->bV T t x F lo hi mx K'=some r:=by
 unfold bV
 repeat' split
 all_goals first|exact hK _|exact id|skip
 all_goals repeat'(first|exact hK _|exact id|exact IQ (fun x=>hK _)|exact bind_mono (fun x=>hK _)|refine BD ?_ ?_|refine bind_mono fun x=>?_|split)
theorem sD{K K':Tr->Option R}(hK:Le K K' r):bW T t hk x K=some r->bW T t hk x K'=some r:=by
 unfold bW
 repeat' split
 all_goals first|exact hK _|exact id|skip
 all_goals repeat'(first|exact hK _|exact id|exact IQ (fun x=>hK _)|exact bind_mono (fun x=>hK _)|refine BD ?_ ?_|refine bind_mono fun x=>?_|split)
theorem sF{b:Option (AV×Fp)}{K K':Tr->Option R}(hK:Le K K' r):bY T hk m t a b K=some r->bY T hk m t a b K'=some r:=by
 unfold bY
 simp only[UX]
 repeat' split
 all_goals first|exact hK _|exact id|skip
 all_goals repeat'(first|exact hK _|exact id|exact IQ (fun x=>hK _)|exact bind_mono (fun x=>hK _)|refine BD ?_ ?_|refine bind_mono fun x=>?_|split)
theorem lM{K K':Tr->Option R}(hK:Le K K' r):WI T hk m t a b K=some r->WI T hk m t a b K'=some r:=by
 unfold WI
 simp only[EN]
 repeat' split
 all_goals first|exact hK _|exact id|skip
 all_goals repeat'(first|exact hK _|exact id|refine BD ?_ ?_|split)
theorem lN{K K':Tr->Option R}(hK:Le K K' r):WG T hk t x K=some r->WG T hk t x K'=some r:=by
 unfold WG
 repeat' split
 all_goals first|exact hK _|exact id|skip
 all_goals repeat'(first|exact hK _|exact id|refine BD ?_ ?_|split)
theorem lQ{lo:Int}{hi:Option (Option Int)}{K K':Tr->Option R}(hK:Le K K' r):WH T hk t x lo hi K=some r->WH T hk t x lo hi K'=some r:=by
 unfold WH
 repeat' split
 all_goals first|exact hK _|exact id|skip
 all_goals repeat'(first|exact hK _|exact id|refine BD ?_ ?_|split)
theorem lS{t':TypeId}{K K':Tr->Option R}(hK:Le K K' r):WJ T hk m t t' a b K=some r->WJ T hk m t t' a b K'=some r:=by
 unfold WJ
 repeat' split
 all_goals first|exact hK _|exact id|skip
 all_goals repeat'(first|exact hK _|exact id|refine BD ?_ ?_|split)
theorem lT{t':TypeId}{K K':Tr->Option R}(hK:Le K K' r):WL T hk m t t' a b K=some r->WL T hk m t t' a b K'=some r:=by
 unfold WL
 repeat' split
 all_goals first|exact hK _|exact id|skip
 all_goals repeat'(first|exact hK _|exact id|refine BD ?_ ?_|split)
theorem sG{b:Option (AV×Fp)}{K K':Tr->Option R}(hK:Le K K' r):bZ T hk t a b K=some r->bZ T hk t a b K'=some r:=by
 unfold bZ
 repeat' split
 all_goals first|exact hK _|exact id|skip
 all_goals repeat'(first|exact hK _|exact id|exact IQ (fun x=>hK _)|exact bind_mono (fun x=>hK _)|refine BD ?_ ?_|refine bind_mono fun x=>?_|split)
theorem A08{ev:Operand->Option AV}{op:Op}{K K':Tr->Option R}(hK:Le K K' r):zY T ev hk m op K=some r->zY T ev hk m op K'=some r:=by
 unfold zY
 split
 all_goals first|exact lJ hK|exact iJ hK|exact lK hK|exact lL hK|exact A06 hK|exact rZ hK|exact A07 hK|exact IQ (fun x=>hK _)|skip
 all_goals repeat'(first|exact hK _|exact id|exact IQ (fun x=>hK _)|exact sD hK|exact lN hK|exact sF hK|exact lM hK|exact lS hK|exact lT hK|exact lQ hK|exact sG hK|exact ry hK|exact rY (fun x=>hK _)|exact lI (fun x=>hK _)|refine BD ?_ ?_|split)
end
end Go.Ax
namespace Go.Ax
noncomputable section
open Go Go.RowKit Go.Eng
set_option linter.unusedVariables false
set_option linter.unusedSimpArgs false
abbrev Orc:=Req->Option Rsp
def cu(Q Q':Orc):Prop:=∀ q r,Q q=some r->Q' q=some r
section
variable {R:Type}{r:R}{T:TT}{G:FT}{hk:Nat->Option Rs}{m:Nat}{Q Q':Orc}
theorem Un(hQ:cu Q Q'){ro:Bool}{f:Nat}{vs:Fp}{al:List AV}{ks:List Nat}{K K':Tr->Option R}(hK:Le K K' r):UY ro Q hk m f vs al ks K=some r->UY ro Q' hk m f vs al ks K'=some r:=by
 unfold UY
 split
 ·refine BD ?_ id
  simp only[Hu,Tt]
  intro h
  obtain⟨x,h1,h2⟩:=Option.bind_eq_some_iff.1 h
  rw[hQ _ _ h1]
  simp only[Option.bind_some]
  revert h2
  split
  ·exact BD (BD (BD (hK _) id) (BD (hK _) (hK _))) id
  ·exact id
 ·exact id
theorem lU(hQ:cu Q Q'){fx:Option AV}{args:Option (List AV)}{K K':Tr->Option R}(hK:Le K K' r):WN G Q hk m fx args K=some r->WN G Q' hk m fx args K'=some r:=by
 unfold WN
 split
 ·split
  ·simp only[Hu,UZ,Eo]
   exact BD (Un hQ hK) (Un hQ hK)
  ·exact id
 ·exact id
theorem Ec(hQ:cu Q Q'){ev:Operand->Option AV}{op:Op}{K K':Tr->Option R}(hK:Le K K' r):Ii T G Q ev hk m op K=some r->Ii T G Q' ev hk m op K'=some r:=by
 unfold Ii
 grind[lU,A08]
theorem Ed{d:Option Nat}{t:Tr}{L:LX}{H:HX}{K K':Nat->LX->HX->Option R}(hK:∀ m L H,K m L H=some r->K' m L H=some r):Ir d t m L H K=some r->Ir d t m L H K'=some r:=by
 simp_all[Uj]
theorem sH(hQ:cu Q Q'){n:Nat}{ops:List Oper}{r:Rsp}:∀(l:List Oper) {m:Nat} {L:LX} {H:HX} {K K':Nat->LX->HX->Option Rsp},(∀ m L H,K m L H=some r->K' m L H=some r)->JD T G Q n ops l m L H K=some r->JD T G Q' n ops l m L H K'=some r:=by
 intro l
 induction l with
 | nil=>intro m L H K K' hK;exact hK _ _ _
 | cons o l ih =>
  intro m L H K K' hK
  rw[JD,JD]
  split
  ·exact BD (Ec hQ fun t=>Ed fun m L H=>ih hK) id
  ·split
   ·split
    ·refine BD (BD (BD (Ec hQ fun t=>Ed fun m L H=>ih hK) (ih hK)) (BD (ih hK) (Ec hQ fun t=>Ed fun m L H=>ih hK))) id
    ·exact BD (ih hK) id
    ·exact id
   ·exact id
theorem sJ(hQ:cu Q Q'){ops:List Oper}:∀(l:List Oper) {tr:List Tr} {m:Nat} {L:LX} {H:HX} {K K':List Tr->Nat->LX->HX->Option R},(∀ tr m L H,K tr m L H=some r->K' tr m L H=some r)->Ij T G Q ops l tr m L H K=some r->Ij T G Q' ops l tr m L H K'=some r:=by
 intro l
 induction l with
 | nil=>intro tr m L H K K' hK;exact hK _ _ _ _
 | cons o l ih =>
  intro tr m L H K K' hK
  rw[Ij,Ij]
  simp only[Eo,Ey]
  split
  ·exact Ec hQ fun t=>Ed fun m L H=>ih hK
  ·split
   ·split
    ·refine BD (BD (Ec hQ fun t=>Ed fun m L H=>ih hK) (ih hK)) (BD (ih hK) (Ec hQ fun t=>Ed fun m L H=>ih hK))
    ·exact ih hK
    ·exact id
   ·exact id
theorem sK{keep:List Nat}{n0:Nat}{L:LX}{H:HX}{K K':Nat->LX->HX->Option R}(hK:∀ m L H,K m L H=some r->K' m L H=some r):canon keep n0 L H K=some r->canon keep n0 L H K'=some r:=by
 unfold canon
 simp only[Ey,Eo,IV,EN]
 grind
theorem H5{E:Plc}{n0 m:Nat}{L:LX}{H:HX}{K K':Nat->LX->HX->Option R}(hK:∀ m L H,K m L H=some r->K' m L H=some r):O3 E n0 m L H K=some r->O3 E n0 m L H K'=some r:=by
 unfold O3
 refine rV (Z:=fun a b=>a=some r->b=some r) E.nils fun m L H=>A4j (Z:=fun a b=>a=some r->b=some r) fun L H=>?_
 grind[sK]
theorem OH(hQ:cu Q Q'){n f n0:Nat}{keep:List (Plc×Plc)}{r:Rsp}:∀(c:Code) {k m:Nat} {L:LX} {H:HX} {K K':Exit->Nat->LX->HX->Option Rsp},(∀ e m L H,K e m L H=some r->K' e m L H=some r)->PY T G Q n f n0 keep c k m L H K=some r->PY T G Q' n f n0 keep c k m L H K'=some r:=by
 intro c
 induction c with
 | skip|label l|exit id|ret=>intro k m L H K K' hK;exact hK _ _ _ _
 | seq a b iha ihb =>
  grind[PY]
 | cond x a b iha ihb =>
  intro k m L H K K' hK
  rw[PY,PY]
  grind
 | block id c ih =>
  intro k m L H K K' hK
  rw[PY,PY]
  grind
 | region id ops b =>
  intro k m L H K K' hK
  cases b with
  | false=>grind[PY,H5,sH]
  | true=>rw[PY,PY];exact H5 fun m L H=>sJ hQ _ fun tr m L H=>BD (hK _ _ _ _) _root_.id
 | loop c ih =>
  intro k m L H K K' hK
  rw[PY,PY,EN,EN,Nat.zero_add]
  split
  ·refine H5 fun m L H h=>?_
   obtain⟨x,h1,h2⟩:=Option.bind_eq_some_iff.1 h
   rw[hQ _ _ h1]
   grind
  ·exact id
 | _=>simp_all[PY]
end
abbrev CT:=List (Nat×Func)
def cfk(k:Nat):CT->Option Func
 | []=>none
 | (d,v)::H=>bif Nat.beq k d then some v else cfk k H
structure Env where
 T:TT
 G:FT
 C:CT
 ov:Orc
def QG(E:Env)(Q:Orc)(q:Req):Option Rsp:=match E.ov q with
 | some r=>some r
 | none=>match q with
  | .call f args H=>(match cfk f E.C,Xq f E.G with
   | some fn,some fi=>(match fn.body with
    | some c=>bif Nat.ble args.length fn.ntmps then addN 0 H.length fun n0=>PY E.T E.G Q fn.ntmps f n0 fi.keep c 0 n0 (argX 0 args) (hOf 0 H) fun e m L H'=>(match e with
      | .normal|.ret=>A6e E.T fi n0 fn.results.toList m L H'
      | _=>none)
     else none
    | none=>none)
   | _,_=>none)
  | .loop f k n0 m L H=>(match cfk f E.C,Xq f E.G with
   | some fn,some fi=>(match fn.body,fi.keep[k]? with
    | some c,some kp=>(match Fb c k with
     | some b=>PY E.T E.G Q fn.ntmps f n0 fi.keep b (k+1) m L H fun e m L H=>(match e with
      | .normal=>O3 kp.1 n0 m L H fun m L H=>Q (.loop f k n0 m L H)
      | e=>O3 kp.2 n0 m L H fun m L H=>some (.fin e m L H))
     | none=>none)
    | _,_=>none)
   | _,_=>none)
theorem sN(E:Env){Q Q':Orc}(hQ:cu Q Q'):cu (QG E Q) (QG E Q'):=by
 intro q r
 unfold QG
 split
 ·exact id
 ·split
  ·split
   ·split
    ·simp only[EN]
     refine BD (OH hQ _ fun e m L H=>?_) id
     exact id
    ·exact id
   ·exact id
  ·split
   ·split
    ·split
     ·refine OH hQ _ fun e m L H=>?_
      cases e<;>first|exact H5 fun m L H=>hQ _ _|exact id
     ·exact id
    ·exact id
   ·exact id
def F(E:Env)(q:Req):Option Rsp:=QG E (F E) q
partial_fixpoint monotonicity by
 intro F1 F2 h q
 have hQ:cu F1 F2:=fun q r hq=>by
  have hr:=h q
  generalize F2 q=z at hr ⊢
  generalize F1 q=y at hr hq
  subst hq
  cases hr
  rfl
 have hm:=sN E hQ q
 dsimp only
 generalize QG E F2 q=z at hm ⊢
 generalize QG E F1 q=y at hm ⊢
 cases y with
 | none=>exact .bot
 | some r=>grind
def A6f(P:Program)(I:World->Prop)(E:Env)(q:Req)(r:Rsp):Prop:=match q,r with
 | .call f args Hin,.ret s H=>gZ P I f args Hin s H
 | .loop f k n0 m L H,.fin e m' L' H'=>∀ fn c b,cfk f E.C=some fn->fn.body=some c->Fb c k=some b->A7h P I fn.ntmps b n0 m L H e m' L' H'
 | _,_=>True
structure EnvOK (P:Program) (I:World->Prop) (E:Env):Prop where
 hT:TTok P I E.T
 hG:gq P E.G
 hC:∀ f fn,cfk f E.C=some fn->P.funcs[f]?=some fn
 hx:P.follows .mixedOrders=true
 ov:∀ q r,E.ov q=some r->A6f P I E q r
theorem dA:∀(c:Code) {k:Nat} {b:Code},Fb c k=some b->k<Dx c:=by
 intro c
 induction c with
 | seq x y ihx ihy =>
  grind[Fb,Dx]
 | cond t x y ihx ihy =>
  grind[Fb,Dx]
 | block id x ih=>intro k b h;exact ih h
 | loop x ih =>
  grind[Fb,Dx,Hl]
 | _=>intro k b h;cases h
theorem A09:∀(c:Code) {k:Nat} {b:Code},Fb c k=some b->∀ j c',Fb b j=some c'->Fb c (k+1+j)=some c':=by
 intro c
 induction c with
 | seq x y ihx ihy =>
  intro k b h j c' hj
  simp only[Fb] at h ⊢
  cases hb:Nat.blt k (Dx x) with
  | true =>
   rw[hb] at h
   have h1:=ihx h j c' hj
   have:Nat.blt (k+1+j) (Dx x)=true:=by simpa using dA x h1
   grind
  | false =>
   rw[hb] at h
   have hk:Dx x<=k:=by
    rcases Nat.lt_or_ge k (Dx x) with h1|h1
    ·have:Nat.blt k (Dx x)=true:=by simpa using h1
     simp_all
    ·exact h1
   have:Nat.blt (k+1+j) (Dx x)=false:=zbD
   rw[this]
   have h1:=ihy h j c' hj
   rw[show k+1+j-Dx x=k-Dx x+1+j from by omega];exact h1
 | cond t x y ihx ihy =>
  intro k b h j c' hj
  simp only[Fb] at h ⊢
  cases hb:Nat.blt k (Dx x) with
  | true =>
   rw[hb] at h
   have h1:=ihx h j c' hj
   have:Nat.blt (k+1+j) (Dx x)=true:=by simpa using dA x h1
   grind
  | false =>
   rw[hb] at h
   have hk:Dx x<=k:=by
    rcases Nat.lt_or_ge k (Dx x) with h1|h1
    ·have:Nat.blt k (Dx x)=true:=by simpa using h1
     simp_all
    ·exact h1
   have:Nat.blt (k+1+j) (Dx x)=false:=zbD
   rw[this]
   have h1:=ihy h j c' hj
   rw[show k+1+j-Dx x=k-Dx x+1+j from by omega];exact h1
 | block id x ih=>intro k b h j c' hj;exact ih h j c' hj
 | loop x ih =>
  intro k b h j c' hj
  simp only[Fb] at h ⊢
  have h0:Nat.beq (k+1+j) 0=false:=by simp_all[Bool.eq_false_iff]
  rw[h0]
  cases hb:Nat.beq k 0 with
  | true =>
   simp_all
  | false =>
   rw[hb] at h
   have hk:k≠0:=fun e=>zaD
   have:=ih h j c' hj
   rw[show k+1+j-1=k-1+1+j from by omega];exact this
 | _=>intro k b h;cases h
section
variable {P:Program}{I:World->Prop}{E:Env}
theorem A8V(h:EnvOK P I E):∀ q r,F E q=some r->A6f P I E q r:=by
 refine F.partial_correctness E _ fun Q hQ q r hr=>?_
 have hq:QOK P I Q:=fun f args Hin s H h=>hQ _ _ h
 cases ho:E.ov q with
 | some r' =>
  simp only[QG,ho] at hr
  obtain rfl:=Option.some.inj hr
  exact h.ov _ _ ho
 | none =>
  cases q with
  | call f args H =>
   simp only[QG,ho] at hr
   split at hr
   ·rename_i fn fi hc hfi
    split at hr
    ·rename_i c hb
     cases hlen:Nat.ble args.length fn.ntmps with
     | false=>simp_all
     | true =>
      rw[hlen] at hr
      simp only[cond_true,EN,Nat.zero_add] at hr
      have hS:∀ s Hout,r=.ret s Hout->gZ P I f args H s Hout:=by
       rintro s Hout rfl
       refine A4n (fi:=fi) h.hT (h.hC _ _ hc) hb hlen fun g hg=>?_
       refine A2H (tab:=fun j=>Fb c j) h.hT h.hG hq h.hx hg (fun k b m L H' e m' L' H'' hk hl=>?_) c 0 _ _ _ _ _ (fun j c' hj _=>by simp_all) hr (fun e m L H' hK=>?_)
       ·exact hQ _ _ hl fn c b hc hb hk
       grind
      cases r with
      | ret s Hout=>exact hS s Hout rfl
      | fin e m L H=>trivial
    ·cases hr
   ·cases hr
  | loop f k n0 m L H =>
   simp only[QG,ho] at hr
   split at hr
   ·rename_i fn fi hc hfi
    split at hr
    ·rename_i c kp hb hkp
     split at hr
     ·rename_i b hk
      cases r with
      | ret s Hout=>trivial
      | fin e m' L' H' =>
       intro fn' c' b' hc' hb' hk'
       rw[hc] at hc';obtain rfl:=Option.some.inj hc'
       rw[hb] at hb';obtain rfl:=Option.some.inj hb'
       rw[hk] at hk';obtain rfl:=Option.some.inj hk'
       intro g hg a w ν S
       refine SY.unroll ?_
       have hfs:=A2H (n:=fn.ntmps) (f:=f) (keep:=fi.keep) (tab:=fun j=>Fb c j) (Φ:=fun e1 m1 L1 H1=>(match e1 with
        | .normal=>O3 kp.1 n0 m1 L1 H1 fun m L H=>Q (.loop f k n0 m L H)
        | e=>O3 kp.2 n0 m1 L1 H1 fun m L H=>some (Rsp.fin e m L H))=some (Rsp.fin e m' L' H')) h.hT h.hG hq h.hx hg (fun k b m L H' e m' L' H'' hk hl=>hQ _ _ hl fn c b hc hb hk) b (k+1) m L H _ (fun j c' hj _=>A09 c hk j c' hj) hr (fun e m L H' hK=>hK) a w ν S
       have out:∀(e1:Exit) m1 L1 H1 a1 w1 ν1,(O3 kp.2 n0 m1 L1 H1 fun m L H=>some (Rsp.fin e1 m L H))=some (Rsp.fin e m' L' H')->JO I fn.ntmps g m1 L1 H1 a1 w1 ν1->kE I fn.ntmps g (fun e1 m1 L1 H1=>e1=e/\m1=m'/\L1=L'/\H1=H') e1 a1 w1:=by
        intro e1 m1 L1 H1 a1 w1 ν1 hc1 S1
        obtain⟨m2,L2,H2,ν2,g1,g2⟩:=RV hg S1 hc1
        simp only[Option.some.injEq,Rsp.fin.injEq] at g1
        obtain⟨rfl,rfl,rfl,rfl⟩:=g1
        exact⟨_,_,_,_,⟨rfl,rfl,rfl,rfl⟩,g2⟩
       refine wp_mono hfs ?_
       rintro e1 a1 w1 ⟨m1,L1,H1,ν1,q,S1⟩
       cases e1 with
       | normal =>
        obtain⟨m2,L2,H2,ν2,g1,g2⟩:=RV hg S1 q
        exact hQ _ _ g1 fn c b hc hb hk g hg a1 w1 _ g2
       | _=>exact out _ _ _ _ _ _ _ q S1
     ·cases hr
    ·cases hr
   ·cases hr
theorem A6g(h:EnvOK P I E){f:FuncId}{args:List AV}{Hin:List Rs}{s:AV}{Hout:List (Option Rs)}(hF:F E (.call f args Hin)=some (.ret s Hout)):gZ P I f args Hin s Hout:=A8V h _ _ hF
end
end
end Go.Ax
namespace Go.Ax
open Go Go.RowKit Go.Eng
set_option linter.unusedVariables false
set_option linter.unusedSimpArgs false
variable {P:Program}
def A6h:AV->AV->Bool
 | .un,.un=>true
 | .b x,.b y=>x==y
 | .i x,.i y|.u8 x,.u8 y|.u32 x,.u32 y|.u64 x,.u64 y|.str x,.str y=>decide (x=y)
 | .nil,.nil=>true
 | _,_=>false
theorem A4o{a b:AV}(h:A6h a b=true):a=b:=by
 unfold A6h at h
 grind
def xy:List AV->List AV->Bool
 | [],[]=>true
 | a::l,b::m=>A6h a b&&xy l m
 | _,_=>false
theorem lV:∀ {a b:List AV},xy a b=true->a=b
 | [],[],_=>rfl
 | a::l,b::m,h=>by simp only[xy,Bool.and_eq_true] at h;rw[A4o h.1,lV h.2]
 | [],_::_,h|_::_,[],h=>za6
def A7i(P:Program)(t:TypeId)(i:TI):Bool:=match i.u,P.underlying t with
 | .bool,some .bool|.i64,some (.int .i64)|.u8,some (.int .u8)|.u32,some (.int .u32)|.u64,some (.int .u64)|.str,some .string=>true
 | .sl e,some (.slice e')=>Nat.beq e e'
 | .fld pl sc,some (.struct _)=>(match Yh P t,zf P t with|some pl',some sc'=>decide (pl'=pl)&&decide (sc'=sc)|_,_=>false)
 | .arr n e,some (.array n' e')=>Nat.beq n n'&&Nat.beq e e'
 | .ptr e,some (.pointer e')=>Nat.beq e e'
 | .oth,some d=>Oi d
 | _,_=>false
def A7j(P:Program)(t:TypeId)(i:TI):Bool:=match P.info? t with
 | some ti=>(match ti.zero with
  | some z=>xy (z.cells.toList.map AV.of) i.zero&&Nat.beq z.cells.size i.size&&z.cells.toList.all (·.oneCell')
  | none=>false)&&Nat.beq ti.size i.size&&Nat.beq ti.bytes i.bytes&&Nat.blt 0 i.bytes
 | none=>false
def A7k(P:Program)(t:TypeId):Bool:=match P.underlying t with
 | some (.array n e)=>Nat.beq n 2&&(match P.underlying e with|some (.int .i64)=>true|_=>false)&&(match P.info? e with|some i=>Nat.beq i.size 1|none=>false) && !P.eqGuardType P.depth t
 | _=>false
def A6i(P:Program)(t:TypeId)(n:Nat):Bool:=match P.underlying t with
 | some (.struct fs) => !P.stoodInHeld t&&fs.toList.all (fun f=>(match decEq f.name "_" with|isTrue _=>false|isFalse _=>true)&&(match P.underlying f.type with|some (.int .i64)=>true|_=>false))&&decide (fs.toList.map (·.offset)=List.range' 0 n) && !P.eqGuardType P.depth t
 | _=>false
theorem A4p{t:TypeId}{n:Nat}(h:A6i P t n=true):E6 P t n:=by
 unfold A6i at h
 split at h
 ·rename_i fs hu
  simp only[Bool.and_eq_true,Bool.not_eq_true',decide_eq_true_eq,List.all_eq_true] at h
  obtain⟨⟨⟨h1,h2⟩,h3⟩,h4⟩:=h
  have hfs:P.fieldsOf t=fs:=by unfold Program.fieldsOf;rw[hu]
  refine⟨by rw[hfs];exact hu,h1,fun f hf=>?_,by rw[hfs];exact h3,h4⟩
  rw[hfs] at hf
  obtain⟨h5,h6⟩:=h2 f hf
  refine⟨?_,?_⟩
  ·split at h5
   ·cases h5
   ·assumption
  ·split at h6
   ·assumption
   ·cases h6
 ·cases h
def A6j(P:Program)(t:TypeId)(i:TI):Bool:=A7i P t i&&A7j P t i&&(match i.ty with|some τ=>Nat.beq τ.n i.size|none=>true)&&(!i.eq2||A7k P t)&&(!Nat.blt 0 i.eqn||A6i P t i.eqn)
theorem A4q{t:TypeId}{i:TI}(h:A6j P t i=true):TOK P t i:=by
 simp only[A6j,Bool.and_eq_true] at h
 obtain⟨⟨⟨⟨h1,h2⟩,h3⟩,h4⟩,hq⟩:=h
 have hq:0<i.eqn->E6 P t i.eqn:=fun h0=>by
  have h0:Nat.blt 0 i.eqn=true:=by simpa using h0
  rw[h0] at hq
  exact A4p (by simpa using hq)
 have hu:(match i.u with
  | .bool=>P.underlying t=some .bool
  | .i64=>P.underlying t=some (.int .i64)
  | .u8=>P.underlying t=some (.int .u8)
  | .u32=>P.underlying t=some (.int .u32)
  | .u64=>P.underlying t=some (.int .u64)
  | .str=>P.underlying t=some .string
  | .sl el=>P.underlying t=some (.slice el)
  | .fld pl sc=>Yh P t=some pl/\zf P t=some sc
  | .arr n el=>P.underlying t=some (.array n el)
  | .ptr el=>P.underlying t=some (.pointer el)
  | .oth=>∃ d,P.underlying t=some d/\Oi d=true):=by
  unfold A7i at h1
  split at h1
  case _ hu hp=>rw[hu];exact hp
  case _ hu hp=>rw[hu];exact hp
  case _ hu hp=>rw[hu];exact hp
  case _ hu hp=>rw[hu];exact hp
  case _ hu hp=>rw[hu];exact hp
  case _ hu hp=>rw[hu];exact hp
  case _ hu hp=>rw[hu];simp only;rw[Hl h1];exact hp
  case _ hu hp =>
   rw[hu]
   simp only
   split at h1
   ·rename_i pl' sc' e1 e2
    simp only[Bool.and_eq_true,decide_eq_true_eq] at h1
    exact⟨e1.trans (by rw[h1.1]),e2.trans (by rw[h1.2])⟩
   ·cases h1
  case _ hu hp =>
   rw[hu]
   simp only
   simp only[Bool.and_eq_true] at h1
   rw[Hl h1.1,Hl h1.2];exact hp
  case _ hu hp=>rw[hu];simp only;rw[Hl h1];exact hp
  case _ hu hp=>rw[hu];exact⟨_,hp,h1⟩
  case _=>cases h1
 unfold A7j at h2
 split at h2
 ·rename_i ti hi
  simp only[Bool.and_eq_true] at h2
  obtain⟨⟨⟨h5,h6⟩,h7⟩,h8⟩:=h2
  split at h5
  ·rename_i z hz
   simp only[Bool.and_eq_true] at h5
   obtain⟨⟨h9,h10⟩,h11⟩:=h5
   refine⟨hu,by rw[hi];simp only[Option.map_some,Hl h6],⟨z,?_,lV h9,Hl h10,h11,by simpa using h8⟩,fun τ hτ=>?_,fun he=>?_,hq⟩
   ·rw[hi];simp only[Option.map_some,hz,Hl h6,Hl h7]
   ·rw[hτ] at h3;exact Hl h3
   ·rw[he] at h4
    simp only[Bool.not_true,Bool.false_or] at h4
    unfold A7k at h4
    split at h4
    ·rename_i n e hp
     simp only[Bool.and_eq_true,Bool.not_eq_true'] at h4
     obtain⟨⟨⟨g1,g2⟩,g3⟩,g4⟩:=h4
     split at g2
     ·rename_i g2'
      split at g3
      ·rename_i ie g3'
       have hs:=Hl g3
       refine⟨e,by rw[hp,Hl g1],g2',by rw[g3'];simp only[Option.map_some,hs],by simp[Program.cellsOf,g3',hs],g4⟩
      ·cases g3
     ·cases g2
    ·cases h4
  ·cases h5
 ·cases h2
def ttB(P:Program):TT->Bool
 | []=>true
 | (t,i)::r=>A6j P t i&&ttB P r
theorem A2P{P:Program}:∀ {T:TT},ttB P T=true->∀ t i,UW t T=some i->TOK P t i
 | [],_,t,i,h=>za6
 | (d,v)::r,h,t,i,ht=>by
  simp only[ttB,Bool.and_eq_true] at h
  simp only[UW] at ht
  cases hb:Nat.beq t d with
  | true=>grind[Hl,A4q]
  | false=>rw[hb] at ht;exact A2P h.2 t i ht
inductive CTok (P:Program):CT->Prop
 | nil:CTok P []
 | cons {d:Nat} {v:Func} {C:CT}:P.funcs[d]?=some v->CTok P C->CTok P ((d,v)::C)
theorem CTok.get{C:CT}(h:CTok P C):∀ f fn,cfk f C=some fn->P.funcs[f]?=some fn:=by
 induction h with
 | nil=>intro f fn h;cases h
 | @cons d v C h1 _ ih =>
  grind[cfk,Hl]
inductive EntL (P:Program):FT->Prop
 | nil:EntL P []
 | cons {d:Nat} {v:FI} {C:FT}:Ent P d->EntL P C->EntL P ((d,v)::C)
theorem A4r{G:FT}(h:EntL P G):gq P G:=by
 induction h with
 | nil=>intro f fn h;cases h
 | @cons d v C h1 _ ih =>
  intro f fn h
  simp only[Xq] at h
  cases hb:Nat.beq f d with
  | true=>simp_all
  | false=>rw[hb] at h;exact ih f fn h
end Go.Ax
namespace Go.Ax
open Go Go.RowKit Go.Eng
set_option linter.unusedVariables false
set_option linter.unusedSimpArgs false
variable {a:Int}{α:Type}{b i:Int}(l:List α)
theorem wrap64{n:Int}(h : -9223372036854775808<=n/\n<=9223372036854775807):IntKind.i64.wrap n=n:=by
 have e1:(2:Int)^IntKind.i64.bits=18446744073709551616:=rfl
 have e2:(2:Int)^(IntKind.i64.bits-1)=9223372036854775808:=rfl
 have e3:IntKind.i64.signed=true:=rfl
 unfold IntKind.wrap
 grind
theorem Au(h : -9223372036854775808<=a+b/\a+b<=9223372036854775807):Cc a b=a+b:=by rw[A1V];exact wrap64 h
theorem CY(h : -9223372036854775808<=a-b/\a-b<=9223372036854775807):Dn a b=a-b:=by rw[A1W];exact wrap64 h
theorem Gf(h : -9223372036854775808<=a*b/\a*b<=9223372036854775807):D7 a b=a*b:=by rw[A1X];exact wrap64 h
theorem FC(h:0<=a/\a<=9223372036854775807/\1<=b):DU a b=a/b:=by
 have h1:a.tdiv b=a/b:=Int.tdiv_eq_ediv_of_nonneg h.1
 rw[A1Y];unfold iquo0;rw[h1]
 have h2:0<=a/b:=Int.ediv_nonneg h.1 zaa
 have h3:a/b<=a:=Int.ediv_le_self _ h.1
 grind[wrap64]
theorem FO(h:0<=a):DD a b=a%b:=by rw[fM];exact Int.tmod_eq_emod_of_nonneg h
theorem Uo(h : -9223372036854775807<=a/\a<=9223372036854775807):Dp a = -a:=by rw[A1Z];exact wrap64 zaa
theorem Ur(h : -9223372036854775808<=a/\a<=9223372036854775807):Dq a=a:=by rw[A1b];exact wrap64 h
theorem EH(h:a=b):F7 a b=true:=by simp[UU,ieq0,h]
theorem AA(h:a≠b):F7 a b=false:=by simp[UU,ieq0,h]
theorem G8(h:a≠b):FY a b=true:=by simp[XJ,ine0,h]
theorem Cf(h:a=b):FY a b=false:=by simp[XJ,ine0,h]
theorem EZ(h:a<b):FD a b=true:=by simp[PW,ilt0,h]
theorem GL(h:b<=a):FD a b=false:=by simp[PW,ilt0];omega
theorem Gm(h:a<=b):Ez a b=true:=by simp[O9,ile0,h]
theorem Si(h:b<a):Ez a b=false:=by simp[O9,ile0];omega
theorem ZA(h:F7 a b=true):a=b:=by simpa [UU,ieq0] using h
theorem ZB(h:F7 a b=false):a≠b:=by simpa [UU,ieq0] using h
theorem ZC(h:FY a b=true):a≠b:=by simpa [XJ,ine0] using h
theorem ZE(h:FY a b=false):a=b:=by simpa [XJ,ine0] using h
theorem JQ(h:FD a b=true):a<b:=by simpa [PW,ilt0] using h
theorem JR(h:FD a b=false):b<=a:=by simpa [PW,ilt0] using h
theorem lW(h:Ez a b=true):a<=b:=by simpa [O9,ile0] using h
theorem lX(h:Ez a b=false):b<a:=by simpa [O9,ile0] using h
theorem BB:Bj l=(l.length:Int):=by rw[rC];rfl
theorem Ag(m:List α):BM l m=l++m:=by rw[fZ];rfl
theorem Na(m:List α):Cj l m=m.take l.length++l.drop m.length:=by rw[A1h];rfl
theorem FH(n:Int)(a:α):BZ n a=List.replicate n.toNat a:=by rw[rD];rfl
theorem GG(i:Int)(a:α):Bc l i a=l.set i.toNat a:=by rw[A1g];rfl
theorem Iu{l:List α}{a:α}(h:0<=i)(h2:l[i.toNat]?=some a):BO l i=some a:=by simp_all[Nw,lget0]
theorem A0A{l:List α}(h:i<0\/(l.length:Int)<=i):BO l i=none:=by
 rw[Nw];grind[lget0]
theorem OI(i:Nat):BO l (i:Int)=l[i]?:=by simp_all[Nw,lget0]
theorem Gw{l:List α}(h:0<=i/\i<l.length):Du l i=true:=by simp_all[A1f,linb0]
theorem N9:DF l 0 (Bj l)=some l:=by
 simp_all[fV,lcut0,BB]
theorem KG{l:List α}{lo hi:Int}(h:0<=lo/\lo<=hi/\hi<=l.length):DF l lo hi=some ((l.drop lo.toNat).take (hi-lo).toNat):=by rw[fV,lcut0,if_pos h]
theorem Dy{l:List α}{b:Nat}(h:l.length*b<=140737488355328):fits l b=true:=by simp_all[Yd,fits0]
theorem NC{n:Int}{b:Nat}(h:0<=n/\b*n.toNat<=281474976710656):Dv n b=true:=by simp_all[A1j,fitn0]
theorem QH{a b:List Int}(h:a=b):Dk a b=true:=by simp[gB,ieqs0,h]
theorem ZF{a b:List UInt8}(h:a=b):DW a b=true:=by simp[xE,seq0,h]
theorem ZG{a b:List UInt8}(h:a≠b):DW a b=false:=by simp[xE,seq0,h]
theorem DT(a:Bool):DV a = !a:=by rw[A1a];rfl
theorem ND(a b:Bool):and' a b=(a&&b):=by rw[A5o];rfl
theorem QI(a:UInt8):Fh a=(a.toNat:Int):=by rw[xI];rfl
theorem FP(a:Int):ER a=UInt8.ofInt a:=by rw[A5p];rfl
theorem MH(a:Int):Bl a=UInt64.ofInt a:=by rw[GK];rfl
theorem Us(a:UInt64):Bz a=a.toUInt8:=by rw[xM];rfl
theorem lY(a:UInt8):CE a=a.toUInt64:=by rw[xJ];rfl
theorem RY{a:UInt64}(h:a.toNat<=9223372036854775807):Dt a=(a.toNat:Int):=by rw[A1c];exact wrap64 zaa
theorem KX{c:Int}(h:0<=c/\c<18446744073709551616):(UInt64.ofInt c).toNat=c.toNat:=by
 grind[UInt64.ofInt,UInt64.toNat_ofNat']
theorem RZ{a:UInt64}{c:Nat}(h:c<64):BG a c=a>>>UInt64.ofNat c:=by
 apply UInt64.toNat_inj.1
 rw[kG];unfold u64shr0
 rw[UInt64.toNat_shiftRight,Nat.shiftRight_eq_div_pow,UInt64.toNat_ofNat',UInt64.toNat_ofNat',Nat.min_eq_left zaa]
 have h2:c%2^64%64=c:=zaa
 rw[h2]
 have:=a.toNat_lt
 exact Nat.mod_eq_of_lt (Nat.lt_of_le_of_lt (Nat.div_le_self _ _) this)
theorem dB{a:UInt64}{c:Nat}(h:c<64):BI a c=a<<<UInt64.ofNat c:=by
 rw[kH];unfold u64shl0
 apply UInt64.toNat_inj.1
 rw[Nat.min_eq_left zaa,UInt64.toNat_shiftLeft,Nat.shiftLeft_eq,UInt64.toNat_ofNat']
 have h2:c%2^64%64=c:=zaa
 grind[UInt64.ofInt,UInt64.toNat_ofNat']
theorem lZ(a b:UInt64):Bh .or a b=a|||b:=by rw[Ew];rfl
theorem A4s{a b:UInt64}(h:b.toNat<a.toNat):Az .gtr a b=true:=by simp_all[KC,u64cmp0,jl]
theorem A4t{a b:UInt64}(h:a.toNat<=b.toNat):Az .gtr a b=false:=by simp_all[KC,u64cmp0,jl]
theorem A5v(a:UInt8):Ci (a.toNat:Int) 8=(a.toNat:Int)*2^(8:Int).toNat:=by
 have:=a.toNat_lt
 rw[fO];unfold ishl0
 rw[show min 8 64=8 from rfl,show(2:Int)^(8:Int).toNat=256 from rfl,show(2:Int)^8=256 from rfl]
 grind[wrap64]
theorem A2Q(a b:Int):BA .or a b=bits .or .i64 a b:=by rw[Q5];rfl
end Go.Ax
namespace Go.Ax
open Go Go.Eng Go.RowKit
set_option linter.unusedVariables false
variable {b:List UInt8}{at':Nat}{e:Int}
def Rf:Nat->UInt64->List UInt8
 | 0,_=>[]
 | k+1,x=>(x>>>UInt64.ofNat (8*k)).toUInt8::Rf k x
theorem L9(k:Nat)(x:UInt64):(Rf k x).length=k:=by induction k with|zero=>rfl|succ k ih=>simp[Rf,ih]
def BV(b:List UInt8)(size n:Int):List UInt8:=if size<1\/8<size then b else b++Rf size.toNat (UInt64.ofInt n)
theorem dC(b:List UInt8)(size n:Int):(BV b size n).length<=b.length+8:=by
 grind[BV,L9]
def KP(b x:List UInt8):List UInt8:=BV b 2 ((x.take 65535).length:Int)++x.take 65535
theorem lg(x y:UInt8):bits .or .i64 ((x.toNat:Int)*2^(8:Int).toNat) (y.toNat:Int)=((x.toNat*256+y.toNat:Nat):Int):=by
 have hx:=x.toNat_lt
 have hy:=y.toNat_lt
 have h:=jk (x.toNat*256) y.toNat zaa zaa
 rw[show((x.toNat:Int)*2^(8:Int).toNat)=((x.toNat*256:Nat):Int) from by simp,h]
 have:=Nat.shiftLeft_add_eq_or_of_lt (i:=8) (show y.toNat<2^8 by omega) x.toNat
 simp_all[Nat.shiftLeft_eq]
def beN(l:List UInt8):UInt64:=l.foldl (fun n x=>n<<<8|||x.toUInt64) 0
def Hr(b:List UInt8)(at':Nat)(e size:Int):Int×Nat×Int :=
 if e≠0 then(0,at',e) else if size<1\/8<size then(0,at',1) else if b.length<at'+size.toNat then(0,at',2)
 else if 9223372036854775807<(beN ((b.drop at').take size.toNat)).toNat then(0,at',4) else((beN ((b.drop at').take size.toNat)).toNat,at'+size.toNat,0)
def Pz(b:List UInt8)(at':Nat)(e n:Int):List UInt8×Nat×Int :=
 if e≠0 then([],at',e) else if n<0 then([],at',1) else if b.length<at'+n.toNat then([],at',2) else((b.drop at').take n.toNat,at'+n.toNat,0)
def FQ(b:List UInt8)(at':Nat):Nat:=(b.getD at' 0).toNat*256+(b.getD (at'+1) 0).toNat
def Ie(b:List UInt8)(at':Nat)(e most:Int):List UInt8×Nat×Int :=
 if e≠0 then([],at',e) else if b.length<at'+2 then([],at',2) else if most<FQ b at' then([],at',4)
 else if b.length<at'+2+FQ b at' then([],at',2) else((b.drop (at'+2)).take (FQ b at'),at'+2+FQ b at',0)
def U2(b:List UInt8)(at':Nat)(e:Int):Int:=if e=0/\at'<b.length then 3 else e
theorem IC{size:Int}(h:at'<=b.length):(Hr b at' e size).2.1<=b.length:=by
 grind[Hr]
theorem iK{n:Int}(h:at'<=b.length):(Pz b at' e n).2.1<=b.length:=by
 grind[Pz]
theorem IE{most:Int}(h:at'<=b.length):(Ie b at' e most).2.1<=b.length:=by
 grind[Ie]
end Go.Ax
namespace Go.Ax
open Go Go.RowKit Go.Eng
set_option linter.unusedVariables false
set_option linter.unusedSimpArgs false
variable (a b:UInt8)
theorem Fe{α:Type}{l:List α}{n:Nat}(h:n<l.length):BO l (n:Int)=some (l[n]'h):=by simp_all[OI]
theorem DZ{α:Type}{l:List α}{i:Int}(h:0<=i/\i<l.length):BO l i=some (l[i.toNat]'zaa):=by simp_all[Nw,lget0]
theorem A6k(a b:List UInt8):DW a b=decide (a=b):=by rw[xE];rfl
theorem A4u(a b:Int):F7 a b=(a==b):=by simp only[UU,ieq0]
theorem Dz(a b:Int):F7 a b=decide (a=b):=by simp only[UU,ieq0];rfl
theorem WX(a b:Int):FY a b = !decide (a=b):=by simp only[XJ,ine0];rfl
theorem Jd(a b:Int):FD a b=decide (a<b):=by rw[PW];rfl
theorem EU(a b:Int):Ez a b=decide (a<=b):=by rw[O9];rfl
theorem J6:Bg .eql a b=F7 (a.toNat:Int) b.toNat:=by rw[Oo,UU];rfl
theorem J7:Bg .neq a b=FY (a.toNat:Int) b.toNat:=by rw[Oo,XJ];rfl
theorem KY:Bg .lss a b=FD (a.toNat:Int) b.toNat:=by rw[Oo,PW];rfl
theorem KZ:Bg .leq a b=Ez (a.toNat:Int) b.toNat:=by rw[Oo,O9];rfl
theorem Ko:Bg .gtr a b=FD (b.toNat:Int) a.toNat:=by rw[Oo,PW];rfl
theorem Kq:Bg .geq a b=Ez (b.toNat:Int) a.toNat:=by rw[Oo,O9];rfl
theorem Je(a b:UInt64):Az .eql a b=F7 (a.toNat:Int) b.toNat:=by rw[KC,UU];rfl
theorem Jf(a b:UInt64):Az .neq a b=FY (a.toNat:Int) b.toNat:=by rw[KC,XJ];rfl
theorem Jg(a b:UInt64):Az .lss a b=FD (a.toNat:Int) b.toNat:=by rw[KC,PW];rfl
theorem Jh(a b:UInt64):Az .leq a b=Ez (a.toNat:Int) b.toNat:=by rw[KC,O9];rfl
theorem Ji(a b:UInt64):Az .gtr a b=FD (b.toNat:Int) a.toNat:=by rw[KC,PW];rfl
theorem IG(a b:UInt64):Az .geq a b=Ez (b.toNat:Int) a.toNat:=by rw[KC,O9];rfl
theorem LV:DL .xor a b=a^^^b:=by rw[fQ];rfl
theorem A2S:DL .and a b=a&&&b:=by rw[fQ];rfl
theorem A4v:DL .or a b=a|||b:=by rw[fQ];rfl
theorem A4w{c:Int}(h:0<=c/\c<=8):(Bh .mul (UInt64.ofNat 8) (Bl c)).toNat=(8*c).toNat:=by
 rw[Ew,MH]
 show((UInt64.ofNat 8)*(UInt64.ofInt c)).toNat=_
 grind[UInt64.toNat_mul,KX]
theorem A2T(k:Nat)(hk:k<=62)(n:Int):bits .and .i64 n ((2^k-1:Nat):Int)=n%((2^k:Nat):Int):=by
 have hp:0<2^k:=Nat.pow_pos zaa
 have hlt:2^k<=2^62:=Nat.pow_le_pow_right zaa hk
 have h1:(BitVec.ofInt 64 ((2^k-1:Nat):Int)).toNat=2^k-1:=by
  grind
 have key:(BitVec.ofInt 64 n&&&BitVec.ofInt 64 ((2^k-1:Nat):Int)).toNat=(n%((2^64:Nat):Int)).toNat%2^k:=by
  grind[BitVec.toNat_ofInt,Nat.and_two_pow_sub_one_eq_mod]
 show IntKind.i64.wrap ((BitVec.ofInt 64 n&&&BitVec.ofInt 64 ((2^k-1:Nat):Int)).toNat:Nat)=n%_
 rw[key,IntKind.wrap_i64]
 have hd:((2^k:Nat):Int)∣((2^64:Nat):Int):=by
  refine⟨((2^(64-k):Nat):Int),?_⟩
  rw[<-Int.natCast_mul,<-Nat.pow_add];grind
 have h2:((((n%((2^64:Nat):Int)).toNat%2^k:Nat)):Int)=n%((2^k:Nat):Int):=by
  grind[Int.emod_emod_of_dvd]
 omega
theorem Jp(k:Nat)(hk:k<=62)(n:Int):BA .and n ((2^k-1:Nat):Int)=n%((2^k:Nat):Int):=by rw[Q5];exact A2T k hk n
end Go.Ax
namespace Go.Ax
open Go Go.Eng Go.RowKit
set_option linter.unusedVariables false
set_option linter.unusedSimpArgs false
variable {b:List UInt8}{at':Nat}{x r:List UInt8}{n p:Nat}{e most:Int}(l:List UInt8)
def LW(l:List UInt8):Nat:=l.foldl (fun n x=>n*256+x.toNat) 0
theorem A4x:∀ a:Nat,l.foldl (fun n x=>n*256+x.toNat) a=a*256^l.length+LW l:=by
 induction l with
 | nil=>grind[LW]
 | cons x l ih =>
  intro a
  rw[List.foldl_cons,ih]
  have e:LW (x::l)=x.toNat*256^l.length+LW l:=by
   rw[show LW (x::l)=l.foldl (fun n x=>n*256+x.toNat) (0*256+x.toNat) from rfl,ih];simp
  grind
theorem OJ(x:UInt8)(l:List UInt8):LW (x::l)=x.toNat*256^l.length+LW l:=by
 grind[LW,A4x]
theorem YC:LW l<256^l.length:=by
 induction l with
 | nil=>simp[LW]
 | cons x l ih =>
  rw[OJ,List.length_cons,Nat.pow_succ]
  have:=x.toNat_lt
  have h2:x.toNat*256^l.length<=255*256^l.length:=Nat.mul_le_mul_right _ zaa
  omega
theorem A4y(n:UInt64)(x:UInt8)(h:n.toNat<2^56):(n<<<8|||x.toUInt64).toNat=n.toNat*256+x.toNat:=by
 have hx:=x.toNat_lt
 rw[UInt64.toNat_or,UInt64.toNat_shiftLeft]
 have e1:(8:UInt64).toNat%64=8:=zal
 rw[e1,Nat.shiftLeft_eq,Nat.mod_eq_of_lt zaa]
 have e2:x.toUInt64.toNat=x.toNat:=zam
 rw[e2]
 have:=Nat.shiftLeft_add_eq_or_of_lt (i:=8) (show x.toNat<2^8 by omega) n.toNat
 simp_all[Nat.shiftLeft_eq]
theorem y9(h:l.length<=8):(beN l).toNat=LW l:=by
 have key:∀(l:List UInt8) (a:UInt64) (m:Nat),a.toNat<256^m->m+l.length<=8->(l.foldl (fun(n:UInt64) (x:UInt8)=>n<<<8|||x.toUInt64) a).toNat=a.toNat*256^l.length+LW l:=by
  intro l
  induction l with
  | nil=>simp_all[LW]
  | cons x l ih =>
   intro a m ha hm
   rw[List.length_cons] at hm
   have hx:=x.toNat_lt
   have h56:a.toNat<2^56:=by
    have:256^m<=256^7:=Nat.pow_le_pow_right zaa zaa
    omega
   have hs:=A4y a x h56
   rw[List.foldl_cons,ih _ (m+1) zaa zaa,hs,OJ,List.length_cons,Nat.pow_succ,Nat.add_mul,Nat.mul_assoc,Nat.mul_comm 256]
   omega
 have:=key l 0 0 zal zaa
 simp_all[beN]
theorem yA(k:Nat)(x:UInt64)(hk:k<=8):LW (Rf k x)=x.toNat%256^k:=by
 induction k with
 | zero=>simp[Rf,LW,Nat.mod_one]
 | succ k ih =>
  rw[Rf,OJ,L9,ih zaa]
  have h1:((x>>>UInt64.ofNat (8*k)).toUInt8).toNat=x.toNat/256^k%256:=by
   rw[UInt64.toNat_toUInt8,UInt64.toNat_shiftRight,UInt64.toNat_ofNat',Nat.shiftRight_eq_div_pow]
   have e:8*k%2^64%64=8*k:=zaa
   rw[e,Nat.pow_mul]
  rw[h1,Nat.pow_succ,Nat.mod_mul]
  grind
theorem lh:∀ {l m:List UInt8},l.length=m.length->LW l=LW m->l=m
 | [],[],_,_=>rfl
 | x::l,y::m,hl,hv=>by
  rw[OJ,OJ] at hv
  have hl':l.length=m.length:=zaJ
  have h1:=YC l
  have h2:=YC m
  rw[hl'] at hv h1
  have hp:0<256^m.length:=Nat.pow_pos zaa
  have hxy:x.toNat=y.toNat:=by
   have a1:(x.toNat*256^m.length+LW l)/256^m.length=x.toNat:=by
    rw[Nat.mul_comm,Nat.mul_add_div hp,Nat.div_eq_of_lt h1,Nat.add_zero]
   simp_all[Nat.mul_comm,Nat.mul_add_div,Nat.div_eq_of_lt]
  have hlm:LW l=LW m:=zaD
  rw[UInt8.toNat_inj.1 hxy,lh hl' hlm]
 | [],_::_,h,_|_::_,[],h,_=>zbC
theorem yB(h:l.length<=8)(hb:LW l<9223372036854775808):Rf l.length (UInt64.ofInt (LW l:Int))=l:=by
 grind[lh,L9,yA,KX,Nat.mod_eq_of_lt,YC]
theorem ZH(k:Nat)(x:Int)(hk:k<=8)(h0:0<=x)(h1:x<9223372036854775808)(h:x.toNat<256^k):LW (Rf k (UInt64.ofInt x))=x.toNat:=by
 grind[yA,KX,Nat.mod_eq_of_lt]
theorem QJ(h:b.drop p=r)(hp:p<=b.length):b.length=p+r.length:=zaJ
theorem Ut(h:b.drop p=x++r):b.drop (p+x.length)=r:=by
 rw[<-List.drop_drop,h,List.drop_left]
theorem LC{x:Int}(hp:p<=b.length)(hn:1<=n/\n<=8)(h:b.drop p=Rf n (UInt64.ofInt x)++r)(h0:0<=x)(h1:x<9223372036854775808)(h2:x.toNat<256^n):
  Hr b p 0 n=(x,p+n,0)/\p+n<=b.length/\b.drop (p+n)=r:=by
 have hl:=QJ h hp
 rw[List.length_append,L9] at hl
 have ht:(b.drop p).take n=Rf n (UInt64.ofInt x):=by simp_all[L9]
 have hv:(beN (Rf n (UInt64.ofInt x))).toNat=x.toNat:=by simp_all[y9,L9,ZH]
 refine⟨?_,by omega,by have:=Ut h;rwa [L9] at this⟩
 unfold Hr
 grind
theorem yC(hp:p<=b.length)(h:b.drop p=x++r)(hx:x.length=n):Pz b p 0 n=(x,p+n,0)/\p+n<=b.length/\b.drop (p+n)=r:=by
 have hl:=QJ h hp
 rw[List.length_append] at hl
 subst hx
 simp_all[Ut,Pz,if_neg]
theorem A2U{x:UInt8}{y:UInt8}(h:b.drop p=x::y::r):FQ b p=x.toNat*256+y.toNat:=by
 have e0:b.getD p 0=x:=by
  have:=congrArg (fun l=>l.getD 0 0) h
  grind
 have e1:b.getD (p+1) 0=y:=by
  have:=congrArg (fun l=>l.getD 1 0) h
  grind
 rw[FQ,e0,e1]
def WY(n:Nat):List UInt8:=Rf 2 (UInt64.ofInt (n:Int))
theorem A2V(n:Nat):∃ x y,WY n=[x,y]:=⟨_,_,rfl⟩
theorem Uu(n:Nat):(WY n).length=2:=L9 _ _
theorem A2W(h:n<=65535){x y:UInt8}(hxy:WY n=[x,y]):x.toNat*256+y.toNat=n:=by
 have:=ZH 2 (n:Int) zaa zaa zaa zaC
 rw[show Rf 2 (UInt64.ofInt (n:Int))=[x,y] from hxy] at this
 simp_all[LW]
theorem YD(hp:p<=b.length)(h:b.drop p=WY x.length++x++r)(hx:x.length<=65535)(hm:(x.length:Int)<=most):
  Ie b p 0 most=(x,p+2+x.length,0)/\p+2+x.length<=b.length/\b.drop (p+2+x.length)=r:=by
 have hl:=QJ h hp
 rw[List.length_append,List.length_append,Uu] at hl
 obtain⟨u,v,huv⟩:=A2V x.length
 have hv:=A2W hx huv
 have hL:FQ b p=x.length:=by
  grind[A2U]
 have h2:b.drop (p+2)=x++r:=by
  grind[Ut,Uu]
 refine⟨?_,by omega,Ut h2⟩
 unfold Ie
 grind
theorem A2X(hp:p<=b.length)(h:b.drop p=[]):U2 b p 0=0:=by
 simp_all[U2]
theorem iL{q:Nat}{x:Int}(hp:p<=b.length)(hn:1<=n/\n<=8)(h:Hr b p e n=(x,q,0)):e=0/\q=p+n/\q<=b.length/\b.drop p=Rf n (UInt64.ofInt x)++b.drop q/\0<=x/\x<9223372036854775808/\x.toNat<256^n:=by
 unfold Hr at h
 split at h
 ·simp_all
 rename_i he
 split at h
 ·simp at h
 split at h
 ·simp at h
 rename_i hl
 split at h
 ·simp at h
 rename_i hb
 simp only[Int.toNat_natCast,Prod.mk.injEq] at h hb hl
 obtain⟨h1,h2,_⟩:=h
 have hlen:((b.drop p).take n).length=n:=zaC
 rw[y9 _ zaa] at h1 hb
 have hlt:=YC ((b.drop p).take n)
 rw[hlen] at hlt
 subst h1 h2
 refine⟨by omega,rfl,by omega,?_,by omega,by omega,by omega⟩
 grind[yB,List.drop_drop,List.take_append_drop]
theorem A6l(h:p+2<=b.length):b.drop p=b.getD p 0::b.getD (p+1) 0::b.drop (p+2):=by
 grind[List.drop_eq_getElem_cons]
theorem yD{q:Nat}(hp:p<=b.length)(h:Ie b p e most=(x,q,0)):e=0/\q=p+2+x.length/\q<=b.length/\b.drop p=WY x.length++x++b.drop q/\(x.length:Int)<=most/\x.length<=65535:=by
 unfold Ie at h
 split at h
 ·simp_all
 rename_i he
 split at h
 ·simp at h
 rename_i h2
 split at h
 ·simp at h
 rename_i h3
 split at h
 ·simp at h
 rename_i h4
 simp only[Prod.mk.injEq] at h
 obtain⟨h1,hq,_⟩:=h
 have hlen:((b.drop (p+2)).take (FQ b p)).length=FQ b p:=zaC
 have hx:=(b.getD p 0).toNat_lt
 have hy:=(b.getD (p+1) 0).toNat_lt
 have hL:FQ b p=(b.getD p 0).toNat*256+(b.getD (p+1) 0).toNat:=rfl
 have hxl:x.length=FQ b p:=zaD
 have h2':=A6l (b:=b) (p:=p) zaa
 have hle:WY (FQ b p)=[b.getD p 0,b.getD (p+1) 0]:=by
  have hv:LW [b.getD p 0,b.getD (p+1) 0]=FQ b p:=by simp_all[LW]
  have:=yB [b.getD p 0,b.getD (p+1) 0] zam zaa
  rw[hv] at this
  exact this
 grind[List.drop_drop,List.take_append_drop]
theorem A4z(hp:p<=b.length)(h:U2 b p e=0):e=0/\b.drop p=[]:=by
 grind[U2]
theorem QK{x:Int}(hn:1<=n/\n<=8):BV b n x=b++Rf n (UInt64.ofInt x):=by
 unfold BV;grind
theorem OL(h:x.length<=65535):KP b x=b++WY x.length++x:=by
 unfold KP
 rw[List.take_of_length_le h,show(2:Int)=((2:Nat):Int) from rfl,QK zaa];rfl
theorem Gg:(Ie b at' e most).1.length<=b.length:=by
 grind[Ie]
theorem Uw{n:Int}:(Pz b at' e n).1.length<=b.length:=by
 grind[Pz]
theorem Ux{x:Int}(hn:1<=n/\n<=8):(BV b n x).length=b.length+n:=by simp_all[QK,L9]
theorem AC(b:List UInt8)(x:Int):(BV b 1 x).length=b.length+1:=Ux (n:=1) zaa
theorem AB(b:List UInt8)(x:Int):(BV b 2 x).length=b.length+2:=Ux (n:=2) zaa
theorem Cm(b:List UInt8)(x:Int):(BV b 3 x).length=b.length+3:=Ux (n:=3) zaa
theorem D5(b:List UInt8)(x:Int):(BV b 4 x).length=b.length+4:=Ux (n:=4) zaa
theorem AU(b:List UInt8)(x:Int):(BV b 8 x).length=b.length+8:=Ux (n:=8) zaa
theorem AO(b x:List UInt8):(KP b x).length=b.length+2+min 65535 x.length:=by simp_all[KP,AB]
theorem A2Y(b:List UInt8):BV b 1 1=b++[1]:=by rw[BV,if_neg zaa];rfl
theorem A2Z(b:List UInt8):BV b 1 0=b++[0]:=by rw[BV,if_neg zaa];rfl
theorem Gn(h:0<=most):((Ie b at' e most).1.length:Int)<=most:=by
 grind[Ie]
end Go.Ax
namespace Go.Ax
open Go Go.Eng Go.RowKit
set_option linter.unusedVariables false
set_option linter.unusedSimpArgs false
variable {b v0:List UInt8}{p0:Nat}
structure Att where
 key:List UInt8
 nonce:List UInt8
 resets:Int
 restarts:Int
 clock:Int
 safe:Bool
 updates:Int
 s0:Int
 s1:Int
 digest:List UInt8
def Oz:List UInt8:=[83,87,81,49]
def FU(a:Att):List UInt8 :=
 BV (BV (BV (BV (BV (BV (BV (KP (KP Oz a.key) a.nonce) 8 a.resets) 8 a.restarts) 8 a.clock) 1 (bif a.safe then 1 else 0)) 8 a.updates) 2 a.s0) 2 a.s1++a.digest
def P5:Att:=⟨[],[],0,0,0,false,0,0,0,[]⟩
def NE(b:List UInt8):Att×Int :=
 let h:=Pz b 0 0 4
 if h.2.2≠0 then(P5,h.2.2) else if h.1≠Oz then(P5,5) else
 let k:=Ie b h.2.1 0 32
 let o:=Ie b k.2.1 k.2.2 128
 let u:=Hr b o.2.1 o.2.2 8
 let v:=Hr b u.2.1 u.2.2 8
 let c:=Hr b v.2.1 v.2.2 8
 let s:=Hr b c.2.1 c.2.2 1
 let w:=Hr b s.2.1 s.2.2 8
 let x:=Hr b w.2.1 w.2.2 2
 let y:=Hr b x.2.1 x.2.2 2
 let d:=Pz b y.2.1 y.2.2 32
 let e:=U2 b d.2.1 d.2.2
 if e≠0 then(P5,e) else if k.1.length≠32\/1<s.1 then(P5,1) else
 (⟨k.1,o.1,u.1,v.1,c.1,s.1==1,w.1,x.1,y.1,d.1⟩,0)
def A2a(a:Att)(safe:Int):List UInt8 :=
  Oz++(WY a.key.length++a.key++(WY a.nonce.length++a.nonce++(Rf 8 (UInt64.ofInt a.resets)++(Rf 8 (UInt64.ofInt a.restarts)++(Rf 8 (UInt64.ofInt a.clock)++(Rf 1 (UInt64.ofInt safe) ++
   (Rf 8 (UInt64.ofInt a.updates)++(Rf 2 (UInt64.ofInt a.s0)++(Rf 2 (UInt64.ofInt a.s1)++(a.digest++[]))))))))))
theorem A0B(a:Att)(hk:a.key.length<=65535)(hn:a.nonce.length<=65535):FU a=A2a a (bif a.safe then 1 else 0):=by
 unfold FU A2a
 rw[show(8:Int)=((8:Nat):Int) from rfl,show(2:Int)=((2:Nat):Int) from rfl,show ∀ b x,BV b 1 x=BV b ((1:Nat):Int) x from fun _ _=>rfl]
 rw[OL hk,OL hn]
 simp only[QK (show 1<=8/\8<=8 by omega),QK (show 1<=2/\2<=8 by omega),QK (show 1<=1/\1<=8 by omega),List.append_assoc,List.append_nil]
structure OkA (a:Att):Prop where
 key:a.key.length=32
 nonce:a.nonce.length<=128
 resets:0<=a.resets/\a.resets<9223372036854775808
 restarts:0<=a.restarts/\a.restarts<9223372036854775808
 clock:0<=a.clock/\a.clock<9223372036854775808
 updates:0<=a.updates/\a.updates<9223372036854775808
 s0:0<=a.s0/\a.s0<65536
 s1:0<=a.s1/\a.s1<65536
 digest:a.digest.length=32
theorem A50{a:Att}(h:OkA a):NE (FU a)=(a,0):=by
 obtain⟨hk,hn,hr,hs,hc,hu,h0,h1,hd⟩:=h
 rw[A0B a zaa zaa]
 generalize hb:A2a a (bif a.safe then 1 else 0)=b
 have e8:(256:Nat)^8=18446744073709551616:=zal
 have e2:(256:Nat)^2=65536:=zal
 have e1:(256:Nat)^1=256:=zal
 obtain⟨q0,l0,d0⟩:=yC (b:=b) (p:=0) (n:=4) (Nat.zero_le _) (by rw[<-hb];exact rfl) rfl
 obtain⟨q1,l1,d1⟩:=YD (most:=32) l0 d0 zaa zaa
 obtain⟨q2,l2,d2⟩:=YD (most:=128) l1 d1 zaa zaa
 obtain⟨q3,l3,d3⟩:=LC l2 zaa d2 hr.1 hr.2 zaa
 obtain⟨q4,l4,d4⟩:=LC l3 zaa d3 hs.1 hs.2 zaa
 obtain⟨q5,l5,d5⟩:=LC l4 zaa d4 hc.1 hc.2 zaa
 obtain⟨q6,l6,d6⟩:=LC l5 zaa d5 (by cases a.safe<;>decide) (by cases a.safe<;>decide) (by cases a.safe<;>decide)
 obtain⟨q7,l7,d7⟩:=LC l6 zaa d6 hu.1 hu.2 zaa
 obtain⟨q8,l8,d8⟩:=LC l7 zaa d7 h0.1 zaa zaa
 obtain⟨q9,l9,d9⟩:=LC l8 zaa d8 h1.1 zaa zaa
 obtain⟨q10,l10,d10⟩:=yC l9 d9 hd
 have qe:=A2X l10 d10
 replace q0:Pz b 0 0 4=_:=q0
 replace q3:Hr b _ 0 8=_:=q3
 replace q4:Hr b _ 0 8=_:=q4
 replace q5:Hr b _ 0 8=_:=q5
 replace q6:Hr b _ 0 1=_:=q6
 replace q7:Hr b _ 0 8=_:=q7
 replace q8:Hr b _ 0 2=_:=q8
 replace q9:Hr b _ 0 2=_:=q9
 replace q10:Pz b _ 0 32=_:=q10
 unfold NE
 simp only[q0,q1,q2,q3,q4,q5,q6,q7,q8,q9,q10,qe,ne_eq,not_true_eq_false,if_false]
 rw[if_neg (by rw[hk];cases a.safe<;>decide)]
 cases a;rename_i key nonce resets restarts clock safe updates s0 s1 digest
 cases safe<;>rfl
theorem YE{v1 v2 v10:List UInt8}{v3 v4 v5 v6 v7 v8 v9 er1 er2 er3 er4 er5 er6 er7 er8 er9 er10:Int}{p1 p2 p3 p4 p5 p6 p7 p8 p9 p10:Nat}(g0:Pz b 0 0 4=(v0,p0,0))(hm:v0=Oz)(g1:Ie b p0 0 32=(v1,p1,er1))(g2:Ie b p1 er1 128=(v2,p2,er2))(g3:Hr b p2 er2 8=(v3,p3,er3))(g4:Hr b p3 er3 8=(v4,p4,er4))(g5:Hr b p4 er4 8=(v5,p5,er5))(g6:Hr b p5 er5 1=(v6,p6,er6))(g7:Hr b p6 er6 8=(v7,p7,er7))(g8:Hr b p7 er7 2=(v8,p8,er8))(g9:Hr b p8 er8 2=(v9,p9,er9))(g10:Pz b p9 er9 32=(v10,p10,er10)):
  NE b=if U2 b p10 er10≠0 then(P5,U2 b p10 er10) else if v1.length≠32\/1<v6 then(P5,1) else(⟨v1,v2,v3,v4,v5,v6==1,v7,v8,v9,v10⟩,0):=by
 simp_all[NE]
theorem A6m{er0:Int}(g0:Pz b 0 0 4=(v0,p0,er0))(h:er0≠0):NE b=(P5,er0):=by
 simp_all[NE]
theorem A6n(g0:Pz b 0 0 4=(v0,p0,0))(h:v0≠Oz):NE b=(P5,5):=by
 simp_all[NE]
end Go.Ax
namespace Go.Ax
open Go Go.RowKit Go.Eng
set_option linter.unusedVariables false
set_option linter.unusedSimpArgs false
variable (l:List UInt8)
theorem Ik{a:Int}{c:Nat}(h:c<=64):CS a c=a/2^c:=by simp_all[fP,ishr0]
theorem ZI{c:Int}(h:0<=c/\c<=62):Ci 1 (Bl c).toNat=2^c.toNat:=by
 rw[fO,MH,KX zaa];unfold ishl0
 rw[Nat.min_eq_left zaa,Int.one_mul]
 apply wrap64
 have h1:(2:Int)^c.toNat<=2^62:=by
  have:=Nat.pow_le_pow_right (n:=2) zaa (show c.toNat<=62 by omega)
  grind
 grind
theorem U3{n:Nat}(h:n<=62):Ci 1 (Bl (n:Int)).toNat=(2:Int)^n:=by
 grind[ZI]
theorem NF{α:Type}{l:List α}{n:Int}(h:0<=n/\n<=l.length):DF l 0 n=some (l.take n.toNat):=by
 simp_all[fV,lcut0]
theorem LL:(∀ {α:Type} (l:List α),Bj l=(l.length:Int))/\(∀ {α:Type} (l m:List α),BM l m=l++m)/\(∀ {α:Type} (n:Int) (a:α),BZ n a=List.replicate n.toNat a)/\(∀ {α:Type} (l m:List α),Cj l m=m.take l.length++l.drop m.length)/\(∀ {α:Type} (l:List α) (i:Int) (a:α),Bc l i a=l.set i.toNat a) /\
  (∀ {α:Type} (l m:List α),(l++m).length=l.length+m.length)/\(∀ {α:Type} (i:Nat) (l:List α),(l.take i).length=min i l.length)/\(∀ {α:Type} (i:Nat) (l:List α),(l.drop i).length=l.length-i)/\(∀ {α:Type} (a:α) (l:List α),(a::l).length=l.length+1)/\(∀ {α:Type},([]:List α).length=0)/\(∀ {α:Type} (n:Nat) (a:α),(List.replicate n a).length=n)/\(∀ {α:Type} (l:List α) (i:Nat) (a:α),(l.set i a).length=l.length)/\(∀ n:Nat,((n:Int)).toNat=n) :=
 ⟨BB,Ag,FH,Na,GG,fun _ _=>List.length_append,fun _ _=>List.length_take,fun _ _=>List.length_drop,fun _ _=>List.length_cons,List.length_nil,fun _ _=>List.length_replicate,fun _ _ _=>List.length_set,Int.toNat_natCast⟩
theorem NO:(∀ {α:Type} (l:List α),Bj l=(l.length:Int))/\(∀ {α:Type} (l m:List α),BM l m=l++m)/\(∀ {α:Type} (n:Int) (a:α),BZ n a=List.replicate n.toNat a)/\(∀ {α:Type} (l m:List α),Cj l m=m.take l.length++l.drop m.length)/\(∀ {α:Type} (l:List α) (i:Int) (a:α),Bc l i a=l.set i.toNat a) /\
  (∀ {α:Type} (l:List α),[]++l=l)/\(∀ {α:Type} (l:List α),l++[]=l)/\(∀ {α:Type} (a b c:List α),a++b++c=a++(b++c))/\(∀ {α:Type} (a:α) (b c:List α),a::b++c=a::(b++c)) :=
 ⟨BB,Ag,FH,Na,GG,List.nil_append,List.append_nil,List.append_assoc,fun _ _ _=>List.cons_append⟩
theorem IW{a:UInt32}{c:Nat}(h:c<32):Aw a c=a>>>UInt32.ofNat c:=by
 rw[kJ];unfold u32shr0;rw[Nat.min_eq_left zaa]
 apply UInt32.toNat_inj.1
 rw[UInt32.toNat_shiftRight,UInt32.toNat_ofNat',UInt32.toNat_ofNat',Nat.shiftRight_eq_div_pow]
 have h1:c%2^32%32=c:=zaa
 rw[h1]
 have h2:a.toNat/2^c<=a.toNat:=Nat.div_le_self _ _
 have h3:=a.toNat_lt
 grind
theorem A8X:[Bi (Aw (DX (Bj l)) (UInt64.ofNat 24).toNat),Bi (Aw (DX (Bj l)) (UInt64.ofNat 16).toNat),Bi (Aw (DX (Bj l)) (UInt64.ofNat 8).toNat),Bi (DX (Bj l))]=qm l:=by
 rw[IW zal,IW zal,IW zal,BB,A1d,fU];rfl
theorem rf4(h:l.length<4294967296):[ER (CS (l.length:Int) (UInt64.ofNat 24).toNat),ER (CS (l.length:Int) (UInt64.ofNat 16).toNat),ER (CS (l.length:Int) (UInt64.ofNat 8).toNat),ER (l.length:Int)]=qm l:=by
 rw[Ik zal,Ik zal,Ik zal]
 simp only[FP]
 exact A8O _ h
theorem QL(tag:Int)(ls:List (List UInt8))(i:Nat)(l:List UInt8)(h:ls[i]?=some l):Ar tag (ls.take (i+1))=Ar tag (ls.take i)++qm l++l:=by
 simp_all[Ar,fJ]
theorem dD(tag:Int)(ls:List (List UInt8))(i:Nat):(Ar tag (ls.take i)).length<=(Ar tag ls).length:=by
 grind[Ar,fieldsB,List.take_append_drop]
abbrev A8Y:Ty:=.pair .i64 (.pair .i64 (.pair .i64 (.pair (.sl .u8) (.sl .u8))))
abbrev A8Z:Ty:=.pair (.sl .u8) (.pair (.sl .u8) (.sl .u8))
abbrev objT:Ty:=.pair A8Y (.pair A8Z .i64)
abbrev Gp:Ty:=.pair .i64 (.pair .i64 (.pair .i64 (.pair .i64 (.pair (.sl .u8) (.pair (.sl .u8) (.pair .bool (.sl .u8)))))))
abbrev J8:Ty:=.pair (.sl .u8) .i64
abbrev sesT:Ty:=.pair .i64 (.pair (.sl .u8) (.pair (.sl .u8) (.pair .i64 (.pair .i64 (.pair .i64 (.pair .i64 .bool))))))
abbrev AY:Ty:=.pair .i64 (.pair (.sl .u8) (.sl .u8))
end Go.Ax
