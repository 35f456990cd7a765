/-
  Own texts, laid together for this claim: the rules that every walk uses, which claim nothing of any program.
-/
import Derived.Laws.BitsLemmas
import Derived.Test.YtnhgnfdbdflhcaaGreatDoorMgb
set_option linter.all false
namespace Go.Ax
open Go Go.RowKit Go.Eng
set_option linter.unusedVariables false
set_option linter.unusedSimpArgs false
variable {t:TypeId}{a x b:Option AV}
section
variable {R:Type}{r:R}{T:TT}{hk:Nat->Option Rs}{m:Nat}
def Le{α:Type}(K K':α->Option R)(r:R):Prop:=∀ x,K x=some r->K' x=some r
theorem Hw{K K':AV->Option R}(hK:Le K K' r):y7 a K=some r->y7 a K'=some r:=by
 unfold y7;intro h;split at h
 ·exact hK _ h
 ·cases h
theorem bind_mono{α:Type}{a:Option α}{K K':α->Option R}(hK:Le K K' r):a.bind K=some r->a.bind K'=some r:=by
 intro h
 obtain⟨x,h1,h2⟩:=Option.bind_eq_some_iff.1 h
 rw[h1];exact hK _ h2
theorem Au{c:Bool}{a a' b b':Option R}(h1:a=some r->a'=some r)(h2:b=some r->b'=some r):(bif c then a else b)=some r->(bif c then a' else b')=some r:=by
 grind
theorem TZ{y:AV}{K K':Nat->Option R}(hK:Le K K' r):O5 y K=some r->O5 y K'=some r:=by
 unfold O5
 split
 ·exact Au id (hK _)
 all_goals first|exact hK _|exact id
theorem iH{op:BinOp}{a b:UInt8}{K K':AV->Option R}(hK:Le K K' r):Ue op a b K=some r->Ue op a b K'=some r:=by
 unfold Ue;split
 ·exact Au id (hK _)
 ·exact id
theorem mX{bt e2:Bool}{en:Nat}{bs:Bool}{op:BinOp}{x y:AV}{K K':AV->Option R}(hK:Le K K' r):ZG bt e2 en bs op x y K=some r->ZG bt e2 en bs op x y K'=some r:=by
 unfold ZG
 split
 ·refine TZ fun c=>?_
  split<;>first|exact hK _|exact id
 ·refine TZ fun c=>?_
  split<;>first|exact hK _|exact id
 ·repeat' split
  all_goals first|exact hK _|exact id|exact Au id (hK _)|exact Au (hK _) id|exact Au (hK _) (Au (hK _) id)|exact Au (hK _) (Au (hK _) (iH hK))|exact Au (Au id (hK _)) id|skip
  all_goals refine Au ?_ id;split<;>first|exact hK _|exact id
theorem iI{d:Und}{x:AV}{K K':AV->Option R}(hK:Le K K' r):P7 d x K=some r->P7 d x K'=some r:=by
 unfold P7;split<;>first|exact hK _|exact id
theorem iJ{K K':Tr->Option R}(hK:Le K K' r):Uf T hk t x K=some r->Uf T hk t x K'=some r:=by
 unfold Uf
 repeat' split
 all_goals first|exact hK _|exact id|skip
 all_goals refine Au (bind_mono fun x=>?_) id
 all_goals split<;>first|exact hK _|exact id
theorem bg{y:Option (List AV)}{K K':Tr->Option R}(hK:Le K K' r):Q8 T hk t x y K=some r->Q8 T hk t x y K'=some r:=by
 unfold Q8
 repeat' split
 all_goals first|exact hK _|exact id|skip
 all_goals repeat'(first|exact hK _|exact id|exact Hw (fun x=>hK _)|exact bind_mono (fun x=>hK _)|refine Au ?_ ?_|refine bind_mono fun x=>?_|split)
theorem iK{f:Nat}{K K':Tr->Option R}(hK:Le K K' r):Ug T t x f K=some r->Ug T t x f K'=some r:=by
 unfold Ug
 repeat' split
 all_goals first|exact hK _|exact id|skip
 all_goals repeat'(first|exact hK _|exact id|exact Hw (fun x=>hK _)|exact bind_mono (fun x=>hK _)|refine Au ?_ ?_|refine bind_mono fun x=>?_|split)
theorem iL{ev:Operand->Option AV}{n:Nat}{ps:List (Nat×Operand)}{K K':Tr->Option R}(hK:Le K K' r):Uh T ev hk m t n ps K=some r->Uh T ev hk m t n ps K'=some r:=by
 unfold Uh
 repeat' split
 all_goals first|exact hK _|exact id|skip
 all_goals repeat'(first|exact hK _|exact id|exact Hw (fun x=>hK _)|exact bind_mono (fun x=>hK _)|refine Au ?_ ?_|refine bind_mono fun x=>?_|split)
theorem ve{l c:Option AV}{K K':Tr->Option R}(hK:Le K K' r):uu T m t l c K=some r->uu T m t l c K'=some r:=by
 unfold uu
 simp only[TF]
 repeat' split
 all_goals first|exact hK _|exact id|skip
 all_goals repeat'(first|exact hK _|exact id|exact Hw (fun x=>hK _)|exact bind_mono (fun x=>hK _)|refine Au ?_ ?_|refine bind_mono fun x=>?_|split)
theorem mY{j:Option Int}{K K':Tr->Option R}(hK:Le K K' r):ZH T hk t x j K=some r->ZH T hk t x j K'=some r:=by
 unfold ZH A42
 repeat' split
 all_goals first|exact hK _|exact id|skip
 all_goals repeat'(first|exact hK _|exact id|exact Hw (fun x=>hK _)|exact bind_mono (fun x=>hK _)|refine Au ?_ ?_|refine bind_mono fun x=>?_|split)
theorem vg{j:Option Int}{K K':Tr->Option R}(hK:Le K K' r):uw T t x j K=some r->uw T t x j K'=some r:=by
 unfold uw
 repeat' split
 all_goals first|exact hK _|exact id|skip
 all_goals repeat'(first|exact hK _|exact id|exact Hw (fun x=>hK _)|exact bind_mono (fun x=>hK _)|refine Au ?_ ?_|refine bind_mono fun x=>?_|split)
theorem mZ{x:AV}{F:Fp}{lo:Int}{hi mx:Option (Option Int)}{K K':Tr->Option R}(hK:Le K K' r):ZI T t x F lo hi mx K=some r->ZI T t x F lo hi mx K'=some r:=by
 unfold ZI
 repeat' split
 all_goals first|exact hK _|exact id|skip
 all_goals repeat'(first|exact hK _|exact id|exact Hw (fun x=>hK _)|exact bind_mono (fun x=>hK _)|refine Au ?_ ?_|refine bind_mono fun x=>?_|split)
theorem mf{K K':Tr->Option R}(hK:Le K K' r):ZJ T t hk x K=some r->ZJ T t hk x K'=some r:=by
 unfold ZJ
 repeat' split
 all_goals first|exact hK _|exact id|skip
 all_goals repeat'(first|exact hK _|exact id|exact Hw (fun x=>hK _)|exact bind_mono (fun x=>hK _)|refine Au ?_ ?_|refine bind_mono fun x=>?_|split)
theorem mg{b:Option (AV×Fp)}{K K':Tr->Option R}(hK:Le K K' r):ZK T hk m t a b K=some r->ZK T hk m t a b K'=some r:=by
 unfold ZK
 simp only[TF]
 repeat' split
 all_goals first|exact hK _|exact id|skip
 all_goals repeat'(first|exact hK _|exact id|exact Hw (fun x=>hK _)|exact bind_mono (fun x=>hK _)|refine Au ?_ ?_|refine bind_mono fun x=>?_|split)
theorem iM{K K':Tr->Option R}(hK:Le K K' r):Uk T hk m t a b K=some r->Uk T hk m t a b K'=some r:=by
 unfold Uk
 simp only[ED]
 repeat' split
 all_goals first|exact hK _|exact id|skip
 all_goals repeat'(first|exact hK _|exact id|refine Au ?_ ?_|split)
theorem iO{K K':Tr->Option R}(hK:Le K K' r):Ui T hk t x K=some r->Ui T hk t x K'=some r:=by
 unfold Ui
 repeat' split
 all_goals first|exact hK _|exact id|skip
 all_goals repeat'(first|exact hK _|exact id|refine Au ?_ ?_|split)
theorem iP{lo:Int}{hi:Option (Option Int)}{K K':Tr->Option R}(hK:Le K K' r):Uj T hk t x lo hi K=some r->Uj T hk t x lo hi K'=some r:=by
 unfold Uj
 repeat' split
 all_goals first|exact hK _|exact id|skip
 all_goals repeat'(first|exact hK _|exact id|refine Au ?_ ?_|split)
theorem iQ{t':TypeId}{K K':Tr->Option R}(hK:Le K K' r):Ul T hk m t t' a b K=some r->Ul T hk m t t' a b K'=some r:=by
 unfold Ul
 repeat' split
 all_goals first|exact hK _|exact id|skip
 all_goals repeat'(first|exact hK _|exact id|refine Au ?_ ?_|split)
theorem iR{t':TypeId}{K K':Tr->Option R}(hK:Le K K' r):Um T hk m t t' a b K=some r->Um T hk m t t' a b K'=some r:=by
 unfold Um
 repeat' split
 all_goals first|exact hK _|exact id|skip
 all_goals repeat'(first|exact hK _|exact id|refine Au ?_ ?_|split)
theorem mi{b:Option (AV×Fp)}{K K':Tr->Option R}(hK:Le K K' r):ZL T hk t a b K=some r->ZL T hk t a b K'=some r:=by
 unfold ZL
 repeat' split
 all_goals first|exact hK _|exact id|skip
 all_goals repeat'(first|exact hK _|exact id|exact Hw (fun x=>hK _)|exact bind_mono (fun x=>hK _)|refine Au ?_ ?_|refine bind_mono fun x=>?_|split)
theorem vk{ev:Operand->Option AV}{op:Op}{K K':Tr->Option R}(hK:Le K K' r):uy T ev hk m op K=some r->uy T ev hk m op K'=some r:=by
 unfold uy
 split
 all_goals first|exact iJ hK|exact bg hK|exact iK hK|exact iL hK|exact ve hK|exact mY hK|exact vg hK|exact Hw (fun x=>hK _)|skip
 all_goals repeat'(first|exact hK _|exact id|exact Hw (fun x=>hK _)|exact mf hK|exact iO hK|exact mg hK|exact iM hK|exact iQ hK|exact iR hK|exact iP hK|exact mi hK|exact mZ hK|exact mX (fun x=>hK _)|exact iI (fun x=>hK _)|refine Au ?_ ?_|split)
end
end Go.Ax
namespace Go.Ax
noncomputable section
open Go Go.RowKit Go.Eng
set_option linter.unusedVariables false
set_option linter.unusedSimpArgs false
abbrev Orc:=Req->Option Rsp
def ZV(Q Q':Orc):Prop:=∀ q r,Q q=some r->Q' q=some r
section
variable {R:Type}{r:R}{T:TT}{G:FT}{hk:Nat->Option Rs}{m:Nat}{Q Q':Orc}
theorem Tc(hQ:ZV Q Q'){ro:Bool}{f:Nat}{vs:Fp}{al:List AV}{ks:List Nat}{K K':Tr->Option R}(hK:Le K K' r):TG ro Q hk m f vs al ks K=some r->TG ro Q' hk m f vs al ks K'=some r:=by
 unfold TG
 split
 ·refine Au ?_ id
  simp only[Gw,Rk]
  intro h
  obtain⟨x,h1,h2⟩:=Option.bind_eq_some_iff.1 h
  rw[hQ _ _ h1]
  simp only[Option.bind_some]
  revert h2
  split
  ·exact Au (Au (Au (hK _) id) (Au (hK _) (hK _))) id
  ·exact id
 ·exact id
theorem iT(hQ:ZV Q Q'){fx:Option AV}{args:Option (List AV)}{K K':Tr->Option R}(hK:Le K K' r):Uo G Q hk m fx args K=some r->Uo G Q' hk m fx args K'=some r:=by
 unfold Uo
 split
 ·split
  ·simp only[Gw,TJ,EW]
   exact Au (Tc hQ hK) (Tc hQ hK)
  ·exact id
 ·exact id
theorem EP(hQ:ZV Q Q'){ev:Operand->Option AV}{op:Op}{K K':Tr->Option R}(hK:Le K K' r):IG T G Q ev hk m op K=some r->IG T G Q' ev hk m op K'=some r:=by
 unfold IG
 grind[iT,vk]
theorem EQ{d:Option Nat}{t:Tr}{L:LX}{H:HX}{K K':Nat->LX->HX->Option R}(hK:∀ m L H,K m L H=some r->K' m L H=some r):IQ d t m L H K=some r->IQ d t m L H K'=some r:=by
 simp_all[TV]
theorem mr(hQ:ZV Q Q'){n:Nat}{ops:List Oper}{r:Rsp}:∀(l:List Oper) {m:Nat} {L:LX} {H:HX} {K K':Nat->LX->HX->Option Rsp},(∀ m L H,K m L H=some r->K' m L H=some r)->Ih T G Q n ops l m L H K=some r->Ih T G Q' n ops l m L H K'=some r:=by
 intro l
 induction l with
 | nil=>intro m L H K K' hK;exact hK _ _ _
 | cons o l ih =>
  intro m L H K K' hK
  rw[Ih,Ih]
  split
  ·exact Au (EP hQ fun t=>EQ fun m L H=>ih hK) id
  ·split
   ·split
    ·refine Au (Au (Au (EP hQ fun t=>EQ fun m L H=>ih hK) (ih hK)) (Au (ih hK) (EP hQ fun t=>EQ fun m L H=>ih hK))) id
    ·exact Au (ih hK) id
    ·exact id
   ·exact id
theorem nC(hQ:ZV Q Q'){ops:List Oper}:∀(l:List Oper) {tr:List Tr} {m:Nat} {L:LX} {H:HX} {K K':List Tr->Nat->LX->HX->Option R},(∀ tr m L H,K tr m L H=some r->K' tr m L H=some r)->II T G Q ops l tr m L H K=some r->II T G Q' ops l tr m L H K'=some r:=by
 intro l
 induction l with
 | nil=>intro tr m L H K K' hK;exact hK _ _ _ _
 | cons o l ih =>
  intro tr m L H K K' hK
  rw[II,II]
  simp only[EW,Ec]
  split
  ·exact EP hQ fun t=>EQ fun m L H=>ih hK
  ·split
   ·split
    ·refine Au (Au (EP hQ fun t=>EQ fun m L H=>ih hK) (ih hK)) (Au (ih hK) (EP hQ fun t=>EQ fun m L H=>ih hK))
    ·exact ih hK
    ·exact id
   ·exact id
theorem nD{keep:List Nat}{n0:Nat}{L:LX}{H:HX}{K K':Nat->LX->HX->Option R}(hK:∀ m L H,K m L H=some r->K' m L H=some r):canon keep n0 L H K=some r->canon keep n0 L H K'=some r:=by
 unfold canon
 simp only[Ec,EW,I4,ED]
 grind
theorem Gg{E:Plc}{n0 m:Nat}{L:LX}{H:HX}{K K':Nat->LX->HX->Option R}(hK:∀ m L H,K m L H=some r->K' m L H=some r):NJ E n0 m L H K=some r->NJ E n0 m L H K'=some r:=by
 unfold NJ
 refine mQ (Z:=fun a b=>a=some r->b=some r) E.nils fun m L H=>A2K (Z:=fun a b=>a=some r->b=some r) fun L H=>?_
 grind[nD]
theorem NZ(hQ:ZV Q Q'){n f n0:Nat}{keep:List (Plc×Plc)}{r:Rsp}:∀(c:Code) {k m:Nat} {L:LX} {H:HX} {K K':Exit->Nat->LX->HX->Option Rsp},(∀ e m L H,K e m L H=some r->K' e m L H=some r)->Oc T G Q n f n0 keep c k m L H K=some r->Oc T G Q' n f n0 keep c k m L H K'=some r:=by
 intro c
 induction c with
 | skip|label l|exit id|ret=>intro k m L H K K' hK;exact hK _ _ _ _
 | seq a b iha ihb =>
  grind[Oc]
 | cond x a b iha ihb =>
  intro k m L H K K' hK
  rw[Oc,Oc]
  grind
 | block id c ih =>
  intro k m L H K K' hK
  rw[Oc,Oc]
  grind
 | region id ops b =>
  intro k m L H K K' hK
  cases b with
  | false=>grind[Oc,Gg,mr]
  | true=>rw[Oc,Oc];exact Gg fun m L H=>nC hQ _ fun tr m L H=>Au (hK _ _ _ _) _root_.id
 | loop c ih =>
  intro k m L H K K' hK
  rw[Oc,Oc,ED,ED,Nat.zero_add]
  split
  ·refine Gg fun m L H h=>?_
   obtain⟨x,h1,h2⟩:=Option.bind_eq_some_iff.1 h
   rw[hQ _ _ h1]
   grind
  ·exact id
 | _=>simp_all[Oc]
end
abbrev CT:=List (Nat×Func)
def y9(k:Nat):CT->Option Func
 | []=>none
 | (d,v)::H=>bif Nat.beq k d then some v else y9 k H
structure Env where
 T:TT
 G:FT
 C:CT
 ov:Orc
def PL(E:Env)(Q:Orc)(q:Req):Option Rsp:=match E.ov q with
 | some r=>some r
 | none=>match q with
  | .call f args H=>(match y9 f E.C,WH f E.G with
   | some fn,some fi=>(match fn.body with
    | some c=>bif Nat.ble args.length fn.ntmps then addN 0 H.length fun n0=>Oc E.T E.G Q fn.ntmps f n0 fi.keep c 0 n0 (argX 0 args) (hOf 0 H) fun e m L H'=>(match e with
      | .normal|.ret=>A49 E.T fi n0 fn.results.toList m L H'
      | _=>none)
     else none
    | none=>none)
   | _,_=>none)
  | .loop f k n0 m L H=>(match y9 f E.C,WH f E.G with
   | some fn,some fi=>(match fn.body,fi.keep[k]? with
    | some c,some kp=>(match F9 c k with
     | some b=>Oc E.T E.G Q fn.ntmps f n0 fi.keep b (k+1) m L H fun e m L H=>(match e with
      | .normal=>NJ kp.1 n0 m L H fun m L H=>Q (.loop f k n0 m L H)
      | e=>NJ kp.2 n0 m L H fun m L H=>some (.fin e m L H))
     | none=>none)
    | _,_=>none)
   | _,_=>none)
theorem nG(E:Env){Q Q':Orc}(hQ:ZV Q Q'):ZV (PL E Q) (PL E Q'):=by
 intro q r
 unfold PL
 split
 ·exact id
 ·split
  ·split
   ·split
    ·simp only[ED]
     refine Au (NZ hQ _ fun e m L H=>?_) id
     exact id
    ·exact id
   ·exact id
  ·split
   ·split
    ·split
     ·refine NZ hQ _ fun e m L H=>?_
      cases e<;>first|exact Gg fun m L H=>hQ _ _|exact id
     ·exact id
    ·exact id
   ·exact id
def F(E:Env)(q:Req):Option Rsp:=PL E (F E) q
partial_fixpoint monotonicity by
 intro F1 F2 h q
 have hQ:ZV F1 F2:=fun q r hq=>by
  have hr:=h q
  generalize F2 q=z at hr ⊢
  generalize F1 q=y at hr hq
  subst hq
  cases hr
  rfl
 have hm:=nG E hQ q
 dsimp only
 generalize PL E F2 q=z at hm ⊢
 generalize PL E F1 q=y at hm ⊢
 cases y with
 | none=>exact .bot
 | some r=>grind
def A4A(P:Program)(I:World->Prop)(E:Env)(q:Req)(r:Rsp):Prop:=match q,r with
 | .call f args Hin,.ret s H=>bJ P I f args Hin s H
 | .loop f k n0 m L H,.fin e m' L' H'=>∀ fn c b,y9 f E.C=some fn->fn.body=some c->F9 c k=some b->A58 P I fn.ntmps b n0 m L H e m' L' H'
 | _,_=>True
structure EnvOK (P:Program) (I:World->Prop) (E:Env):Prop where
 hT:TTok P I E.T
 hG:bM P E.G
 hC:∀ f fn,y9 f E.C=some fn->P.funcs[f]?=some fn
 hx:P.follows .mixedOrders=true
 ov:∀ q r,E.ov q=some r->A4A P I E q r
theorem ZW:∀(c:Code) {k:Nat} {b:Code},F9 c k=some b->k<DN c:=by
 intro c
 induction c with
 | seq x y ihx ihy =>
  grind[F9,DN]
 | cond t x y ihx ihy =>
  grind[F9,DN]
 | block id x ih=>intro k b h;exact ih h
 | loop x ih =>
  grind[F9,DN,Gs]
 | _=>intro k b h;cases h
theorem vz:∀(c:Code) {k:Nat} {b:Code},F9 c k=some b->∀ j c',F9 b j=some c'->F9 c (k+1+j)=some c':=by
 intro c
 induction c with
 | seq x y ihx ihy =>
  intro k b h j c' hj
  simp only[F9] at h ⊢
  cases hb:Nat.blt k (DN x) with
  | true =>
   rw[hb] at h
   have h1:=ihx h j c' hj
   have:Nat.blt (k+1+j) (DN x)=true:=by simpa using ZW x h1
   grind
  | false =>
   rw[hb] at h
   have hk:DN x<=k:=by
    rcases Nat.lt_or_ge k (DN x) with h1|h1
    ·have:Nat.blt k (DN x)=true:=by simpa using h1
     simp_all
    ·exact h1
   have:Nat.blt (k+1+j) (DN x)=false:=zbg
   rw[this]
   have h1:=ihy h j c' hj
   rw[show k+1+j-DN x=k-DN x+1+j from by omega];exact h1
 | cond t x y ihx ihy =>
  intro k b h j c' hj
  simp only[F9] at h ⊢
  cases hb:Nat.blt k (DN x) with
  | true =>
   rw[hb] at h
   have h1:=ihx h j c' hj
   have:Nat.blt (k+1+j) (DN x)=true:=by simpa using ZW x h1
   grind
  | false =>
   rw[hb] at h
   have hk:DN x<=k:=by
    rcases Nat.lt_or_ge k (DN x) with h1|h1
    ·have:Nat.blt k (DN x)=true:=by simpa using h1
     simp_all
    ·exact h1
   have:Nat.blt (k+1+j) (DN x)=false:=zbg
   rw[this]
   have h1:=ihy h j c' hj
   rw[show k+1+j-DN x=k-DN x+1+j from by omega];exact h1
 | block id x ih=>intro k b h j c' hj;exact ih h j c' hj
 | loop x ih =>
  intro k b h j c' hj
  simp only[F9] at h ⊢
  have h0:Nat.beq (k+1+j) 0=false:=by simp_all[Bool.eq_false_iff]
  rw[h0]
  cases hb:Nat.beq k 0 with
  | true =>
   simp_all
  | false =>
   rw[hb] at h
   have hk:k≠0:=fun e=>zaB
   have:=ih h j c' hj
   rw[show k+1+j-1=k-1+1+j from by omega];exact this
 | _=>intro k b h;cases h
section
variable {P:Program}{I:World->Prop}{E:Env}
theorem A5u(h:EnvOK P I E):∀ q r,F E q=some r->A4A P I E q r:=by
 refine F.partial_correctness E _ fun Q hQ q r hr=>?_
 have hq:QOK P I Q:=fun f args Hin s H h=>hQ _ _ h
 cases ho:E.ov q with
 | some r' =>
  simp only[PL,ho] at hr
  obtain rfl:=Option.some.inj hr
  exact h.ov _ _ ho
 | none =>
  cases q with
  | call f args H =>
   simp only[PL,ho] at hr
   split at hr
   ·rename_i fn fi hc hfi
    split at hr
    ·rename_i c hb
     cases hlen:Nat.ble args.length fn.ntmps with
     | false=>simp_all
     | true =>
      rw[hlen] at hr
      simp only[cond_true,ED,Nat.zero_add] at hr
      have hS:∀ s Hout,r=.ret s Hout->bJ P I f args H s Hout:=by
       rintro s Hout rfl
       refine A2O (fi:=fi) h.hT (h.hC _ _ hc) hb hlen fun g hg=>?_
       refine zt (tab:=fun j=>F9 c j) h.hT h.hG hq h.hx hg (fun k b m L H' e m' L' H'' hk hl=>?_) c 0 _ _ _ _ _ (fun j c' hj _=>by simp_all) hr (fun e m L H' hK=>?_)
       ·exact hQ _ _ hl fn c b hc hb hk
       grind
      cases r with
      | ret s Hout=>exact hS s Hout rfl
      | fin e m L H=>trivial
    ·cases hr
   ·cases hr
  | loop f k n0 m L H =>
   simp only[PL,ho] at hr
   split at hr
   ·rename_i fn fi hc hfi
    split at hr
    ·rename_i c kp hb hkp
     split at hr
     ·rename_i b hk
      cases r with
      | ret s Hout=>trivial
      | fin e m' L' H' =>
       intro fn' c' b' hc' hb' hk'
       rw[hc] at hc';obtain rfl:=Option.some.inj hc'
       rw[hb] at hb';obtain rfl:=Option.some.inj hb'
       rw[hk] at hk';obtain rfl:=Option.some.inj hk'
       intro g hg a w ν S
       refine Qk.unroll ?_
       have hfs:=zt (n:=fn.ntmps) (f:=f) (keep:=fi.keep) (tab:=fun j=>F9 c j) (Φ:=fun e1 m1 L1 H1=>(match e1 with
        | .normal=>NJ kp.1 n0 m1 L1 H1 fun m L H=>Q (.loop f k n0 m L H)
        | e=>NJ kp.2 n0 m1 L1 H1 fun m L H=>some (Rsp.fin e m L H))=some (Rsp.fin e m' L' H')) h.hT h.hG hq h.hx hg (fun k b m L H' e m' L' H'' hk hl=>hQ _ _ hl fn c b hc hb hk) b (k+1) m L H _ (fun j c' hj _=>vz c hk j c' hj) hr (fun e m L H' hK=>hK) a w ν S
       have out:∀(e1:Exit) m1 L1 H1 a1 w1 ν1,(NJ kp.2 n0 m1 L1 H1 fun m L H=>some (Rsp.fin e1 m L H))=some (Rsp.fin e m' L' H')->Iu I fn.ntmps g m1 L1 H1 a1 w1 ν1->fP I fn.ntmps g (fun e1 m1 L1 H1=>e1=e/\m1=m'/\L1=L'/\H1=H') e1 a1 w1:=by
        intro e1 m1 L1 H1 a1 w1 ν1 hc1 S1
        obtain⟨m2,L2,H2,ν2,g1,g2⟩:=QI hg S1 hc1
        simp only[Option.some.injEq,Rsp.fin.injEq] at g1
        obtain⟨rfl,rfl,rfl,rfl⟩:=g1
        exact⟨_,_,_,_,⟨rfl,rfl,rfl,rfl⟩,g2⟩
       refine wp_mono hfs ?_
       rintro e1 a1 w1 ⟨m1,L1,H1,ν1,q,S1⟩
       cases e1 with
       | normal =>
        obtain⟨m2,L2,H2,ν2,g1,g2⟩:=QI hg S1 q
        exact hQ _ _ g1 fn c b hc hb hk g hg a1 w1 _ g2
       | _=>exact out _ _ _ _ _ _ _ q S1
     ·cases hr
    ·cases hr
   ·cases hr
theorem A4B(h:EnvOK P I E){f:FuncId}{args:List AV}{Hin:List Rs}{s:AV}{Hout:List (Option Rs)}(hF:F E (.call f args Hin)=some (.ret s Hout)):bJ P I f args Hin s Hout:=A5u h _ _ hF
end
end
end Go.Ax
namespace Go.Ax
open Go Go.RowKit Go.Eng
set_option linter.unusedVariables false
set_option linter.unusedSimpArgs false
variable {P:Program}
def A4C:AV->AV->Bool
 | .un,.un=>true
 | .b x,.b y=>x==y
 | .i x,.i y|.u8 x,.u8 y|.u32 x,.u32 y|.u64 x,.u64 y|.str x,.str y=>decide (x=y)
 | .nil,.nil=>true
 | _,_=>false
theorem A2P{a b:AV}(h:A4C a b=true):a=b:=by
 unfold A4C at h
 grind
def sH:List AV->List AV->Bool
 | [],[]=>true
 | a::l,b::m=>A4C a b&&sH l m
 | _,_=>false
theorem iU:∀ {a b:List AV},sH a b=true->a=b
 | [],[],_=>rfl
 | a::l,b::m,h=>by simp only[sH,Bool.and_eq_true] at h;rw[A2P h.1,iU h.2]
 | [],_::_,h|_::_,[],h=>zaU
def A59(P:Program)(t:TypeId)(i:TI):Bool:=match i.u,P.underlying t with
 | .bool,some .bool|.i64,some (.int .i64)|.u8,some (.int .u8)|.u32,some (.int .u32)|.u64,some (.int .u64)|.str,some .string=>true
 | .sl e,some (.slice e')=>Nat.beq e e'
 | .fld pl sc,some (.struct _)=>(match XF P t,vC P t with|some pl',some sc'=>decide (pl'=pl)&&decide (sc'=sc)|_,_=>false)
 | .arr n e,some (.array n' e')=>Nat.beq n n'&&Nat.beq e e'
 | .ptr e,some (.pointer e')=>Nat.beq e e'
 | .oth,some d=>Nw d
 | _,_=>false
def A5A(P:Program)(t:TypeId)(i:TI):Bool:=match P.info? t with
 | some ti=>(match ti.zero with
  | some z=>sH (z.cells.toList.map AV.of) i.zero&&Nat.beq z.cells.size i.size&&z.cells.toList.all (·.oneCell')
  | none=>false)&&Nat.beq ti.size i.size&&Nat.beq ti.bytes i.bytes&&Nat.blt 0 i.bytes
 | none=>false
def A5B(P:Program)(t:TypeId):Bool:=match P.underlying t with
 | some (.array n e)=>Nat.beq n 2&&(match P.underlying e with|some (.int .i64)=>true|_=>false)&&(match P.info? e with|some i=>Nat.beq i.size 1|none=>false) && !P.eqGuardType P.depth t
 | _=>false
def A4D(P:Program)(t:TypeId)(n:Nat):Bool:=match P.underlying t with
 | some (.struct fs) => !P.stoodInHeld t&&fs.toList.all (fun f=>(match decEq f.name "_" with|isTrue _=>false|isFalse _=>true)&&(match P.underlying f.type with|some (.int .i64)=>true|_=>false))&&decide (fs.toList.map (·.offset)=List.range' 0 n) && !P.eqGuardType P.depth t
 | _=>false
theorem A2Q{t:TypeId}{n:Nat}(h:A4D P t n=true):E6 P t n:=by
 unfold A4D at h
 split at h
 ·rename_i fs hu
  simp only[Bool.and_eq_true,Bool.not_eq_true',decide_eq_true_eq,List.all_eq_true] at h
  obtain⟨⟨⟨h1,h2⟩,h3⟩,h4⟩:=h
  have hfs:P.fieldsOf t=fs:=by unfold Program.fieldsOf;rw[hu]
  refine⟨by rw[hfs];exact hu,h1,fun f hf=>?_,by rw[hfs];exact h3,h4⟩
  rw[hfs] at hf
  obtain⟨h5,h6⟩:=h2 f hf
  refine⟨?_,?_⟩
  ·split at h5
   ·cases h5
   ·assumption
  ·split at h6
   ·assumption
   ·cases h6
 ·cases h
def A4E(P:Program)(t:TypeId)(i:TI):Bool:=A59 P t i&&A5A P t i&&(match i.ty with|some τ=>Nat.beq τ.n i.size|none=>true)&&(!i.eq2||A5B P t)&&(!Nat.blt 0 i.eqn||A4D P t i.eqn)
theorem A2R{t:TypeId}{i:TI}(h:A4E P t i=true):TOK P t i:=by
 simp only[A4E,Bool.and_eq_true] at h
 obtain⟨⟨⟨⟨h1,h2⟩,h3⟩,h4⟩,hq⟩:=h
 have hq:0<i.eqn->E6 P t i.eqn:=fun h0=>by
  have h0:Nat.blt 0 i.eqn=true:=by simpa using h0
  rw[h0] at hq
  exact A2Q (by simpa using hq)
 have hu:(match i.u with
  | .bool=>P.underlying t=some .bool
  | .i64=>P.underlying t=some (.int .i64)
  | .u8=>P.underlying t=some (.int .u8)
  | .u32=>P.underlying t=some (.int .u32)
  | .u64=>P.underlying t=some (.int .u64)
  | .str=>P.underlying t=some .string
  | .sl el=>P.underlying t=some (.slice el)
  | .fld pl sc=>XF P t=some pl/\vC P t=some sc
  | .arr n el=>P.underlying t=some (.array n el)
  | .ptr el=>P.underlying t=some (.pointer el)
  | .oth=>∃ d,P.underlying t=some d/\Nw d=true):=by
  unfold A59 at h1
  split at h1
  case _ hu hp=>rw[hu];exact hp
  case _ hu hp=>rw[hu];exact hp
  case _ hu hp=>rw[hu];exact hp
  case _ hu hp=>rw[hu];exact hp
  case _ hu hp=>rw[hu];exact hp
  case _ hu hp=>rw[hu];exact hp
  case _ hu hp=>rw[hu];simp only;rw[Gs h1];exact hp
  case _ hu hp =>
   rw[hu]
   simp only
   split at h1
   ·rename_i pl' sc' e1 e2
    simp only[Bool.and_eq_true,decide_eq_true_eq] at h1
    exact⟨e1.trans (by rw[h1.1]),e2.trans (by rw[h1.2])⟩
   ·cases h1
  case _ hu hp =>
   rw[hu]
   simp only
   simp only[Bool.and_eq_true] at h1
   rw[Gs h1.1,Gs h1.2];exact hp
  case _ hu hp=>rw[hu];simp only;rw[Gs h1];exact hp
  case _ hu hp=>rw[hu];exact⟨_,hp,h1⟩
  case _=>cases h1
 unfold A5A at h2
 split at h2
 ·rename_i ti hi
  simp only[Bool.and_eq_true] at h2
  obtain⟨⟨⟨h5,h6⟩,h7⟩,h8⟩:=h2
  split at h5
  ·rename_i z hz
   simp only[Bool.and_eq_true] at h5
   obtain⟨⟨h9,h10⟩,h11⟩:=h5
   refine⟨hu,by rw[hi];simp only[Option.map_some,Gs h6],⟨z,?_,iU h9,Gs h10,h11,by simpa using h8⟩,fun τ hτ=>?_,fun he=>?_,hq⟩
   ·rw[hi];simp only[Option.map_some,hz,Gs h6,Gs h7]
   ·rw[hτ] at h3;exact Gs h3
   ·rw[he] at h4
    simp only[Bool.not_true,Bool.false_or] at h4
    unfold A5B at h4
    split at h4
    ·rename_i n e hp
     simp only[Bool.and_eq_true,Bool.not_eq_true'] at h4
     obtain⟨⟨⟨g1,g2⟩,g3⟩,g4⟩:=h4
     split at g2
     ·rename_i g2'
      split at g3
      ·rename_i ie g3'
       have hs:=Gs g3
       refine⟨e,by rw[hp,Gs g1],g2',by rw[g3'];simp only[Option.map_some,hs],by simp[Program.cellsOf,g3',hs],g4⟩
      ·cases g3
     ·cases g2
    ·cases h4
  ·cases h5
 ·cases h2
def ttB(P:Program):TT->Bool
 | []=>true
 | (t,i)::r=>A4E P t i&&ttB P r
theorem A04{P:Program}:∀ {T:TT},ttB P T=true->∀ t i,TE t T=some i->TOK P t i
 | [],_,t,i,h=>zaU
 | (d,v)::r,h,t,i,ht=>by
  simp only[ttB,Bool.and_eq_true] at h
  simp only[TE] at ht
  cases hb:Nat.beq t d with
  | true=>grind[Gs,A2R]
  | false=>rw[hb] at ht;exact A04 h.2 t i ht
inductive CTok (P:Program):CT->Prop
 | nil:CTok P []
 | cons {d:Nat} {v:Func} {C:CT}:P.funcs[d]?=some v->CTok P C->CTok P ((d,v)::C)
theorem CTok.get{C:CT}(h:CTok P C):∀ f fn,y9 f C=some fn->P.funcs[f]?=some fn:=by
 induction h with
 | nil=>intro f fn h;cases h
 | @cons d v C h1 _ ih =>
  grind[y9,Gs]
inductive EntL (P:Program):FT->Prop
 | nil:EntL P []
 | cons {d:Nat} {v:FI} {C:FT}:Ent P d->EntL P C->EntL P ((d,v)::C)
theorem A2S{G:FT}(h:EntL P G):bM P G:=by
 induction h with
 | nil=>intro f fn h;cases h
 | @cons d v C h1 _ ih =>
  intro f fn h
  simp only[WH] at h
  cases hb:Nat.beq f d with
  | true=>simp_all
  | false=>rw[hb] at h;exact ih f fn h
end Go.Ax
namespace Go.Ax
open Go Go.RowKit Go.Eng
set_option linter.unusedVariables false
set_option linter.unusedSimpArgs false
variable {a:Int}{α:Type}{b i:Int}(l:List α)
theorem wrap64{n:Int}(h : -9223372036854775808<=n/\n<=9223372036854775807):IntKind.i64.wrap n=n:=by
 have e1:(2:Int)^IntKind.i64.bits=18446744073709551616:=rfl
 have e2:(2:Int)^(IntKind.i64.bits-1)=9223372036854775808:=rfl
 have e3:IntKind.i64.signed=true:=rfl
 unfold IntKind.wrap
 grind
theorem Aw(h : -9223372036854775808<=a+b/\a+b<=9223372036854775807):Cj a b=a+b:=by rw[yT];exact wrap64 h
theorem Ce(h : -9223372036854775808<=a-b/\a-b<=9223372036854775807):Dt a b=a-b:=by rw[yU];exact wrap64 h
theorem GR(h : -9223372036854775808<=a*b/\a*b<=9223372036854775807):D9 a b=a*b:=by rw[yV];exact wrap64 h
theorem Ei(h:0<=a/\a<=9223372036854775807/\1<=b):DT a b=a/b:=by
 have h1:a.tdiv b=a/b:=Int.tdiv_eq_ediv_of_nonneg h.1
 rw[yX];unfold iquo0;rw[h1]
 have h2:0<=a/b:=Int.ediv_nonneg h.1 zaa
 have h3:a/b<=a:=Int.ediv_le_self _ h.1
 grind[wrap64]
theorem Ez(h:0<=a):DK a b=a%b:=by rw[aV];exact Int.tmod_eq_emod_of_nonneg h
theorem Td(h : -9223372036854775807<=a/\a<=9223372036854775807):Du a = -a:=by rw[yY];exact wrap64 zaa
theorem Tf(h : -9223372036854775808<=a/\a<=9223372036854775807):Dv a=a:=by rw[yf];exact wrap64 h
theorem ER(h:a=b):Ey a b=true:=by simp[TC,ieq0,h]
theorem AA(h:a≠b):Ey a b=false:=by simp[TC,ieq0,h]
theorem Fa(h:a≠b):Fh a b=true:=by simp[Va,ine0,h]
theorem EC(h:a=b):Fh a b=false:=by simp[Va,ine0,h]
theorem ET(h:a<b):FD a b=true:=by simp[OZ,ilt0,h]
theorem G8(h:b<=a):FD a b=false:=by simp[OZ,ilt0];omega
theorem Gj(h:a<=b):Et a b=true:=by simp[NR,ile0,h]
theorem Ql(h:b<a):Et a b=false:=by simp[NR,ile0];omega
theorem Xd(h:Ey a b=true):a=b:=by simpa [TC,ieq0] using h
theorem Xe(h:Ey a b=false):a≠b:=by simpa [TC,ieq0] using h
theorem Xf(h:Fh a b=true):a≠b:=by simpa [Va,ine0] using h
theorem Xg(h:Fh a b=false):a=b:=by simpa [Va,ine0] using h
theorem Iy(h:FD a b=true):a<b:=by simpa [OZ,ilt0] using h
theorem Iz(h:FD a b=false):b<=a:=by simpa [OZ,ilt0] using h
theorem iV(h:Et a b=true):a<=b:=by simpa [NR,ile0] using h
theorem iW(h:Et a b=false):b<a:=by simpa [NR,ile0] using h
theorem BF:Be l=(l.length:Int):=by rw[lh];rfl
theorem Aa(m:List α):BI l m=l++m:=by rw[ae];rfl
theorem WS(m:List α):D6 l m=m.take l.length++l.drop m.length:=by rw[yw];rfl
theorem Fz(n:Int)(a:α):Bd n a=List.replicate n.toNat a:=by rw[lm];rfl
theorem G5(i:Int)(a:α):Bf l i a=l.set i.toNat a:=by rw[yu];rfl
theorem JD{l:List α}{a:α}(h:0<=i)(h2:l[i.toNat]?=some a):BZ l i=some a:=by simp_all[NG,lget0]
theorem wB{l:List α}(h:i<0\/(l.length:Int)<=i):BZ l i=none:=by
 rw[NG];grind[lget0]
theorem Na(i:Nat):BZ l (i:Int)=l[i]?:=by simp_all[NG,lget0]
theorem Gy{l:List α}(h:0<=i/\i<l.length):Dx l i=true:=by simp_all[yl,linb0]
theorem MB:DL l 0 (Be l)=some l:=by
 simp_all[aZ,lcut0,BF]
theorem Jq{l:List α}{lo hi:Int}(h:0<=lo/\lo<=hi/\hi<=l.length):DL l lo hi=some ((l.drop lo.toNat).take (hi-lo).toNat):=by rw[aZ,lcut0,if_pos h]
theorem DY{l:List α}{b:Nat}(h:l.length*b<=140737488355328):fits l b=true:=by simp_all[XB,fits0]
theorem MC{n:Int}{b:Nat}(h:0<=n/\b*n.toNat<=281474976710656):Dz n b=true:=by simp_all[yx,fitn0]
theorem Ry{a b:List Int}(h:a=b):Dn a b=true:=by simp[ag,ieqs0,h]
theorem Xh{a b:List UInt8}(h:a=b):Dk a b=true:=by simp[qj,seq0,h]
theorem Xi{a b:List UInt8}(h:a≠b):Dk a b=false:=by simp[qj,seq0,h]
theorem EN(a:Bool):DX a = !a:=by rw[yZ];rfl
theorem OB(a b:Bool):and' a b=(a&&b):=by rw[A3G];rfl
theorem V4(a:UInt8):G7 a=(a.toNat:Int):=by rw[qp];rfl
theorem F5(a:Int):EM a=UInt8.ofInt a:=by rw[A3H];rfl
theorem LJ(a:Int):Bh a=UInt64.ofInt a:=by rw[FX];rfl
theorem Ti(a:UInt64):C9 a=a.toUInt8:=by rw[rD];rfl
theorem A05(a:UInt8):CO a=a.toUInt64:=by rw[qw];rfl
theorem QK{a:UInt64}(h:a.toNat<=9223372036854775807):Dw a=(a.toNat:Int):=by rw[yg];exact wrap64 zaa
theorem Jr{c:Int}(h:0<=c/\c<18446744073709551616):(UInt64.ofInt c).toNat=c.toNat:=by
 grind[UInt64.ofInt,UInt64.toNat_ofNat']
theorem QL{a:UInt64}{c:Nat}(h:c<64):BK a c=a>>>UInt64.ofNat c:=by
 apply UInt64.toNat_inj.1
 rw[fU];unfold u64shr0
 rw[UInt64.toNat_shiftRight,Nat.shiftRight_eq_div_pow,UInt64.toNat_ofNat',UInt64.toNat_ofNat',Nat.min_eq_left zaa]
 have h2:c%2^64%64=c:=zaa
 rw[h2]
 have:=a.toNat_lt
 exact Nat.mod_eq_of_lt (Nat.lt_of_le_of_lt (Nat.div_le_self _ _) this)
theorem wC{a:UInt64}{c:Nat}(h:c<64):BM a c=a<<<UInt64.ofNat c:=by
 rw[fV];unfold u64shl0
 apply UInt64.toNat_inj.1
 rw[Nat.min_eq_left zaa,UInt64.toNat_shiftLeft,Nat.shiftLeft_eq,UInt64.toNat_ofNat']
 have h2:c%2^64%64=c:=zaa
 grind[UInt64.ofInt,UInt64.toNat_ofNat']
theorem A06(a b:UInt64):Bl .or a b=a|||b:=by rw[Eb];rfl
theorem A5C(a:UInt8):D7 (a.toNat:Int) 8=(a.toNat:Int)*2^(8:Int).toNat:=by
 have:=a.toNat_lt
 rw[aW];unfold ishl0
 rw[show min 8 64=8 from rfl,show(2:Int)^(8:Int).toNat=256 from rfl,show(2:Int)^8=256 from rfl]
 grind[wrap64]
theorem A4F(a b:Int):BH .or a b=bits .or .i64 a b:=by rw[P6];rfl
end Go.Ax
namespace Go.Ax
open Go Go.Eng Go.RowKit
set_option linter.unusedVariables false
variable {b:List UInt8}{at':Nat}{e:Int}
def QM:Nat->UInt64->List UInt8
 | 0,_=>[]
 | k+1,x=>(x>>>UInt64.ofNat (8*k)).toUInt8::QM k x
theorem KN(k:Nat)(x:UInt64):(QM k x).length=k:=by induction k with|zero=>rfl|succ k ih=>simp[QM,ih]
def CE(b:List UInt8)(size n:Int):List UInt8:=if size<1\/8<size then b else b++QM size.toNat (UInt64.ofInt n)
theorem ZX(b:List UInt8)(size n:Int):(CE b size n).length<=b.length+8:=by
 grind[CE,KN]
def Jk(b x:List UInt8):List UInt8:=CE b 2 ((x.take 65535).length:Int)++x.take 65535
theorem A07(x y:UInt8):bits .or .i64 ((x.toNat:Int)*2^(8:Int).toNat) (y.toNat:Int)=((x.toNat*256+y.toNat:Nat):Int):=by
 have hx:=x.toNat_lt
 have hy:=y.toNat_lt
 have h:=fC (x.toNat*256) y.toNat zaa zaa
 rw[show((x.toNat:Int)*2^(8:Int).toNat)=((x.toNat*256:Nat):Int) from by simp,h]
 have:=Nat.shiftLeft_add_eq_or_of_lt (i:=8) (show y.toNat<2^8 by omega) x.toNat
 simp_all[Nat.shiftLeft_eq]
def beN(l:List UInt8):UInt64:=l.foldl (fun n x=>n<<<8|||x.toUInt64) 0
def J7(b:List UInt8)(at':Nat)(e size:Int):Int×Nat×Int :=
 if e≠0 then(0,at',e) else if size<1\/8<size then(0,at',1) else if b.length<at'+size.toNat then(0,at',2)
 else if 9223372036854775807<(beN ((b.drop at').take size.toNat)).toNat then(0,at',4) else((beN ((b.drop at').take size.toNat)).toNat,at'+size.toNat,0)
def V5(b:List UInt8)(at':Nat)(e n:Int):List UInt8×Nat×Int :=
 if e≠0 then([],at',e) else if n<0 then([],at',1) else if b.length<at'+n.toNat then([],at',2) else((b.drop at').take n.toNat,at'+n.toNat,0)
def Gz(b:List UInt8)(at':Nat):Nat:=(b.getD at' 0).toNat*256+(b.getD (at'+1) 0).toNat
def Js(b:List UInt8)(at':Nat)(e most:Int):List UInt8×Nat×Int :=
 if e≠0 then([],at',e) else if b.length<at'+2 then([],at',2) else if most<Gz b at' then([],at',4)
 else if b.length<at'+2+Gz b at' then([],at',2) else((b.drop (at'+2)).take (Gz b at'),at'+2+Gz b at',0)
def WT(b:List UInt8)(at':Nat)(e:Int):Int:=if e=0/\at'<b.length then 3 else e
theorem Jt{size:Int}(h:at'<=b.length):(J7 b at' e size).2.1<=b.length:=by
 grind[J7]
theorem nH{n:Int}(h:at'<=b.length):(V5 b at' e n).2.1<=b.length:=by
 grind[V5]
theorem MF{most:Int}(h:at'<=b.length):(Js b at' e most).2.1<=b.length:=by
 grind[Js]
end Go.Ax
namespace Go.Ax
open Go Go.RowKit Go.Eng
set_option linter.unusedVariables false
set_option linter.unusedSimpArgs false
variable (a b:UInt8)
theorem GY{α:Type}{l:List α}{n:Nat}(h:n<l.length):BZ l (n:Int)=some (l[n]'h):=by simp_all[Na]
theorem E8{α:Type}{l:List α}{i:Int}(h:0<=i/\i<l.length):BZ l i=some (l[i.toNat]'zaa):=by simp_all[NG,lget0]
theorem A4G(a b:List UInt8):Dk a b=decide (a=b):=by rw[qj];rfl
theorem A2U(a b:Int):Ey a b=(a==b):=by simp only[TC,ieq0]
theorem Es(a b:Int):Ey a b=decide (a=b):=by simp only[TC,ieq0];rfl
theorem nI(a b:Int):Fh a b = !decide (a=b):=by simp only[Va,ine0];rfl
theorem bi(a b:Int):FD a b=decide (a<b):=by rw[OZ];rfl
theorem FB(a b:Int):Et a b=decide (a<=b):=by rw[NR];rfl
theorem JQ:Bi .eql a b=Ey (a.toNat:Int) b.toNat:=by rw[O4,TC];rfl
theorem Ia:Bi .neq a b=Fh (a.toNat:Int) b.toNat:=by rw[O4,Va];rfl
theorem Ju:Bi .lss a b=FD (a.toNat:Int) b.toNat:=by rw[O4,OZ];rfl
theorem Jv:Bi .leq a b=Et (a.toNat:Int) b.toNat:=by rw[O4,NR];rfl
theorem Jw:Bi .gtr a b=FD (b.toNat:Int) a.toNat:=by rw[O4,OZ];rfl
theorem Jy:Bi .geq a b=Et (b.toNat:Int) a.toNat:=by rw[O4,NR];rfl
theorem JE(a b:UInt64):BD .eql a b=Ey (a.toNat:Int) b.toNat:=by rw[Ld,TC];rfl
theorem JF(a b:UInt64):BD .neq a b=Fh (a.toNat:Int) b.toNat:=by rw[Ld,Va];rfl
theorem JG(a b:UInt64):BD .lss a b=FD (a.toNat:Int) b.toNat:=by rw[Ld,OZ];rfl
theorem JH(a b:UInt64):BD .leq a b=Et (a.toNat:Int) b.toNat:=by rw[Ld,NR];rfl
theorem JI(a b:UInt64):BD .gtr a b=FD (b.toNat:Int) a.toNat:=by rw[Ld,OZ];rfl
theorem Hf(a b:UInt64):BD .geq a b=Et (b.toNat:Int) a.toNat:=by rw[Ld,NR];rfl
theorem Nb:DU .xor a b=a^^^b:=by rw[lg];rfl
theorem A08:DU .and a b=a&&&b:=by rw[lg];rfl
theorem A2V{c:Int}(h:0<=c/\c<=8):(Bl .mul (UInt64.ofNat 8) (Bh c)).toNat=(8*c).toNat:=by
 rw[Eb,LJ]
 show((UInt64.ofNat 8)*(UInt64.ofInt c)).toNat=_
 grind[UInt64.toNat_mul,Jr]
theorem A09(k:Nat)(hk:k<=62)(n:Int):bits .and .i64 n ((2^k-1:Nat):Int)=n%((2^k:Nat):Int):=by
 have hp:0<2^k:=Nat.pow_pos zaa
 have hlt:2^k<=2^62:=Nat.pow_le_pow_right zaa hk
 have h1:(BitVec.ofInt 64 ((2^k-1:Nat):Int)).toNat=2^k-1:=by
  grind
 have key:(BitVec.ofInt 64 n&&&BitVec.ofInt 64 ((2^k-1:Nat):Int)).toNat=(n%((2^64:Nat):Int)).toNat%2^k:=by
  grind[BitVec.toNat_ofInt,Nat.and_two_pow_sub_one_eq_mod]
 show IntKind.i64.wrap ((BitVec.ofInt 64 n&&&BitVec.ofInt 64 ((2^k-1:Nat):Int)).toNat:Nat)=n%_
 rw[key,IntKind.wrap_i64]
 have hd:((2^k:Nat):Int)∣((2^64:Nat):Int):=by
  refine⟨((2^(64-k):Nat):Int),?_⟩
  rw[<-Int.natCast_mul,<-Nat.pow_add];grind
 have h2:((((n%((2^64:Nat):Int)).toNat%2^k:Nat)):Int)=n%((2^k:Nat):Int):=by
  grind[Int.emod_emod_of_dvd]
 omega
theorem JR(k:Nat)(hk:k<=62)(n:Int):BH .and n ((2^k-1:Nat):Int)=n%((2^k:Nat):Int):=by rw[P6];exact A09 k hk n
end Go.Ax
namespace Go.Ax
open Go Go.Eng Go.RowKit
set_option linter.unusedVariables false
set_option linter.unusedSimpArgs false
variable {b:List UInt8}{at':Nat}{x r:List UInt8}{n p:Nat}{e most:Int}(l:List UInt8)
def Kq(l:List UInt8):Nat:=l.foldl (fun n x=>n*256+x.toNat) 0
theorem A2W:∀ a:Nat,l.foldl (fun n x=>n*256+x.toNat) a=a*256^l.length+Kq l:=by
 induction l with
 | nil=>grind[Kq]
 | cons x l ih =>
  intro a
  rw[List.foldl_cons,ih]
  have e:Kq (x::l)=x.toNat*256^l.length+Kq l:=by
   rw[show Kq (x::l)=l.foldl (fun n x=>n*256+x.toNat) (0*256+x.toNat) from rfl,ih];simp
  grind
theorem Nc(x:UInt8)(l:List UInt8):Kq (x::l)=x.toNat*256^l.length+Kq l:=by
 grind[Kq,A2W]
theorem WU:Kq l<256^l.length:=by
 induction l with
 | nil=>simp[Kq]
 | cons x l ih =>
  rw[Nc,List.length_cons,Nat.pow_succ]
  have:=x.toNat_lt
  have h2:x.toNat*256^l.length<=255*256^l.length:=Nat.mul_le_mul_right _ zaa
  omega
theorem A2X(n:UInt64)(x:UInt8)(h:n.toNat<2^56):(n<<<8|||x.toUInt64).toNat=n.toNat*256+x.toNat:=by
 have hx:=x.toNat_lt
 rw[UInt64.toNat_or,UInt64.toNat_shiftLeft]
 have e1:(8:UInt64).toNat%64=8:=zal
 rw[e1,Nat.shiftLeft_eq,Nat.mod_eq_of_lt zaa]
 have e2:x.toUInt64.toNat=x.toNat:=zao
 rw[e2]
 have:=Nat.shiftLeft_add_eq_or_of_lt (i:=8) (show x.toNat<2^8 by omega) n.toNat
 simp_all[Nat.shiftLeft_eq]
theorem sJ(h:l.length<=8):(beN l).toNat=Kq l:=by
 have key:∀(l:List UInt8) (a:UInt64) (m:Nat),a.toNat<256^m->m+l.length<=8->(l.foldl (fun(n:UInt64) (x:UInt8)=>n<<<8|||x.toUInt64) a).toNat=a.toNat*256^l.length+Kq l:=by
  intro l
  induction l with
  | nil=>simp_all[Kq]
  | cons x l ih =>
   intro a m ha hm
   rw[List.length_cons] at hm
   have hx:=x.toNat_lt
   have h56:a.toNat<2^56:=by
    have:256^m<=256^7:=Nat.pow_le_pow_right zaa zaa
    omega
   have hs:=A2X a x h56
   rw[List.foldl_cons,ih _ (m+1) zaa zaa,hs,Nc,List.length_cons,Nat.pow_succ,Nat.add_mul,Nat.mul_assoc,Nat.mul_comm 256]
   omega
 have:=key l 0 0 zal zaa
 simp_all[beN]
theorem sK(k:Nat)(x:UInt64)(hk:k<=8):Kq (QM k x)=x.toNat%256^k:=by
 induction k with
 | zero=>simp[QM,Kq,Nat.mod_one]
 | succ k ih =>
  rw[QM,Nc,KN,ih zaa]
  have h1:((x>>>UInt64.ofNat (8*k)).toUInt8).toNat=x.toNat/256^k%256:=by
   rw[UInt64.toNat_toUInt8,UInt64.toNat_shiftRight,UInt64.toNat_ofNat',Nat.shiftRight_eq_div_pow]
   have e:8*k%2^64%64=8*k:=zaa
   rw[e,Nat.pow_mul]
  rw[h1,Nat.pow_succ,Nat.mod_mul]
  grind
theorem iY:∀ {l m:List UInt8},l.length=m.length->Kq l=Kq m->l=m
 | [],[],_,_=>rfl
 | x::l,y::m,hl,hv=>by
  rw[Nc,Nc] at hv
  have hl':l.length=m.length:=zaJ
  have h1:=WU l
  have h2:=WU m
  rw[hl'] at hv h1
  have hp:0<256^m.length:=Nat.pow_pos zaa
  have hxy:x.toNat=y.toNat:=by
   have a1:(x.toNat*256^m.length+Kq l)/256^m.length=x.toNat:=by
    rw[Nat.mul_comm,Nat.mul_add_div hp,Nat.div_eq_of_lt h1,Nat.add_zero]
   simp_all[Nat.mul_comm,Nat.mul_add_div,Nat.div_eq_of_lt]
  have hlm:Kq l=Kq m:=zaB
  rw[UInt8.toNat_inj.1 hxy,iY hl' hlm]
 | [],_::_,h,_|_::_,[],h,_=>zbk
theorem sN(h:l.length<=8)(hb:Kq l<9223372036854775808):QM l.length (UInt64.ofInt (Kq l:Int))=l:=by
 grind[iY,KN,sK,Jr,Nat.mod_eq_of_lt,WU]
theorem Xj(k:Nat)(x:Int)(hk:k<=8)(h0:0<=x)(h1:x<9223372036854775808)(h:x.toNat<256^k):Kq (QM k (UInt64.ofInt x))=x.toNat:=by
 grind[sK,Jr,Nat.mod_eq_of_lt]
theorem PM(h:b.drop p=r)(hp:p<=b.length):b.length=p+r.length:=zaJ
theorem Tj(h:b.drop p=x++r):b.drop (p+x.length)=r:=by
 rw[<-List.drop_drop,h,List.drop_left]
theorem KO{x:Int}(hp:p<=b.length)(hn:1<=n/\n<=8)(h:b.drop p=QM n (UInt64.ofInt x)++r)(h0:0<=x)(h1:x<9223372036854775808)(h2:x.toNat<256^n):
  J7 b p 0 n=(x,p+n,0)/\p+n<=b.length/\b.drop (p+n)=r:=by
 have hl:=PM h hp
 rw[List.length_append,KN] at hl
 have ht:(b.drop p).take n=QM n (UInt64.ofInt x):=by simp_all[KN]
 have hv:(beN (QM n (UInt64.ofInt x))).toNat=x.toNat:=by simp_all[sJ,KN,Xj]
 refine⟨?_,by omega,by have:=Tj h;rwa [KN] at this⟩
 unfold J7
 grind
theorem sO(hp:p<=b.length)(h:b.drop p=x++r)(hx:x.length=n):V5 b p 0 n=(x,p+n,0)/\p+n<=b.length/\b.drop (p+n)=r:=by
 have hl:=PM h hp
 rw[List.length_append] at hl
 subst hx
 simp_all[Tj,V5,if_neg]
theorem A0A{x:UInt8}{y:UInt8}(h:b.drop p=x::y::r):Gz b p=x.toNat*256+y.toNat:=by
 have e0:b.getD p 0=x:=by
  have:=congrArg (fun l=>l.getD 0 0) h
  grind
 have e1:b.getD (p+1) 0=y:=by
  have:=congrArg (fun l=>l.getD 1 0) h
  grind
 rw[Gz,e0,e1]
def V6(n:Nat):List UInt8:=QM 2 (UInt64.ofInt (n:Int))
theorem A0B(n:Nat):∃ x y,V6 n=[x,y]:=⟨_,_,rfl⟩
theorem Tm(n:Nat):(V6 n).length=2:=KN _ _
theorem A0C(h:n<=65535){x y:UInt8}(hxy:V6 n=[x,y]):x.toNat*256+y.toNat=n:=by
 have:=Xj 2 (n:Int) zaa zaa zaa zaC
 rw[show QM 2 (UInt64.ofInt (n:Int))=[x,y] from hxy] at this
 simp_all[Kq]
theorem WV(hp:p<=b.length)(h:b.drop p=V6 x.length++x++r)(hx:x.length<=65535)(hm:(x.length:Int)<=most):
  Js b p 0 most=(x,p+2+x.length,0)/\p+2+x.length<=b.length/\b.drop (p+2+x.length)=r:=by
 have hl:=PM h hp
 rw[List.length_append,List.length_append,Tm] at hl
 obtain⟨u,v,huv⟩:=A0B x.length
 have hv:=A0C hx huv
 have hL:Gz b p=x.length:=by
  grind[A0A]
 have h2:b.drop (p+2)=x++r:=by
  grind[Tj,Tm]
 refine⟨?_,by omega,Tj h2⟩
 unfold Js
 grind
theorem A0D(hp:p<=b.length)(h:b.drop p=[]):WT b p 0=0:=by
 simp_all[WT]
theorem bn{q:Nat}{x:Int}(hp:p<=b.length)(hn:1<=n/\n<=8)(h:J7 b p e n=(x,q,0)):e=0/\q=p+n/\q<=b.length/\b.drop p=QM n (UInt64.ofInt x)++b.drop q/\0<=x/\x<9223372036854775808/\x.toNat<256^n:=by
 unfold J7 at h
 split at h
 ·simp_all
 rename_i he
 split at h
 ·simp at h
 split at h
 ·simp at h
 rename_i hl
 split at h
 ·simp at h
 rename_i hb
 simp only[Int.toNat_natCast,Prod.mk.injEq] at h hb hl
 obtain⟨h1,h2,_⟩:=h
 have hlen:((b.drop p).take n).length=n:=zaC
 rw[sJ _ zaa] at h1 hb
 have hlt:=WU ((b.drop p).take n)
 rw[hlen] at hlt
 subst h1 h2
 refine⟨by omega,rfl,by omega,?_,by omega,by omega,by omega⟩
 grind[sN,List.drop_drop,List.take_append_drop]
theorem A4H(h:p+2<=b.length):b.drop p=b.getD p 0::b.getD (p+1) 0::b.drop (p+2):=by
 grind[List.drop_eq_getElem_cons]
theorem sQ{q:Nat}(hp:p<=b.length)(h:Js b p e most=(x,q,0)):e=0/\q=p+2+x.length/\q<=b.length/\b.drop p=V6 x.length++x++b.drop q/\(x.length:Int)<=most/\x.length<=65535:=by
 unfold Js at h
 split at h
 ·simp_all
 rename_i he
 split at h
 ·simp at h
 rename_i h2
 split at h
 ·simp at h
 rename_i h3
 split at h
 ·simp at h
 rename_i h4
 simp only[Prod.mk.injEq] at h
 obtain⟨h1,hq,_⟩:=h
 have hlen:((b.drop (p+2)).take (Gz b p)).length=Gz b p:=zaC
 have hx:=(b.getD p 0).toNat_lt
 have hy:=(b.getD (p+1) 0).toNat_lt
 have hL:Gz b p=(b.getD p 0).toNat*256+(b.getD (p+1) 0).toNat:=rfl
 have hxl:x.length=Gz b p:=zaB
 have h2':=A4H (b:=b) (p:=p) zaa
 have hle:V6 (Gz b p)=[b.getD p 0,b.getD (p+1) 0]:=by
  have hv:Kq [b.getD p 0,b.getD (p+1) 0]=Gz b p:=by simp_all[Kq]
  have:=sN [b.getD p 0,b.getD (p+1) 0] zao zaa
  rw[hv] at this
  exact this
 grind[List.drop_drop,List.take_append_drop]
theorem A2Y(hp:p<=b.length)(h:WT b p e=0):e=0/\b.drop p=[]:=by
 grind[WT]
theorem PN{x:Int}(hn:1<=n/\n<=8):CE b n x=b++QM n (UInt64.ofInt x):=by
 unfold CE;grind
theorem Nh(h:x.length<=65535):Jk b x=b++V6 x.length++x:=by
 unfold Jk
 rw[List.take_of_length_le h,show(2:Int)=((2:Nat):Int) from rfl,PN zaa];rfl
theorem J8:(Js b at' e most).1.length<=b.length:=by
 grind[Js]
theorem WW{n:Int}:(V5 b at' e n).1.length<=b.length:=by
 grind[V5]
theorem Tn{x:Int}(hn:1<=n/\n<=8):(CE b n x).length=b.length+n:=by simp_all[PN,KN]
theorem AC(b:List UInt8)(x:Int):(CE b 1 x).length=b.length+1:=Tn (n:=1) zaa
theorem AB(b:List UInt8)(x:Int):(CE b 2 x).length=b.length+2:=Tn (n:=2) zaa
theorem Cb(b:List UInt8)(x:Int):(CE b 3 x).length=b.length+3:=Tn (n:=3) zaa
theorem Cc(b:List UInt8)(x:Int):(CE b 4 x).length=b.length+4:=Tn (n:=4) zaa
theorem AP(b:List UInt8)(x:Int):(CE b 8 x).length=b.length+8:=Tn (n:=8) zaa
theorem AO(b x:List UInt8):(Jk b x).length=b.length+2+min 65535 x.length:=by simp_all[Jk,AB]
theorem A0E(b:List UInt8):CE b 1 1=b++[1]:=by rw[CE,if_neg zaa];rfl
theorem A0F(b:List UInt8):CE b 1 0=b++[0]:=by rw[CE,if_neg zaa];rfl
theorem J3(h:0<=most):((Js b at' e most).1.length:Int)<=most:=by
 grind[Js]
end Go.Ax
namespace Go.Ax
open Go Go.Eng Go.RowKit
set_option linter.unusedVariables false
set_option linter.unusedSimpArgs false
variable {b v0:List UInt8}{p0:Nat}
structure Att where
 key:List UInt8
 nonce:List UInt8
 resets:Int
 restarts:Int
 clock:Int
 safe:Bool
 updates:Int
 s0:Int
 s1:Int
 digest:List UInt8
def OC:List UInt8:=[83,87,81,49]
def GV(a:Att):List UInt8 :=
 CE (CE (CE (CE (CE (CE (CE (Jk (Jk OC a.key) a.nonce) 8 a.resets) 8 a.restarts) 8 a.clock) 1 (bif a.safe then 1 else 0)) 8 a.updates) 2 a.s0) 2 a.s1++a.digest
def OD:Att:=⟨[],[],0,0,0,false,0,0,0,[]⟩
def NK(b:List UInt8):Att×Int :=
 let h:=V5 b 0 0 4
 if h.2.2≠0 then(OD,h.2.2) else if h.1≠OC then(OD,5) else
 let k:=Js b h.2.1 0 32
 let o:=Js b k.2.1 k.2.2 128
 let u:=J7 b o.2.1 o.2.2 8
 let v:=J7 b u.2.1 u.2.2 8
 let c:=J7 b v.2.1 v.2.2 8
 let s:=J7 b c.2.1 c.2.2 1
 let w:=J7 b s.2.1 s.2.2 8
 let x:=J7 b w.2.1 w.2.2 2
 let y:=J7 b x.2.1 x.2.2 2
 let d:=V5 b y.2.1 y.2.2 32
 let e:=WT b d.2.1 d.2.2
 if e≠0 then(OD,e) else if k.1.length≠32\/1<s.1 then(OD,1) else
 (⟨k.1,o.1,u.1,v.1,c.1,s.1==1,w.1,x.1,y.1,d.1⟩,0)
def A0G(a:Att)(safe:Int):List UInt8 :=
  OC++(V6 a.key.length++a.key++(V6 a.nonce.length++a.nonce++(QM 8 (UInt64.ofInt a.resets)++(QM 8 (UInt64.ofInt a.restarts)++(QM 8 (UInt64.ofInt a.clock)++(QM 1 (UInt64.ofInt safe) ++
   (QM 8 (UInt64.ofInt a.updates)++(QM 2 (UInt64.ofInt a.s0)++(QM 2 (UInt64.ofInt a.s1)++(a.digest++[]))))))))))
theorem wE(a:Att)(hk:a.key.length<=65535)(hn:a.nonce.length<=65535):GV a=A0G a (bif a.safe then 1 else 0):=by
 unfold GV A0G
 rw[show(8:Int)=((8:Nat):Int) from rfl,show(2:Int)=((2:Nat):Int) from rfl,show ∀ b x,CE b 1 x=CE b ((1:Nat):Int) x from fun _ _=>rfl]
 rw[Nh hk,Nh hn]
 simp only[PN (show 1<=8/\8<=8 by omega),PN (show 1<=2/\2<=8 by omega),PN (show 1<=1/\1<=8 by omega),List.append_assoc,List.append_nil]
structure OkA (a:Att):Prop where
 key:a.key.length=32
 nonce:a.nonce.length<=128
 resets:0<=a.resets/\a.resets<9223372036854775808
 restarts:0<=a.restarts/\a.restarts<9223372036854775808
 clock:0<=a.clock/\a.clock<9223372036854775808
 updates:0<=a.updates/\a.updates<9223372036854775808
 s0:0<=a.s0/\a.s0<65536
 s1:0<=a.s1/\a.s1<65536
 digest:a.digest.length=32
theorem A2Z{a:Att}(h:OkA a):NK (GV a)=(a,0):=by
 obtain⟨hk,hn,hr,hs,hc,hu,h0,h1,hd⟩:=h
 rw[wE a zaa zaa]
 generalize hb:A0G a (bif a.safe then 1 else 0)=b
 have e8:(256:Nat)^8=18446744073709551616:=zal
 have e2:(256:Nat)^2=65536:=zal
 have e1:(256:Nat)^1=256:=zal
 obtain⟨q0,l0,d0⟩:=sO (b:=b) (p:=0) (n:=4) (Nat.zero_le _) (by rw[<-hb];exact rfl) rfl
 obtain⟨q1,l1,d1⟩:=WV (most:=32) l0 d0 zaa zaa
 obtain⟨q2,l2,d2⟩:=WV (most:=128) l1 d1 zaa zaa
 obtain⟨q3,l3,d3⟩:=KO l2 zaa d2 hr.1 hr.2 zaa
 obtain⟨q4,l4,d4⟩:=KO l3 zaa d3 hs.1 hs.2 zaa
 obtain⟨q5,l5,d5⟩:=KO l4 zaa d4 hc.1 hc.2 zaa
 obtain⟨q6,l6,d6⟩:=KO l5 zaa d5 (by cases a.safe<;>decide) (by cases a.safe<;>decide) (by cases a.safe<;>decide)
 obtain⟨q7,l7,d7⟩:=KO l6 zaa d6 hu.1 hu.2 zaa
 obtain⟨q8,l8,d8⟩:=KO l7 zaa d7 h0.1 zaa zaa
 obtain⟨q9,l9,d9⟩:=KO l8 zaa d8 h1.1 zaa zaa
 obtain⟨q10,l10,d10⟩:=sO l9 d9 hd
 have qe:=A0D l10 d10
 replace q0:V5 b 0 0 4=_:=q0
 replace q3:J7 b _ 0 8=_:=q3
 replace q4:J7 b _ 0 8=_:=q4
 replace q5:J7 b _ 0 8=_:=q5
 replace q6:J7 b _ 0 1=_:=q6
 replace q7:J7 b _ 0 8=_:=q7
 replace q8:J7 b _ 0 2=_:=q8
 replace q9:J7 b _ 0 2=_:=q9
 replace q10:V5 b _ 0 32=_:=q10
 unfold NK
 simp only[q0,q1,q2,q3,q4,q5,q6,q7,q8,q9,q10,qe,ne_eq,not_true_eq_false,if_false]
 rw[if_neg (by rw[hk];cases a.safe<;>decide)]
 cases a;rename_i key nonce resets restarts clock safe updates s0 s1 digest
 cases safe<;>rfl
theorem WX{v1 v2 v10:List UInt8}{v3 v4 v5 v6 v7 v8 v9 er1 er2 er3 er4 er5 er6 er7 er8 er9 er10:Int}{p1 p2 p3 p4 p5 p6 p7 p8 p9 p10:Nat}(g0:V5 b 0 0 4=(v0,p0,0))(hm:v0=OC)(g1:Js b p0 0 32=(v1,p1,er1))(g2:Js b p1 er1 128=(v2,p2,er2))(g3:J7 b p2 er2 8=(v3,p3,er3))(g4:J7 b p3 er3 8=(v4,p4,er4))(g5:J7 b p4 er4 8=(v5,p5,er5))(g6:J7 b p5 er5 1=(v6,p6,er6))(g7:J7 b p6 er6 8=(v7,p7,er7))(g8:J7 b p7 er7 2=(v8,p8,er8))(g9:J7 b p8 er8 2=(v9,p9,er9))(g10:V5 b p9 er9 32=(v10,p10,er10)):
  NK b=if WT b p10 er10≠0 then(OD,WT b p10 er10) else if v1.length≠32\/1<v6 then(OD,1) else(⟨v1,v2,v3,v4,v5,v6==1,v7,v8,v9,v10⟩,0):=by
 simp_all[NK]
theorem A4I{er0:Int}(g0:V5 b 0 0 4=(v0,p0,er0))(h:er0≠0):NK b=(OD,er0):=by
 simp_all[NK]
theorem A4J(g0:V5 b 0 0 4=(v0,p0,0))(h:v0≠OC):NK b=(OD,5):=by
 simp_all[NK]
end Go.Ax
namespace Go.Ax
open Go Go.RowKit Go.Eng
set_option linter.unusedVariables false
set_option linter.unusedSimpArgs false
variable (l:List UInt8)
theorem IJ{a:Int}{c:Nat}(h:c<=64):CV a c=a/2^c:=by simp_all[aX,ishr0]
theorem Xk{c:Int}(h:0<=c/\c<=62):D7 1 (Bh c).toNat=2^c.toNat:=by
 rw[aW,LJ,Jr zaa];unfold ishl0
 rw[Nat.min_eq_left zaa,Int.one_mul]
 apply wrap64
 have h1:(2:Int)^c.toNat<=2^62:=by
  have:=Nat.pow_le_pow_right (n:=2) zaa (show c.toNat<=62 by omega)
  grind
 grind
theorem Rz{n:Nat}(h:n<=62):D7 1 (Bh (n:Int)).toNat=(2:Int)^n:=by
 grind[Xk]
theorem MG{α:Type}{l:List α}{n:Int}(h:0<=n/\n<=l.length):DL l 0 n=some (l.take n.toNat):=by
 simp_all[aZ,lcut0]
theorem LL:(∀ {α:Type} (l:List α),Be l=(l.length:Int))/\(∀ {α:Type} (l m:List α),BI l m=l++m)/\(∀ {α:Type} (n:Int) (a:α),Bd n a=List.replicate n.toNat a)/\(∀ {α:Type} (l m:List α),D6 l m=m.take l.length++l.drop m.length)/\(∀ {α:Type} (l:List α) (i:Int) (a:α),Bf l i a=l.set i.toNat a) /\
  (∀ {α:Type} (l m:List α),(l++m).length=l.length+m.length)/\(∀ {α:Type} (i:Nat) (l:List α),(l.take i).length=min i l.length)/\(∀ {α:Type} (i:Nat) (l:List α),(l.drop i).length=l.length-i)/\(∀ {α:Type} (a:α) (l:List α),(a::l).length=l.length+1)/\(∀ {α:Type},([]:List α).length=0)/\(∀ {α:Type} (n:Nat) (a:α),(List.replicate n a).length=n)/\(∀ {α:Type} (l:List α) (i:Nat) (a:α),(l.set i a).length=l.length)/\(∀ n:Nat,((n:Int)).toNat=n) :=
 ⟨BF,Aa,Fz,WS,G5,fun _ _=>List.length_append,fun _ _=>List.length_take,fun _ _=>List.length_drop,fun _ _=>List.length_cons,List.length_nil,fun _ _=>List.length_replicate,fun _ _ _=>List.length_set,Int.toNat_natCast⟩
theorem NO:(∀ {α:Type} (l:List α),Be l=(l.length:Int))/\(∀ {α:Type} (l m:List α),BI l m=l++m)/\(∀ {α:Type} (n:Int) (a:α),Bd n a=List.replicate n.toNat a)/\(∀ {α:Type} (l m:List α),D6 l m=m.take l.length++l.drop m.length)/\(∀ {α:Type} (l:List α) (i:Int) (a:α),Bf l i a=l.set i.toNat a) /\
  (∀ {α:Type} (l:List α),[]++l=l)/\(∀ {α:Type} (l:List α),l++[]=l)/\(∀ {α:Type} (a b c:List α),a++b++c=a++(b++c))/\(∀ {α:Type} (a:α) (b c:List α),a::b++c=a::(b++c)) :=
 ⟨BF,Aa,Fz,WS,G5,List.nil_append,List.append_nil,List.append_assoc,fun _ _ _=>List.cons_append⟩
theorem I5{a:UInt32}{c:Nat}(h:c<32):BB a c=a>>>UInt32.ofNat c:=by
 rw[fZ];unfold u32shr0;rw[Nat.min_eq_left zaa]
 apply UInt32.toNat_inj.1
 rw[UInt32.toNat_shiftRight,UInt32.toNat_ofNat',UInt32.toNat_ofNat',Nat.shiftRight_eq_div_pow]
 have h1:c%2^32%32=c:=zaa
 rw[h1]
 have h2:a.toNat/2^c<=a.toNat:=Nat.div_le_self _ _
 have h3:=a.toNat_lt
 grind
theorem A5w:[Bo (BB (Dl (Be l)) (UInt64.ofNat 24).toNat),Bo (BB (Dl (Be l)) (UInt64.ofNat 16).toNat),Bo (BB (Dl (Be l)) (UInt64.ofNat 8).toNat),Bo (Dl (Be l))]=lX l:=by
 rw[I5 zal,I5 zal,I5 zal,BF,yh,aY];rfl
theorem rf4(h:l.length<4294967296):[EM (CV (l.length:Int) (UInt64.ofNat 24).toNat),EM (CV (l.length:Int) (UInt64.ofNat 16).toNat),EM (CV (l.length:Int) (UInt64.ofNat 8).toNat),EM (l.length:Int)]=lX l:=by
 rw[IJ zal,IJ zal,IJ zal]
 simp only[F5]
 exact A5n _ h
theorem PO(tag:Int)(ls:List (List UInt8))(i:Nat)(l:List UInt8)(h:ls[i]?=some l):Ar tag (ls.take (i+1))=Ar tag (ls.take i)++lX l++l:=by
 simp_all[Ar,aT]
theorem ZY(tag:Int)(ls:List (List UInt8))(i:Nat):(Ar tag (ls.take i)).length<=(Ar tag ls).length:=by
 grind[Ar,fieldsB,List.take_append_drop]
abbrev A5x:Ty:=.pair .i64 (.pair .i64 (.pair .i64 (.pair (.sl .u8) (.sl .u8))))
abbrev A5y:Ty:=.pair (.sl .u8) (.pair (.sl .u8) (.sl .u8))
abbrev objT:Ty:=.pair A5x (.pair A5y .i64)
abbrev H5:Ty:=.pair .i64 (.pair .i64 (.pair .i64 (.pair .i64 (.pair (.sl .u8) (.pair (.sl .u8) (.pair .bool (.sl .u8)))))))
abbrev Ja:Ty:=.pair (.sl .u8) .i64
abbrev sesT:Ty:=.pair .i64 (.pair (.sl .u8) (.pair (.sl .u8) (.pair .i64 (.pair .i64 (.pair .i64 (.pair .i64 .bool))))))
abbrev Aq:Ty:=.pair .i64 (.pair (.sl .u8) (.sl .u8))
end Go.Ax
