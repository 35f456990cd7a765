/-
  Own texts, laid together for this claim: the rules that every walk uses, which claim nothing of any program.
-/
import Derived.WalkKit
import Derived.Deep.LoopGhost
import Derived.Still
import Derived.Laws.CopyOwn
import Derived.Orders
import Derived.Laws.IdiomStrings
import Derived.Lib.AppendStr
import Derived.Lib.AppendZerosOnto
import Derived.LoopN
import Derived.Laws.StructEq
import Derived.ChangeKeysEq
import Derived.Lib.SliceRun
import Derived.WalkSpells
set_option linter.all false
theorem zaa{p:Prop}(h:p:=by omega):p:=h
theorem zab{p:Prop}(h:p:=by first|omega|decide|assumption|(simp only[LL] at *<;>omega)|(simp;omega)):p:=h
theorem zac{p:Prop}(h:p:=by first|omega|decide|assumption|(simp only[AB,AC,AO,AP,D6,E5,A8,Aj,Ae,Af,LL] at *<;>omega)|(simp;omega)):p:=h
theorem zad{p:Prop}(h:p:=by first|omega|decide|assumption|(simp only[A8,D9,DN,Ce,Bo,LL] at *<;>omega)|(simp;omega)):p:=h
theorem zae{p:Prop}(h:p:=by first|omega|decide|assumption|(simp only[A8,LL] at *<;>omega)|(simp;omega)):p:=h
theorem zaf{p:Prop}(h:p:=by(simp only[AU,D5,Cm,AB,AC,AO,AP,CO,LL] at *<;>omega)):p:=h
theorem zah{p:Prop}(h:p:=by(simp only[AP,A8,Aj,Ae,Af,Aa,BP,AB,AC,AU,AO,Ap,LL] at *<;>omega)):p:=h
theorem zai{p:Prop}(h:p:=by simp only[k1];first|(rw[if_pos (by omega)];rfl)|(rw[if_neg (by omega),if_pos (by omega)];rfl)|(rw[if_neg (by omega),if_neg (by omega),if_pos (by omega)];rfl)|(rw[if_neg (by omega),if_neg (by omega),if_neg (by omega)];rfl)):p:=h
theorem zaj{p:Prop}(h:p:=by simp only[H6,IX];simp only[f1];first|rw[if_pos (by omega)]|rw[if_neg (by omega),if_pos (by omega)]|rw[if_neg (by omega),if_neg (by omega),if_pos (by omega)]|rw[if_neg (by omega),if_neg (by omega),if_neg (by omega)]):p:=h
theorem zak{p:Prop}(h:p:=by(simp only[A8,BX,Bd,BU,Ba,BN,LL] at *<;>omega)):p:=h
theorem zal{p:Prop}(h:p:=by decide):p:=h
theorem zam{p:Prop}(h:p:=by simp):p:=h
theorem zan{p:Prop}(h:p:=by first|assumption|omega):p:=h
theorem zao{p:Prop}(h:p:=by first|omega|decide|assumption|(simp only[A8,BX,Bd,BU,Ba,BN,LL] at *<;>omega)|(simp;omega)):p:=h
theorem zaq{p:Prop}(h:p:=by(simp only[A8,EO,Aj,Ae,Af,Aa,BP,AB,AC,AU,AO,Ap,LL] at *<;>omega)):p:=h
theorem zar{p:Prop}(h:p:=by(simp only[LL] at *<;>omega)):p:=h
theorem zas{p:Prop}(h:p:=by kernel_rfl):p:=h
theorem zat{p:Prop}(h:p:=by first|omega|decide|assumption|(simp only[AB,AC,AO,Iw,BU,Aj,Ae,Af,LL] at *<;>omega)|(simp;omega)):p:=h
theorem zau{p:Prop}(h:p:=by have:=hi.kk;omega):p:=h
theorem zav{p:Prop}(h:p:=by assumption):p:=h
theorem zaw{p:Prop}(h:p:=by(simp only[Dh,CZ,Df,DC];omega)):p:=h
theorem zax{p:Prop}(h:p:=by first|omega|decide|assumption|(simp only[A8,Aj,Ae,Af,Aa,BP,AB,AC,AO,Ap,LL] at *<;>omega)|(simp;omega)):p:=h
theorem zay{p:Prop}(h:p:=by simp only;omega):p:=h
theorem zaz{p:Prop}(h:p:=by first|assumption|omega|decide|(simp;assumption)|simp):p:=h
theorem zaA{p:Prop}(h:p:=by(simp only[A8,Aj,Ae,Af,Aa,BP,AB,AC,AO,Ap,LL] at *<;>omega)):p:=h
theorem zaB{p:Prop}(h:p:=by(simp only[A8,Aj,Ae,Af,Aa,BP,AB,AC,AU,AO,Ap,LL] at *<;>omega)):p:=h
theorem zaC{p:Prop}(h:p:=by simp;omega):p:=h
theorem zaD{p:Prop}(h:p:=by simp_all):p:=h
theorem zaE{p:Prop}(h:p:=by simp[ren]):p:=h
theorem zaF{p:Prop}(h:p:=by first|assumption|omega|decide):p:=h
theorem zaG{p:Prop}(h:p:=by(simp only[AB,AC,AO,AP,D6,E5,A8,Aj,Ae,Af,LL] at *<;>omega)):p:=h
theorem zaH{p:Prop}(h:p:=by(exact Bf)):p:=h
theorem zaI{p:Prop}(h:p:=by decide +kernel):p:=h
theorem zaJ{p:Prop}(h:p:=by grind):p:=h
theorem zaK{p:Prop}(h:p:=by(simp only[A8,JY,Gu,JB,LL] at *<;>omega)):p:=h
theorem zaL{p:Prop}(h:p:=by have:=IC (b:=b) (at':=0) (e:=0) (size:=1) (Nat.zero_le _);rw[g0] at this;exact this):p:=h
theorem zaM{p:Prop}(h:p:=by(rw[Ag];simp only[List.cons_append,List.nil_append,List.forall_mem_cons];refine⟨by simp,by omega,by first|omega|simp,hbm⟩)):p:=h
theorem zaN{p:Prop}(h:p:=by have:=IE (b:=b) (at':=p1) (e:=er1) (most:=128) k1;rw[g2] at this;exact this):p:=h
theorem zaO{p:Prop}(h:p:=by have:=IE (b:=b) (at':=p2) (e:=er2) (most:=32) k2;rw[g3] at this;exact this):p:=h
theorem zaP{p:Prop}(h:p:=by simp only[Ag];unfold zerosN;simp;omega):p:=h
theorem zaQ{p:Prop}(h:p:=by have:=IC (b:=b) (at':=p0) (e:=er0) (size:=1) k0;rw[g1] at this;exact this):p:=h
theorem zaR{p:Prop}(h:p:=by have:=IC (b:=b) (at':=p1) (e:=er1) (size:=1) k1;rw[g2] at this;exact this):p:=h
theorem zaS{p:Prop}(h:p:=by have:=Gg (b:=b) (at':=p1) (e:=er1) (most:=128);rw[g2] at this;exact this):p:=h
theorem zaT{p:Prop}(h:p:=by simp only[AB,AU,AO];omega):p:=h
theorem zaU{p:Prop}(h:p:=by rw[List.length_drop];omega):p:=h
theorem zaV{p:Prop}(h:p:=by first|omega|decide|assumption|(simp only[AU,D5,Cm,AB,AC,AO,AP,CO,LL] at *<;>omega)|(simp;omega)):p:=h
theorem zaW{p:Prop}(h:p:=by rw[GK,Ew];rfl):p:=h
theorem zaX{p:Prop}(h:p:=by simp[List.getD,show c<d.length by omega]):p:=h
theorem zaY{p:Prop}(h:p:=by have:=Gn (b:=b) (at':=p0) (e:=er0) (most:=1024) (by decide);rw[g1] at this;simp only at this;omega):p:=h
theorem zaZ{p:Prop}(h:p:=by have:=Gn (b:=b) (at':=p1) (e:=er1) (most:=128) (by decide);rw[g2] at this;simp only at this;omega):p:=h
theorem za0{p:Prop}(h:p:=by simpa using h):p:=h
theorem za1{p:Prop}(h:p:=by have:=Gn (b:=b) (at':=p0) (e:=er0) (most:=32) (by decide);rw[g1] at this;simp only at this;omega):p:=h
theorem za2{p:Prop}(h:p:=by simp only[Rep];exact⟨.inr trivial,by simp,UR h2⟩):p:=h
theorem za3{p:Prop}(h:p:=by have:=Gn (b:=b) (at':=0) (e:=0) (most:=64) (by decide);rw[g0] at this;simp only at this;omega):p:=h
theorem za4{p:Prop}(h:p:=by have:=Gn (b:=b) (at':=0) (e:=0) (most:=32) (by decide);rw[g0] at this;simp only at this;omega):p:=h
theorem za5{p:Prop}(h:p:=by rw[List.length_take];omega):p:=h
theorem za6{p:Prop}(h:p:=by cases h):p:=h
theorem za7{p:Prop}(h:p:=by first|assumption|exact⟨by assumption,by assumption⟩|omega):p:=h
theorem za8{p:Prop}(h:p:=by rw[Nj _ _ _ _ (Nat.le_refl _)];omega):p:=h
theorem za9{p:Prop}(h:p:=by have:=IE (b:=b) (at':=0) (e:=0) (most:=64) (Nat.zero_le _);rw[g0] at this;exact this):p:=h
theorem zba{p:Prop}(h:p:=by have:=IE (b:=b) (at':=0) (e:=0) (most:=32) (Nat.zero_le _);rw[g0] at this;exact this):p:=h
theorem zbb{p:Prop}(h:p:=by show(bif fits l 32768 then _ else _)=_;rw[show fits l 32768=true from Dy (by omega)];rfl):p:=h
theorem zbc{p:Prop}(h:p:=by rw[show(j+1).toNat=j.toNat+1 from by omega];exact yR a b _ (by omega) (by omega) ht hab):p:=h
theorem zbd{p:Prop}(h:p:=by have:=of_decide_eq_true hf;simp_all[lapp0]):p:=h
theorem zbe{p:Prop}(h:p:=by rw[show(UInt64.ofNat 9223372036854775808).toNat=9223372036854775808 from by decide];omega):p:=h
theorem zbf{p:Prop}(h:p:=by(exact Kp.st_ (by assumption) (by assumption))):p:=h
theorem zbg{p:Prop}(h:p:=by rw[D8 hw];rfl):p:=h
theorem zbh{p:Prop}(h:p:=by simp[Ar,fieldsB,IM];omega):p:=h
theorem zbi{p:Prop}(h:p:=by rw[List.length_append,hsl];omega):p:=h
theorem zbj{p:Prop}(h:p:=by(simp only[A8,LL] at *<;>omega)):p:=h
theorem zbk{p:Prop}(h:p:=by rw[Ae,AB,AB,List.length_append,List.length_nil];omega):p:=h
theorem zbl{p:Prop}(h:p:=by have:=IE (b:=b) (at':=p0) (e:=er0) (most:=1024) k0;rw[g1] at this;exact this):p:=h
theorem zbm{p:Prop}(h:p:=by have:=IE (b:=b) (at':=p3) (e:=er3) (most:=32) k3;rw[g4] at this;exact this):p:=h
theorem zbn{p:Prop}(h:p:=by have:=IE (b:=b) (at':=p0) (e:=er0) (most:=32) k0;rw[g1] at this;exact this):p:=h
theorem zbo{p:Prop}(h:p:=by have:=Gg (b:=b) (at':=p0) (e:=er0) (most:=1024);rw[g1] at this;exact this):p:=h
theorem zbp{p:Prop}(h:p:=by(exact as0 (by omega) (by omega))):p:=h
theorem zbq{p:Prop}(h:p:=by have:=iK (b:=b) (at':=p1) (e:=er1) (n:=32) k1;rw[g2] at this;exact this):p:=h
theorem zbr{p:Prop}(h:p:=by have:=Gg (b:=b) (at':=p0) (e:=er0) (most:=32);rw[g1] at this;exact this):p:=h
theorem zbs{p:Prop}(h:p:=by simpa [Nat.blt_eq] using h):p:=h
theorem zbt{p:Prop}(h:p:=by show 0<=s.vc+n/\s.vc+n<=1099511627776;omega):p:=h
theorem zbu{p:Prop}(h:p:=by have:=Gg (b:=b) (at':=0) (e:=0) (most:=64);rw[g0] at this;exact this):p:=h
theorem zbv{p:Prop}(h:p:=by have:=Uw (b:=b) (at':=p1) (e:=er1) (n:=32);rw[g2] at this;exact this):p:=h
theorem zbw{p:Prop}(h:p:=by have:=Gg (b:=b) (at':=0) (e:=0) (most:=32);rw[g0] at this;exact this):p:=h
theorem zbx{p:Prop}(h:p:=by rwa [List.take_of_length_le (by omega),List.take_of_length_le (by omega)] at ht):p:=h
theorem zby{p:Prop}(h:p:=by rw[hby];exact growslice_fits (by omega) (by omega)):p:=h
theorem zbz{p:Prop}(h:p:=by simp only[LL,Af];omega):p:=h
theorem zbA{p:Prop}(h:p:=by have:=ho.2.1;omega):p:=h
theorem zbB{p:Prop}(h:p:=by rw[show((j:Int)+1)=((j+1:Nat):Int) from by omega,<-A62];rfl):p:=h
theorem zbC{p:Prop}(h:p:=by simp at h):p:=h
theorem zbD{p:Prop}(h:p:=by rw[show k+1+j=Dx x+(k+1+j-Dx x) from by omega];exact iI _ _):p:=h
theorem zbE{p:Prop}(h:p:=by rw[<-show t=64 from by omega,<-hs,List.take_of_length_le (by omega)]):p:=h
theorem zbF{p:Prop}(h:p:=by rw[<-show t=80 from by omega,<-hs,List.take_of_length_le (by omega)]):p:=h
theorem zbG{p:Prop}(h:p:=by have:=ho.1;omega):p:=h
theorem zbH{p:Prop}(h:p:=by rw[Ew,GK];rfl):p:=h
theorem zbI{p:Prop}(h:p:=by rw[Int.toNat_natCast,He];omega):p:=h
theorem zbJ{p:Prop}(h:p:=by rw[MP _ _ _ _ 35 (fun c _=>Bo _ _ _) 35 (Nat.le_refl _)];omega):p:=h
theorem zbK{p:Prop}(h:p:=by simp only[Rep,Ai];exact⟨[],rfl,rfl⟩):p:=h
theorem zbL{p:Prop}(h:p:=by rw[V5 hs (by omega),hx];rfl):p:=h
theorem zbM{p:Prop}(h:p:=by simp only[AU,List.length_nil];omega):p:=h
theorem zbN{p:Prop}(h:p:=by rw[decide_eq_false ha];rfl):p:=h
theorem zbO{p:Prop}(h:p:=by rw[FH];rfl):p:=h
theorem zbP{p:Prop}(h:p:=by unfold Nl;rw[Ff (by omega)];rfl):p:=h
theorem zbQ{p:Prop}(h:p:=by simpa only[Py] using hn):p:=h
theorem zbR{p:Prop}(h:p:=by simp[Region.wanted,hy]):p:=h
theorem zbS{p:Prop}(h:p:=by rw[U3 (by omega),He]):p:=h
theorem zbT{p:Prop}(h:p:=by simp_all[QM,Jj]):p:=h
theorem zbU{p:Prop}(h:p:=by simp at hl;omega):p:=h
namespace Go.Eng
open Go Go.RowKit
set_option linter.unusedVariables false
inductive SV where
 | v (x:Value)
 | u8 (x:UInt8)
 | u32 (x:UInt32)
 | u64 (x:UInt64)
def byteV(b:UInt8):Value:=.int .u8 (b.toNat:Int)
def G7(b:UInt32):Value:=.int .u32 (b.toNat:Int)
def KO(b:UInt64):Value:=.int .u64 (b.toNat:Int)
def SV.den:SV->Value
 | .v x=>x
 | .u8 b=>byteV b
 | .u32 b=>G7 b
 | .u64 b=>KO b
def SV.of:Value->SV
 | .int .u8 (.ofNat n)=>bif Nat.blt n 256 then .u8 (UInt8.ofNat n) else .v (.int .u8 (.ofNat n))
 | .int .u32 (.ofNat n)=>bif Nat.blt n 4294967296 then .u32 (UInt32.ofNat n) else .v (.int .u32 (.ofNat n))
 | .int .u64 (.ofNat n)=>bif Nat.blt n 18446744073709551616 then .u64 (UInt64.ofNat n) else .v (.int .u64 (.ofNat n))
 | x=>.v x
theorem SV.den_of(x:Value):(SV.of x).den=x:=by
 unfold SV.of
 split
 ·rename_i n
  cases h:Nat.blt n 256
  ·rfl
  ·have hn:n<256:=zbs
   simp[SV.den,byteV,Nat.mod_eq_of_lt hn]
 ·rename_i n
  cases h:Nat.blt n 4294967296
  ·rfl
  ·have hn:n<4294967296:=zbs
   simp[SV.den,G7,Nat.mod_eq_of_lt hn]
 ·rename_i n
  cases h:Nat.blt n 18446744073709551616
  ·rfl
  ·have hn:n<18446744073709551616:=zbs
   simp[SV.den,KO,Nat.mod_eq_of_lt hn]
 ·rfl
abbrev Lst:=List (Nat×SV)
def lkp(t:Nat):Lst->Option SV
 | []=>none
 | (d,v)::L=>bif Nat.beq t d then some v else lkp t L
def evo(L:Lst):Operand->Option SV
 | .tmp t=>lkp t L
 | .const c=>some (SV.of c)
 | .global g=>some (.v (.pointer (some ⟨g,0,none⟩)))
 | .func g=>some (.v (.func (.func g) #[] #[]))
def Agr(a:Act)(L:Lst):Prop:=∀ t s,lkp t L=some s->a.tmps.getD t undef=s.den
def Val(e:Operand->Value)(L:Lst):Prop:=∀ x s,evo L x=some s->e x=s.den
theorem Agr.val{a:Act}{L:Lst}(h:Agr a L):Val a.eval L:=by
 intro x s hx
 cases x with
 | tmp t=>exact h t s hx
 | const c=>simp only[evo,Option.some.injEq] at hx;subst hx;exact(SV.den_of c).symm
 | global g|func g=>simp only[evo,Option.some.injEq] at hx;subst hx;rfl
theorem lkp_cons(t d:Nat)(v:SV)(L:Lst):lkp t ((d,v)::L)=if t=d then some v else lkp t L:=by
 simp_all[lkp]
theorem SQ(xs:Array Value)(d:Nat)(v:Value)(h:d<xs.size):(xs.setIfInBounds d v).getD d undef=v:=by
 simp_all
theorem XG(xs:Array Value)(d t:Nat)(v:Value)(h:t≠d):(xs.setIfInBounds d v).getD t undef=xs.getD t undef:=by
 simp only[Array.getD_eq_getD_getElem?,Array.getElem?_setIfInBounds]
 grind
theorem Agr.put{a:Act}{L:Lst}(h:Agr a L){d:Nat}(s:SV)(hd:d<a.tmps.size):Agr (a.put (some d) s.den) ((d,s)::L):=by
 intro t u hu
 rw[lkp_cons] at hu
 by_cases ht:t=d
 ·rw[if_pos ht] at hu
  obtain rfl:=Option.some.inj hu
  subst ht
  exact SQ _ _ _ hd
 ·rw[if_neg ht] at hu
  show(a.tmps.setIfInBounds d s.den).getD t undef=u.den
  rw[XG _ _ _ _ ht]
  exact h t u hu
def Sub:Lst->Lst->Prop
 | [],_=>True
 | (t,v)::r,L=>lkp t L=some v/\Sub r L
theorem Sub.lkp{L' L:Lst}(h:Sub L' L){t:Nat}{v:SV}(ht:lkp t L'=some v):Go.Eng.lkp t L=some v:=by
 induction L' with
 | nil=>cases ht
 | cons p r ih =>
  obtain⟨d,u⟩:=p
  rw[lkp_cons] at ht
  by_cases e:t=d
  ·rw[if_pos e] at ht;obtain rfl:=Option.some.inj ht;rw[e];exact h.1
  ·rw[if_neg e] at ht;exact ih h.2 ht
theorem Agr.sub{a:Act}{L L':Lst}(h:Agr a L)(hs:Sub L' L):Agr a L':=fun t s ht=>h t s (hs.lkp ht)
def Post:=Exit->Lst->World->Prop
def lift(n:Nat)(Q:Post):Exit->Act->World->Prop:=fun e a w=>a.tmps.size=n/\a.defers=[]/\∃ L,Agr a L/\Q e L w
def FW(P:Program)(n:Nat)(c:Code)(Q:Post)(L:Lst)(w:World):Prop :=
 ∀ a:Act,a.tmps.size=n->a.defers=[]->Agr a L->c.wp P (lift n Q) a w
def blk(id:Nat)(Q:Post):Post:=fun e L w=>match e with|.exit id'=>if id'=id then Q .normal L w else Q (.exit id') L w|e=>Q e L w
section
variable {P:Program}{n:Nat}{Q:Post}{L:Lst}{w:World}
theorem FW.mono{c:Code}{Q':Post}(h:FW P n c Q L w)(hq:∀ e L w,Q e L w->Q' e L w):FW P n c Q' L w :=
 fun a h1 h2 h3=>wp_mono (h a h1 h2 h3) fun e a w ⟨i,j,L,k,q⟩=>⟨i,j,L,k,hq _ _ _ q⟩
theorem FW.sub{c:Code}{L':Lst}(hs:Sub L' L)(h:FW P n c Q L' w):FW P n c Q L w :=
 fun a h1 h2 h3=>h a h1 h2 (h3.sub hs)
end
def xA(P:Program)(e:Operand->Value)(op:Op)(ty:TypeId)(w:World)(K:Value->World->Prop):Prop :=
 match(execOp e ⟨none,op,ty, "", #[],none⟩).run P w with
 | .ok (.value v) w'=>K v w'
 | .ok .skip w'=>K undef w'
 | .ok (.enter f args) w'=>Calls P f args w' fun|.returned v,w''=>K v w''|_,_=>False
 | _=>False
theorem Jz{P:Program}{e:Operand->Value}{op:Op}{ty:TypeId}{w:World}{K K':Value->World->Prop}(h:xA P e op ty w K)(hk:∀ v w,K v w->K' v w):xA P e op ty w K':=by
 unfold xA at *
 split at h
 ·grind
 ·grind
 ·refine h.mono ?_
  grind
 ·exact h
theorem fC(e:Operand->Value)(o:Oper):execOp e o=execOp e ⟨none,o.op,o.type, "", #[],none⟩:=by
 obtain⟨d,op,ty,pos,af,g⟩:=o
 cases op<;>rfl
theorem KQ{P:Program}{o:Oper}{a:Act}{w:World}{next:Act->World->Prop}{Q:Exit->Act->World->Prop}
  (h:xA P a.eval o.op o.type w fun v w'=>next (a.put o.dst v) w'):o.wp P a w next Q:=by
 unfold Oper.wp
 rw[fC]
 unfold xA at h
 generalize (execOp a.eval ⟨none,o.op,o.type, "", #[],none⟩).run P w=r at h ⊢
 cases r with
 | halt x w'=>exact h.elim
 | ok x w' =>
  cases x<;>first|exact h|exact h.elim|skip
  refine Calls.mono h ?_
  grind
def OP(P:Program)(L:Lst)(op:Op)(ty:TypeId)(w:World)(K:SV->World->Prop):Prop :=
 ∀ e,Val e L->xA P e op ty w fun v w'=>∃ s:SV,s.den=v/\K s w'
theorem OP.mono{P:Program}{L:Lst}{op:Op}{ty:TypeId}{w:World}{K K':SV->World->Prop}(h:OP P L op ty w K)(hk:∀ v w,K v w->K' v w):OP P L op ty w K' :=
 fun e he=>Jz (h e he) fun v w ⟨s,hs,k⟩=>⟨s,hs,hk _ _ k⟩
def RL(P:Program)(n:Nat)(ops:Array Oper)(Q:Post)(l:List Oper)(L:Lst)(w:World):Prop :=
 ∀ a:Act,a.tmps.size=n->a.defers=[]->Agr a L->wpList P ops (lift n Q) l a w
section
variable {P:Program}{n:Nat}{Q:Post}{L:Lst}{w:World}{ops:Array Oper}{rest:List Oper}
theorem ji(a:Act)(d:Option Nat)(v:Value):(a.put d v).tmps.size=a.tmps.size:=by cases d<;>simp[Act.put]
theorem put_defers(a:Act)(d:Option Nat)(v:Value):(a.put d v).defers=a.defers:=by cases d<;>rfl
theorem st{d:Nat}{op:Op}{ty:TypeId}{pos:String}{af:Array Edge}(h:OP P L op ty w fun s w'=>RL P n ops Q rest ((d,s)::L) w')(hd:Nat.blt d n=true):
  RL P n ops Q (⟨some d,op,ty,pos,af,none⟩::rest) L w:=by
 intro a h1 h2 h3
 refine wpList_plain rfl fun K hK=>KQ ?_
 refine Jz (h a.eval h3.val) ?_
 rintro v w' ⟨s,rfl,hr⟩
 have hdn:d<n:=zaD
 exact hK _ _ (hr _ (by rw[ji];exact h1) (by rw[put_defers];exact h2) (h3.put s zaa))
end
def Ret(R:Value->World->Prop):Ending->World->Prop:=fun e w=>match e with|.returned v=>R v w|_=>False
theorem Ret.mono{P:Program}{f:FuncId}{args:Array Value}{w:World}{R R':Value->World->Prop}(h:Calls P f args w (Ret R))(hr:∀ v w,R v w->R' v w):Calls P f args w (Ret R') :=
 h.mono fun e w h=>by cases e<;>first|exact hr _ _ h|exact h
section
variable {P:Program}{n:Nat}{Q:Post}{L:Lst}{w:World}{next:Lst->World->Prop}{id id':Nat}
end
end Go.Eng
namespace Go.Eng
open Go Go.RowKit
set_option linter.unusedVariables false
section
variable {P:Program}{L:Lst}{w:World}{ty:TypeId}{K:SV->World->Prop}
theorem A6O{op:Op}{s:SV}{w':World} (h:∀ e,Val e L->(execOp e ⟨none,op,ty, "", #[],none⟩).run P w=.ok (.value s.den) w') (k:K s w'):OP P L op ty w K:=by
 intro e he
 unfold xA
 grind
section i64
variable {t yt:TypeId}{x y:Operand}{a b:Int}(hx:evo L x=some (.v (.int .i64 a)))(hy:evo L y=some (.v (.int .i64 b)))
include hx hy
end i64
theorem jk(a b:Nat)(ha:a<9223372036854775808)(hb:b<9223372036854775808):bits .or .i64 (a:Int) (b:Int)=((a|||b:Nat):Int):=by
 have h:a|||b<2^63:=Nat.or_lt_two_pow zaa zaa
 show IntKind.i64.wrap (((BitVec.ofInt 64 (a:Int)|||BitVec.ofInt 64 (b:Int)).toNat:Nat):Int)=_
 grind[IntWalk.i64_in]
def jl(op:BinOp)(a b:Int):Bool:=match op with
 | .eql=>a==b
 | .neq=>a != b
 | .lss=>decide (a<b)
 | .leq=>decide (a<=b)
 | .gtr=>decide (a>b)
 | _=>decide (a>=b)
def YT:BinOp->Bool|.eql|.neq|.lss|.leq|.gtr|.geq=>true|_=>false
def SV.num:SV->Option (IntKind×Int)
 | .v (.int k n)=>some (k,n)
 | .u8 b=>some (.u8,(b.toNat:Int))
 | .u32 b=>some (.u32,(b.toNat:Int))
 | .u64 b=>some (.u64,(b.toNat:Int))
 | _=>none
theorem MF{op:BinOp}(ho:YT op=true)(t:TypeId)(k:IntKind)(a b:Int):(binOp op t (.int k a) (.int k b)).run P w=.ok (SV.v (.bool (jl op a b))).den w:=by
 cases op<;>first|(cases ho;done)|(simp[binOp,Op.intCmp,jl,SV.den];done)|(simp only[binOp,ne_eq,not_true_eq_false,if_false,Op.intCmp,jl,SV.den];rfl)
theorem wrap_u8(n:Nat):IntKind.u8.wrap (n:Int)=((UInt8.ofNat n).toNat:Int):=by
 simp[IntKind.wrap_u8]
theorem wrap_u32(n:Nat):IntKind.u32.wrap (n:Int)=((UInt32.ofNat n).toNat:Int):=by
 simp[IntKind.wrap_u32]
theorem wrap_u64(n:Nat):IntKind.u64.wrap (n:Int)=((UInt64.ofNat n).toNat:Int):=by
 simp[IntKind.wrap,IntKind.bits,IntKind.signed]
def A1H:BinOp->UInt8->UInt8->UInt8
 | .add,a,b=>a+b|.sub,a,b=>a-b|.mul,a,b=>a*b|.and,a,b=>a&&&b|.or,a,b=>a|||b|.xor,a,b=>a^^^b|_,a,_=>a
def jm:BinOp->UInt32->UInt32->UInt32
 | .add,a,b=>a+b|.sub,a,b=>a-b|.mul,a,b=>a*b|.and,a,b=>a&&&b|.or,a,b=>a|||b|.xor,a,b=>a^^^b|_,a,_=>a
def UE:BinOp->UInt64->UInt64->UInt64
 | .add,a,b=>a+b|.sub,a,b=>a-b|.mul,a,b=>a*b|.and,a,b=>a&&&b|.or,a,b=>a|||b|.xor,a,b=>a^^^b|_,a,_=>a
def UF:BinOp->Bool|.add|.sub|.mul|.and|.or|.xor=>true|_=>false
theorem YU(m a b:Nat)(hb:b<=m)(hm:0<m):((a:Int)-b)%m=((m-b+a)%m:Nat):=by
 rw[Int.natCast_emod,Int.natCast_add,Int.natCast_sub hb,show((m:Int)-b+a)=(a-b)+m from by omega,Int.add_emod_right]
theorem A1I{op:BinOp}(ho:UF op=true)(t:TypeId)(a b:UInt8):(binOp op t (byteV a) (byteV b)).run P w=.ok (byteV (A1H op a b)) w:=by
 have ha:=a.toNat_lt
 have hb:=b.toNat_lt
 cases op<;>first|cases ho|skip
 ·simp only[byteV,binOp,Op.intArith,A1H,ne_eq,not_true_eq_false,if_false,Sem.run_pure]
  rw[<-Int.natCast_add,wrap_u8,<-UInt8.ofNat_toNat (x:=a+b),UInt8.toNat_add];simp
 ·simp only[byteV,binOp,Op.intArith,A1H,ne_eq,not_true_eq_false,if_false,Sem.run_pure]
  rw[IntKind.wrap_u8,UInt8.toNat_sub,<-YU 256 _ _ zaa zaa];rfl
 ·simp only[byteV,binOp,Op.intArith,A1H,ne_eq,not_true_eq_false,if_false,Sem.run_pure]
  rw[<-Int.natCast_mul,wrap_u8,UInt8.toNat_mul];simp
 ·show Result.ok (Value.int .u8 (IntKind.u8.wrap (((BitVec.ofInt 8 (a.toNat:Int)&&&BitVec.ofInt 8 (b.toNat:Int)).toNat:Nat):Int))) w=.ok (.int .u8 ((a&&&b).toNat:Int)) w
  rw[wrap_u8];simp
 ·show Result.ok (Value.int .u8 (IntKind.u8.wrap (((BitVec.ofInt 8 (a.toNat:Int)|||BitVec.ofInt 8 (b.toNat:Int)).toNat:Nat):Int))) w=.ok (.int .u8 ((a|||b).toNat:Int)) w
  rw[wrap_u8];simp
 ·show Result.ok (Value.int .u8 (IntKind.u8.wrap (((BitVec.ofInt 8 (a.toNat:Int)^^^BitVec.ofInt 8 (b.toNat:Int)).toNat:Nat):Int))) w=.ok (.int .u8 ((a^^^b).toNat:Int)) w
  rw[wrap_u8];simp
theorem zO{op:BinOp}(ho:UF op=true)(t:TypeId)(a b:UInt32):(binOp op t (G7 a) (G7 b)).run P w=.ok (G7 (jm op a b)) w:=by
 have ha:=a.toNat_lt
 have hb:=b.toNat_lt
 cases op<;>first|cases ho|skip
 ·simp only[G7,binOp,Op.intArith,jm,ne_eq,not_true_eq_false,if_false,Sem.run_pure]
  rw[<-Int.natCast_add,wrap_u32,UInt32.toNat_add];simp
 ·simp only[G7,binOp,Op.intArith,jm,ne_eq,not_true_eq_false,if_false,Sem.run_pure]
  rw[IntKind.wrap_u32,UInt32.toNat_sub,<-YU 4294967296 _ _ zaa zaa];rfl
 ·simp only[G7,binOp,Op.intArith,jm,ne_eq,not_true_eq_false,if_false,Sem.run_pure]
  rw[<-Int.natCast_mul,wrap_u32,UInt32.toNat_mul];simp
 ·show Result.ok (Value.int .u32 (IntKind.u32.wrap (((BitVec.ofInt 32 (a.toNat:Int)&&&BitVec.ofInt 32 (b.toNat:Int)).toNat:Nat):Int))) w=.ok (.int .u32 ((a&&&b).toNat:Int)) w
  rw[wrap_u32];simp
 ·show Result.ok (Value.int .u32 (IntKind.u32.wrap (((BitVec.ofInt 32 (a.toNat:Int)|||BitVec.ofInt 32 (b.toNat:Int)).toNat:Nat):Int))) w=.ok (.int .u32 ((a|||b).toNat:Int)) w
  rw[wrap_u32];simp
 ·show Result.ok (Value.int .u32 (IntKind.u32.wrap (((BitVec.ofInt 32 (a.toNat:Int)^^^BitVec.ofInt 32 (b.toNat:Int)).toNat:Nat):Int))) w=.ok (.int .u32 ((a^^^b).toNat:Int)) w
  rw[wrap_u32];simp
theorem zQ{op:BinOp}(ho:UF op=true)(t:TypeId)(a b:UInt64):(binOp op t (KO a) (KO b)).run P w=.ok (KO (UE op a b)) w:=by
 have ha:=a.toNat_lt
 have hb:=b.toNat_lt
 cases op<;>first|cases ho|skip
 ·simp only[KO,binOp,Op.intArith,UE,ne_eq,not_true_eq_false,if_false,Sem.run_pure]
  rw[<-Int.natCast_add,wrap_u64,UInt64.toNat_add];simp
 ·simp only[KO,binOp,Op.intArith,UE,ne_eq,not_true_eq_false,if_false,Sem.run_pure]
  rw[show IntKind.u64.wrap ((a.toNat:Int)-b.toNat)=((a.toNat:Int)-b.toNat)%(18446744073709551616:Nat) from by simp[IntKind.wrap,IntKind.bits,IntKind.signed],UInt64.toNat_sub,<-YU 18446744073709551616 _ _ zaa zaa]
 ·simp only[KO,binOp,Op.intArith,UE,ne_eq,not_true_eq_false,if_false,Sem.run_pure]
  rw[<-Int.natCast_mul,wrap_u64,UInt64.toNat_mul];simp
 ·show Result.ok (Value.int .u64 (IntKind.u64.wrap (((BitVec.ofInt 64 (a.toNat:Int)&&&BitVec.ofInt 64 (b.toNat:Int)).toNat:Nat):Int))) w=.ok (.int .u64 ((a&&&b).toNat:Int)) w
  rw[wrap_u64];simp
 ·show Result.ok (Value.int .u64 (IntKind.u64.wrap (((BitVec.ofInt 64 (a.toNat:Int)|||BitVec.ofInt 64 (b.toNat:Int)).toNat:Nat):Int))) w=.ok (.int .u64 ((a|||b).toNat:Int)) w
  rw[wrap_u64];simp
 ·show Result.ok (Value.int .u64 (IntKind.u64.wrap (((BitVec.ofInt 64 (a.toNat:Int)^^^BitVec.ofInt 64 (b.toNat:Int)).toNat:Nat):Int))) w=.ok (.int .u64 ((a^^^b).toNat:Int)) w
  rw[wrap_u64];simp
theorem zS{e:Operand->Value}{t ty:TypeId}{x:Operand}{a:UInt32}{w:World}(hx:e x=G7 a):(execOp e ⟨none,.unOp .xor t x,ty, "", #[],none⟩).run P w=.ok (.value (G7 (~~~a))) w:=by
 rw[show execOp e ⟨none,.unOp .xor t x,ty, "", #[],none⟩=(do pure (.value (<-Op.unary .xor (e x)))) from rfl,hx]
 have h1:Op.unary .xor (G7 a)=pure (.int .u32 (IntKind.u32.wrap (((BitVec.ofInt 32 4294967295^^^BitVec.ofInt 32 (a.toNat:Int)).toNat:Nat):Int))):=rfl
 rw[h1,wrap_u32,show BitVec.ofInt 32 4294967295=BitVec.allOnes 32 from by decide,BitVec.allOnes_xor]
 have:=a.toNat_lt
 simp[G7]
 omega
section shifts
variable {t yt:TypeId}{x y:Operand}
end shifts
theorem A1J(src dst:TypeId)(k k':IntKind)(a:Int){d:TypeDesc}(hs:P.underlying src=some d)(hd:P.underlying dst=some (.int k')):
  (convert src dst (.int k a)).run P w=.ok (.int k' (k'.wrap a)) w:=by
 unfold convert
 simp only[Sem.run_bind,run_underlying hs,run_underlying hd,Result.andThen_ok]
 rfl
section conv
variable {src dst:TypeId}{x:Operand}{d:TypeDesc}
theorem XH(a:Int):IntKind.u8.wrap a=((UInt8.ofInt a).toNat:Int):=by
 rw[IntKind.wrap_u8];simp[UInt8.ofInt];omega
theorem UG(a:Int):IntKind.u32.wrap a=((UInt32.ofInt a).toNat:Int):=by
 rw[IntKind.wrap_u32];simp[UInt32.ofInt];omega
theorem UH(a:Int):IntKind.u64.wrap a=((UInt64.ofInt a).toNat:Int):=by
 simp[IntKind.wrap,IntKind.bits,IntKind.signed,UInt64.ofInt];omega
end conv
end
end Go.Eng
namespace Go.Eng
open Go Go.RowKit
set_option linter.unusedVariables false
abbrev Ext(w w':World):Prop:=Below w.heap.size w w'
theorem Ext.refl(w:World):Ext w w:=Below.refl _ _
theorem Ext.trans{a b c:World}(h:Ext a b)(k:Ext b c):Ext a c:=Below.trans h (Below.mono k h.size)
theorem Ext.alloc(w:World)(o:Obj):Ext w (w.alloc o):=(Below.refl _ _).alloc (Nat.le_refl _) o
theorem Ext.drew(w:World):Ext w w.drew:=(Below.refl _ _).drew
theorem Ext.grown{w0 w w':World}{r:Option Nat}(h:Ext w0 w)(hg:w.grownBy w' r)(hr:∀ k,r=some k->w0.heap.size<=k):Ext w0 w':=Below.grown h hg h.size hr
theorem grownBy.trans{a b c:World}{r:Option Nat}(h:a.grownBy b r)(k:b.grownBy c r):a.grownBy c r :=
 ⟨k.os.trans h.os,k.tape.trans h.tape,k.output.trans h.output,Nat.le_trans h.size k.size,fun i hi hr=>(k.block i (Nat.lt_of_lt_of_le hi h.size) hr).trans (h.block i hi hr)⟩
theorem grownBy.ext{a b c:World}{r:Option Nat}(h:a.grownBy b r)(k:Ext b c):a.grownBy c r :=
 ⟨k.os.trans h.os,k.tape.trans h.tape,k.output.trans h.output,Nat.le_trans h.size k.size,fun i hi hr=>(k.block i (Nat.lt_of_lt_of_le hi h.size)).trans (h.block i hi hr)⟩
theorem grownBy.of_ext{a b:World}(k:Ext a b)(r:Option Nat):a.grownBy b r :=
 ⟨k.os,k.tape,k.output,k.size,fun i hi _=>k.block i hi⟩
theorem add_add(p:Addr)(i j:Nat):(p.add i).add j=p.add (i+j):=by
 grind[Addr.add]
theorem add_block(p:Addr)(i:Nat):(p.add i).block=p.block:=by grind[Addr.add]
def Cs(w:World)(p:Addr)(cells:List Value):Prop:=∀ j u,cells[j]?=some u->w.cell? (p.add j)=some u
theorem jo{w w':World}{p:Addr}{u:Value}(h:w.cell? p=some u)(he:Ext w w'):w'.cell? p=some u :=
 (he.cell (World.block_lt_of_cell? w p h)).trans h
theorem cell_grown{w w':World}{p:Addr}{u:Value}{r:Option Nat}(h:w.cell? p=some u)(hg:w.grownBy w' r)(hne:r≠some p.block):w'.cell? p=some u :=
 hg.cell h (fun e=>hne e.symm)
theorem Cs.ext{w w':World}{p:Addr}{c:List Value}(h:Cs w p c)(he:Ext w w'):Cs w' p c:=fun j u hu=>jo (h j u hu) he
theorem Cs.grown{w w':World}{p:Addr}{c:List Value}{r:Option Nat}(h:Cs w p c)(hg:w.grownBy w' r)(hne:r≠some p.block):Cs w' p c :=
 fun j u hu=>cell_grown (h j u hu) hg (by grind[add_block])
theorem Cs.drop{w:World}{p:Addr}{c:List Value}(h:Cs w p c)(k:Nat):Cs w (p.add k) (c.drop k):=fun j u hu=>by
 rw[add_add];exact h _ u zaD
theorem Cs.take{w:World}{p:Addr}{c:List Value}(h:Cs w p c)(k:Nat):Cs w p (c.take k):=fun j u hu=>by
 rw[List.getElem?_take] at hu
 split at hu
 ·exact h j u hu
 ·cases hu
def Sl(w:World)(sz:Nat)(v:Value)(cells:List Value)(n:Nat):Prop :=
 ∃ a cap,v=.slice a n cap/\cells.length=n*sz/\n<=cap/\cap<=maxLen/\(a=none->n=0/\cap=0)/\∀ p,a=some p->Cs w p cells
def A5n(v:Value):Prop:=∃ a n,v=.slice a n n
theorem Sl.ext{w w':World}{sz n:Nat}{v:Value}{c:List Value}(h:Sl w sz v c n)(he:Ext w w'):Sl w' sz v c n:=by
 obtain⟨a,cap,h1,h2,h3,h4,h5,h6⟩:=h
 exact⟨a,cap,h1,h2,h3,h4,h5,fun p hp=>(h6 p hp).ext he⟩
theorem Sl.grown{w w':World}{sz n:Nat}{v:Value}{c:List Value}{r:Option Nat}(h:Sl w sz v c n)(hg:w.grownBy w' r)(hne:∀ g,v.ownBlock=some g->r≠some g):Sl w' sz v c n:=by
 obtain⟨a,cap,h1,h2,h3,h4,h5,h6⟩:=h
 refine⟨a,cap,h1,h2,h3,h4,h5,fun p hp=>(h6 p hp).grown hg ?_⟩
 subst hp;subst h1
 exact hne p.block rfl
theorem Sl.len{w:World}{sz n:Nat}{v:Value}{c:List Value}(h:Sl w sz v c n):c.length=n*sz:=by obtain⟨_,_,_,h,_⟩:=h;exact h
theorem Sl.max{w:World}{sz n:Nat}{v:Value}{c:List Value}(h:Sl w sz v c n):n<=maxLen:=by obtain⟨_,_,_,_,h,h',_⟩:=h;omega
theorem Sl.nil(w:World)(sz:Nat):Sl w sz (.slice none 0 0) [] 0:=⟨none,0,rfl,by simp,Nat.le_refl _,by simp[maxLen],fun _=>⟨rfl,rfl⟩,fun p hp=>by cases hp⟩
theorem Sl.of_own{w:World}{base e sz n:Nat}{v:Value}{c:List Value}(h:w.ownsRow base e sz v n c):Sl w sz v c n:=by
 have hl:=h.1
 rcases h.2 with⟨rfl,rfl⟩|⟨g,cap,cur,rfl,hb,hh,hn,hm,hs,ht⟩
 ·simp_all[Sl.nil]
 ·exact⟨some ⟨g,0,none⟩,cap,rfl,hl,hn,hm,(fun h=>by cases h),fun p hp=>by obtain rfl:=Option.some.inj hp;exact fun j u hu=>h.cells rfl j u hu⟩
abbrev Bytes(w:World)(v:Value)(l:List UInt8):Prop:=Sl w 1 v (l.map byteV) l.length
structure SliceT (P:Program) (t e:TypeId) (z:Value) (sz bytes:Nat):Prop where
 ht:P.underlying t=some (.slice e)
 hi:(P.info? e).map (fun i=>(i.zero,i.size,i.bytes))=some (some z,sz,bytes)
 hzs:z.cells.size=sz
 hsz:0<sz
section
variable {P:Program}{L:Lst}{w:World}{ty:TypeId}{K:SV->World->Prop}{t e sz bytes:Nat}{z:Value}
theorem SliceT.run_size(T:SliceT P t e z sz bytes)(w:World):(sizeOf e).run P w=.ok sz w:=by
 obtain⟨i,h1,h2,h3,h4⟩:=info_parts T.hi
 simp[sizeOf,typeInfo,h1,h3]
theorem Ip(ρ:Operand->Value)(b:Builtin)(args:Array Operand)(ats:Array TypeId){v:Value}{w':World}
  (h:(builtin b ats ty (args.map fun|.const _=>true|_=>false) (args.map ρ)).run P w=.ok (.value v) w') :
  (execOp ρ ⟨none,.call {callee:=.builtin b,args:=args,argTypes:=ats},ty, "", #[],none⟩).run P w=.ok (.value v) w':=by
 have h1:execOp ρ ⟨none,.call {callee:=.builtin b,args:=args,argTypes:=ats},ty, "", #[],none⟩=(do let d<-resolve ρ {callee:=.builtin b,args:=args,argTypes:=ats} ty;invoke d.target d.args):=rfl
 grind[resolve,invoke]
end
end Go.Eng
namespace Go.Eng
open Go Go.RowKit
set_option linter.unusedVariables false
section
variable {P:Program}{L:Lst}{w:World}{ty:TypeId}{K:SV->World->Prop}{t e sz bytes:Nat}{z:Value}
theorem A6P{a:Option Addr}{n cap lo hi mx sz:Nat}{c:List Value}(hl:c.length=n*sz)(h3:n<=cap)(h4:cap<=maxLen)(h5:a=none->n=0/\cap=0)(h6:∀ p,a=some p->Cs w p c)
  (b1:lo<=hi) (b2:hi<=n) (b3:hi<=mx) (b4:mx<=cap) :
  Sl w sz (.slice (if mx=lo then a else a.map (·.add (lo*sz))) (hi-lo) (mx-lo)) ((c.drop (lo*sz)).take ((hi-lo)*sz)) (hi-lo):=by
 refine⟨_,_,rfl,?_,by omega,by omega,?_,?_⟩
 ·rw[List.length_take,List.length_drop,hl]
  have h1:hi*sz<=n*sz:=Nat.mul_le_mul_right _ b2
  rw[Nat.sub_mul];omega
 ·intro h
  split at h
  ·have:=h5 h;omega
  ·cases a with
   | none=>have:=h5 rfl;omega
   | some p=>simp at h
 ·intro p hp
  split at hp
  ·have:hi-lo=0:=zaa
   rw[this];simp[Cs]
  ·cases a with
   | none=>simp at hp
   | some q =>
    simp only[Option.map_some,Option.some.injEq] at hp
    subst hp
    exact((h6 q rfl).drop _).take _
theorem fD(T:SliceT P t e z sz bytes){a:Option Addr}{n cap:Nat}(lo hi mx:Option Value)(l h m:Nat)
  (hb:(Instr.sliceBounds true n cap lo hi mx).run P w=.ok (l,h,m) w) :
  (Instr.sliceAt t (.slice a n cap) lo hi mx).run P w=.ok (.slice (if m=l then a else a.map (·.add (l*sz))) (h-l) (m-l)) w:=by
 simp only[Instr.sliceAt,Sem.run_bind,run_underlying T.ht,Result.andThen_ok,Instr.slice,hb,T.run_size,Sem.run_pure]
theorem KA(k:IntKind)(i:Int)(y:Nat)(code:BoundsCode)(h0:0<=i)(h1:i<=y):(Instr.sliceBound (.int k i) y code).run P w=.ok i.toNat w:=by
 simp[Instr.sliceBound,asIntOf,h0,h1]
section
variable {x l h m:Operand}{v:Value}{n:Nat}{c:List Value}{il ih im:Int}
end
def Oi(d:TypeDesc):Bool:=match d with|.struct _|.array _ _=>false|_=>true
theorem Xn{d:TypeDesc}(ht:P.underlying t=some d)(hd:Oi d=true){p:Addr}{u:Value}(hc:w.cell? p=some u):(loadVar t p).run P w=.ok u w:=by
 have h1:(isAgg t).run P w=.ok false w:=by
  simp only[isAgg,Sem.run_bind,run_underlying ht,Result.andThen_ok]
  cases d<;>first|(cases hd;done)|rfl
 simp[loadVar,h1,hc]
theorem A6Q{x:Operand}{v:Value}{l:List UInt8}{src dst:TypeId}(hs:P.underlying src=some (.slice e))(he:P.underlying e=some (.int .u8))(hd:P.underlying dst=some .string)(hx:evo L x=some (.v v))(hv:Bytes w v l)
  (hk:K (.v (.string ⟨l.toArray⟩)) w):OP P L (.convert src dst x) ty w K:=by
 obtain⟨a,cap,rfl,hl,h3,h4,h5,h6⟩:=hv
 refine A6O (fun ρ hρ=>?_) hk
 have h1:execOp ρ ⟨none,.convert src dst x,ty, "", #[],none⟩=(do pure (.value (<-convert src dst (ρ x)))):=rfl
 rw[h1,hρ x _ hx]
 have hconv:(Conv.bytesToString (.slice a l.length cap)).run P w=.ok (.string ⟨l.toArray⟩) w:=by
  cases a with
  | none =>
   have:l=[]:=List.eq_nil_of_length_eq_zero (h5 rfl).1
   subst this
   rfl
  | some p =>
   have hcs:=h6 p rfl
   have hload:(loadCells p l.length).run P w=.ok (l.map byteV).toArray w:=by
    have:=run_loadCells_list (P:=P) (w:=w) p (l.map byteV) hcs
    simp_all
   have hm:(l.map byteV)=(l.map fun b=>(b.toNat:Int)).map (Value.int .u8):=by simp[byteV]
   rw[hm] at hload
   rw[run_bytesToString w p _ cap _ hload,foldl_push_bytes]
   congr 2
   have:(List.map (fun n:Int=>UInt8.ofNat n.toNat) (l.map fun b=>(b.toNat:Int)))=l:=by
    simp_all[List.map_congr_left]
   simp_all
 simp only[Sem.run_bind,convert,run_underlying hs,run_underlying hd,run_underlying he,Result.andThen_ok,SV.den,hconv,Sem.run_pure]
end
end Go.Eng
namespace Go.Eng
open Go Go.RowKit
set_option linter.unusedVariables false
variable {i j:Nat}
inductive Sp where
 | rig (s:SV)
 | flx (R:Value->World->Prop)
def Sp.ok:Sp->Value->World->Prop
 | .rig s,v,_=>v=s.den
 | .flx R,v,w=>R v w
def Sp.stable(R:Sp):Prop:=∀ v w w',R.ok v w->Ext w w'->R.ok v w'
theorem Sp.stable_rig(s:SV):(Sp.rig s).stable:=fun _ _ _ h _=>h
def fE(acc:List Nat)(o:Oper):Nat:=o.after.foldl (fun s e=>if Region.binds .any e then s|||2^e.on|||acc.getD (acc.length-1-e.on) 0 else s) 0
def masks:List Oper->List Nat->List Nat
 | [],acc=>acc
 | o::r,acc=>masks r (fE acc o::acc)
inductive Anc (ops:Array Oper):Nat->Nat->Prop
 | step {j i:Nat} {o:Oper} {e:Edge}:ops[j]?=some o->e∈o.after->Region.binds .any e=true->e.on=i->Anc ops j i
 | more {j i:Nat} {o:Oper} {e:Edge}:ops[j]?=some o->e∈o.after->Region.binds .any e=true->Anc ops e.on i->Anc ops j i
theorem zT(f:Nat->Edge->Nat)(S:Edge->Nat->Prop)(hf:∀ s e i,(f s e).testBit i=true->s.testBit i=true\/S e i):
  ∀(l:List Edge) (s i:Nat),(l.foldl f s).testBit i=true->s.testBit i=true\/∃ e∈l,S e i:=by
 intro l
 induction l with
 | nil=>intro s i h;exact .inl h
 | cons e r ih =>
  intro s i h
  rw[List.foldl_cons] at h
  rcases ih _ _ h with h|⟨e',he',h⟩
  ·rcases hf _ _ _ h with h|h
   ·exact .inl h
   ·exact .inr ⟨e,by simp,h⟩
  ·exact .inr ⟨e',by simp[he'],h⟩
def qj(ops:Array Oper)(acc:List Nat):Prop:=∀ j i,j<acc.length->(acc.getD (acc.length-1-j) 0).testBit i=true->Anc ops j i
theorem A1K(ops:Array Oper):∀(l:List Oper) (acc:List Nat),(∀ k,l[k]?=ops[acc.length+k]?)->(∀ j (o:Oper),ops[j]?=some o->∀ e∈o.after,Region.binds .any e=true->e.on<j)->qj ops acc->qj ops (masks l acc):=by
 intro l
 induction l with
 | nil=>intro acc _ _ h;exact h
 | cons o r ih =>
  intro acc hl hon h
  refine ih (fE acc o::acc) (fun k=>?_) hon ?_
  ·have:=hl (k+1)
   grind
  ·intro j i hj hb
   have ho:ops[acc.length]?=some o:=by have:=hl 0;simp_all
   simp only[List.length_cons] at hj hb
   by_cases hja:j=acc.length
   ·subst hja
    have hb':(fE acc o).testBit i=true:=zaJ
    unfold fE at hb'
    rw[<-Array.foldl_toList] at hb'
    have:=zT (fun s e=>if Region.binds .any e then s|||2^e.on|||acc.getD (acc.length-1-e.on) 0 else s)
     (fun e i=>Region.binds .any e=true/\(e.on=i\/(acc.getD (acc.length-1-e.on) 0).testBit i=true)) (by
      grind) o.after.toList 0 i hb'
    rcases this with hz|⟨e,he,hbd,h1|h1⟩
    ·simp at hz
    ·exact .step ho (Array.mem_toList_iff.1 he) hbd h1
    ·have hlt:=hon _ o ho e (Array.mem_toList_iff.1 he) hbd
     exact .more ho (Array.mem_toList_iff.1 he) hbd (h e.on i hlt h1)
   ·refine h j i zaa ?_
    grind
def A7a(ms:List Nat)(j i:Nat):Bool:=(ms.getD (ms.length-1-j) 0).testBit i
def allB(n:Nat)(f:Nat->Bool):Bool:=Nat.rec true (fun k ih=>f k&&ih) n
theorem Qx{n:Nat}{f:Nat->Bool}(h:allB n f=true):∀ i,i<n->f i=true:=by
 induction n with
 | zero=>omega
 | succ k ih =>
  have h':(f k&&allB k f)=true:=h
  grind
def I7(ops:Array Oper)(i:Nat):Option Nat:=(ops[i]?).bind (·.dst)
section
variable {P:Program}{n k:Nat}{ops:Array Oper}{w0:World}
structure DrawOK (n k:Nat) (ops:Array Oper):Prop where
 hk:k<=ops.size
 edge:∀(j:Nat) (o:Oper),ops[j]?=some o->∀ e∈o.after,Region.binds .any e=true->e.on<j
 dstn:∀(j:Nat) (o:Oper) (d:Nat),ops[j]?=some o->o.dst=some d->d<n
 dsts:∀(j:Nat) (o:Oper),ops[j]?=some o->j<k->∃ d,o.dst=some d
 sel:∀(j:Nat) (o:Oper),ops[j]?=some o->∀ cs b,o.op≠.select cs b
 late:∀ j i:Nat,k<=j->j<ops.size->i<j->Anc ops j i
 uniq:∀ i j d:Nat,i≠j->i<k->j<k->I7 ops i=some d->I7 ops j≠some d
 look:∀(i j d:Nat) (o:Oper),i≠j->ops[j]?=some o->I7 ops i=some d->d∈o.looksAt ops->i<ops.size->(i<j/\Anc ops j i)\/(j<i/\Anc ops i j)
def fF(ops:Array Oper)(L:Lst)(Rs:Nat->Sp)(j:Nat)(lk:List Nat)(a:Act)(w:World):Prop :=
 ∀ t∈lk,(∀ i,i<j->I7 ops i=some t->(Rs i).ok (a.tmps.getD t undef) w)/\((∀ i,i<j->I7 ops i≠some t)->∀ s,lkp t L=some s->a.tmps.getD t undef=s.den)
def A1L(P:Program)(n:Nat)(ops:Array Oper)(L:Lst)(w0:World)(Rs:Nat->Sp)(j:Nat):Prop :=
 ∀ o,ops[j]?=some o->∀(a:Act) (w:World),a.tmps.size=n->Ext w0 w->fF ops L Rs j (o.looksAt ops) a w ->
  (Region.wanted o (yielded ops a.tmps)=true->xA P a.eval o.op o.type w fun v w'=>Ext w w'/\(Rs j).ok v w') /\
  (Region.wanted o (yielded ops a.tmps)=false->(Rs j).ok undef w)
def Ia(listed:Array Bool)(i:Nat):Prop:=listed.getD i false=true
structure Inv (n k:Nat) (ops:Array Oper) (L:Lst) (w0:World) (Rs:Nat->Sp) (listed:Array Bool) (a:Act) (w:World):Prop where
 len:listed.size=ops.size
 size:a.tmps.size=n
 defers:a.defers=[]
 ext:Ext w0 w
 early:∀ j,k<=j->¬Ia listed j
 closed:∀ j (o:Oper),ops[j]?=some o->Ia listed j->∀ e∈o.after,Region.binds .any e=true->Ia listed e.on
 res:∀ i d,Ia listed i->I7 ops i=some d->(Rs i).ok (a.tmps.getD d undef) w
 old:∀ t s,lkp t L=some s->(∀ i,Ia listed i->I7 ops i≠some t)->a.tmps.getD t undef=s.den
theorem Anc.listed{listed:Array Bool}(hc:∀ j (o:Oper),ops[j]?=some o->Ia listed j->∀ e∈o.after,Region.binds .any e=true->Ia listed e.on)
  {j i:Nat} (h:Anc ops j i) (hj:Ia listed j):Ia listed i:=by
 induction h with
 | step ho he hb hi|more ho he hb _ ih=>grind
theorem Anc.ready{listed:Array Bool}(hc:∀ j (o:Oper),ops[j]?=some o->Ia listed j->∀ e∈o.after,Region.binds .any e=true->Ia listed e.on)(h:Anc ops j i)(hj:∀ o,ops[j]?=some o->∀ e∈o.after,Region.binds .any e=true->Ia listed e.on):Ia listed i:=by
 cases h with
 | step ho he hb hi=>grind
 | more ho he hb h=>exact h.listed hc (hj _ ho _ he hb)
theorem A1M{listed:Array Bool}(hi:i<listed.size):Ia (listed.setIfInBounds i true) j↔j=i\/Ia listed j:=by
 unfold Ia
 by_cases h:i=j
 ·subst h;simp[hi]
 ·rw[getD_set_ne false h];simp[Ne.symm h]
def unl(listed:Array Bool)(N:Nat):Nat:=((List.range N).filter fun i => !listed.getD i false).length
theorem A4N{listed:Array Bool}{N:Nat}(hi:i<listed.size)(hN:i<N)(h:¬Ia listed i):unl (listed.setIfInBounds i true) N+1=unl listed N:=by
 unfold unl
 induction N with
 | zero=>omega
 | succ N ih =>
  rw[List.range_succ,List.filter_append,List.filter_append,List.length_append,List.length_append]
  by_cases e:i=N
  ·subst e
   have h1:((List.range i).filter fun j => !(listed.setIfInBounds i true).getD j false)=((List.range i).filter fun j => !listed.getD j false):=by
    apply List.filter_congr
    intro j hj
    have:j<i:=zaJ
    rw[getD_set_ne false zaa]
   simp_all[Ia]
  ·have:=ih zaa
   have h1:(listed.setIfInBounds i true).getD N false=listed.getD N false:=getD_set_ne false e
   grind
theorem jq{listed:Array Bool}{N:Nat}:unl listed N=0↔∀ i,i<N->Ia listed i:=by
 simp_all[unl,Ia]
theorem zU{listed:Array Bool}{m:Nat}(N:Nat)(h:∀ i,i<N->(Ia listed i↔i<m)):unl listed N=N-m:=by
 unfold unl
 induction N with
 | zero=>simp
 | succ N ih =>
  rw[List.range_succ,List.filter_append,List.length_append,ih fun i hi=>h i zaa]
  have:=h N zaa
  by_cases hN:N<m
  ·have:listed.getD N false=true:=this.2 hN
   grind
  ·have:listed.getD N false=false:=(Bool.not_eq_true _).mp fun e=>hN (this.1 e)
   grind
abbrev Flx:=List (Nat×(Value->World->Prop))
def jr(lk:List Nat)(w:World)(kk:Lst->Prop):Flx->Lst->Prop
 | [],L=>kk L
 | (t,R)::r,L=>bif lk.contains t then ∀ v,R v w->jr lk w kk r ((t,.v v)::L) else jr lk w kk r L
def xB(w:World)(kk:Lst->Prop):Flx->Lst->Prop
 | [],L=>kk L
 | (t,R)::r,L=>∀ v,R v w->xB w kk r ((t,.v v)::L)
def OPd(P:Program)(ops:Array Oper)(o:Oper)(w:World)(R:Sp)(L:Lst):Prop :=
 match o.guard with
 | none=>OP P L o.op o.type w fun s w'=>Ext w w'/\R.ok s.den w'
 | some (j,want)=>∃ d b,I7 ops j=some d/\lkp d L=some (.v (.bool b))/\(b=want->OP P L o.op o.type w fun s w'=>Ext w w'/\R.ok s.den w')/\(b = !want->R.ok undef w)
def DR(P:Program)(ops:Array Oper)(w0:World)(fin:Lst->World->Prop):List Oper->Lst->Flx->Prop
 | [],L,F=>∀ w,Ext w0 w->xB w (fun L'=>fin L' w) F L
 | o::r,L,F=>∃ R:Sp,R.stable/\(∀ w,Ext w0 w->jr (o.looksAt ops) w (OPd P ops o w R) F L) /\
   (match o.dst,R with
    | some d,.rig s=>DR P ops w0 fin r ((d,s)::L) F
    | some d,.flx R=>DR P ops w0 fin r L ((d,R)::F)
    | none,_=>False)
theorem fF.congr{L:Lst}{Rs Rs':Nat->Sp}{lk:List Nat}{a:Act}{w:World}(h:∀ i,i<j->Rs' i=Rs i)(hl:fF ops L Rs' j lk a w):fF ops L Rs j lk a w :=
 fun t ht=>⟨fun i hi hd=>h i hi▸(hl t ht).1 i hi hd,(hl t ht).2⟩
theorem A1L.congr{L:Lst}{Rs Rs':Nat->Sp}{j:Nat}(h:∀ i,i<=j->Rs' i=Rs i)(ho:A1L P n ops L w0 Rs j):A1L P n ops L w0 Rs' j:=by
 intro o hoj a w h1 h2 h3
 rw[h j (Nat.le_refl _)]
 exact ho o hoj a w h1 h2 (h3.congr fun i hi=>h i zaa)
end
end Go.Eng
namespace Go.Eng
open Go Go.RowKit
set_option linter.unusedVariables false
def Vw(w:World)(b:Nat)(cells:List Value):Prop:=∃ T,w.heap[b]?=some (.cells cells.toArray T (0,0))
theorem Vw.lt{w:World}{b:Nat}{c:List Value}(h:Vw w b c):b<w.heap.size:=by
 obtain⟨T,h⟩:=h;grind
theorem Vw.ext{w w':World}{b:Nat}{c:List Value}(h:Vw w b c)(he:Ext w w'):Vw w' b c:=by
 have hl:=h.lt
 obtain⟨T,h⟩:=h;exact⟨T,by rw[he.block b hl];exact h⟩
theorem Vw.grown{w w':World}{b:Nat}{c:List Value}{r:Option Nat}(h:Vw w b c)(hg:w.grownBy w' r)(hne:r≠some b):Vw w' b c:=by
 have hl:=h.lt
 obtain⟨T,h⟩:=h;exact⟨T,by rw[hg.block b hl (fun e=>hne e.symm)];exact h⟩
theorem Vw.cell{w:World}{b:Nat}{c:List Value}(h:Vw w b c){j:Nat}{u:Value}(hu:c[j]?=some u):w.cell? ⟨b,j,none⟩=some u:=by
 obtain⟨T,h⟩:=h;simp[World.cell?,h,hu]
theorem Vw.frozen{w:World}{b:Nat}{c:List Value}(h:Vw w b c)(j:Nat):w.frozen? ⟨b,j,none⟩=false:=by
 obtain⟨T,h⟩:=h;simp[World.frozen?,h]
theorem Vw.cs{w:World}{b:Nat}{c:List Value}(h:Vw w b c)(j:Nat):Cs w ⟨b,j,none⟩ (c.drop j):=fun i u hu=>by
 rw[Addr.add_lit];exact h.cell zaD
theorem Vw.set{w:World}{b:Nat}{c:List Value}(h:Vw w b c)(j:Nat)(u:Value):Vw (w.setCell ⟨b,j,none⟩ u) b (c.set j u):=by
 obtain⟨T,h⟩:=h
 refine⟨T,?_⟩
 simp_all[World.setCell,Array.getElem?_modify]
theorem Vw.setRow{w:World}{b:Nat}{c c':List Value}(h:Vw w b c):Vw (w.setRow b c'.toArray) b c':=by
 obtain⟨T,h⟩:=h;exact⟨T,setRow_heap w b _ _ T _ h⟩
theorem MR(w:World)(b:Nat)(c:Array Value):w.grownBy (w.setRow b c) (some b):=by
 refine⟨rfl,rfl,rfl,by simp_all,fun k hk hne=>?_⟩
 simp only[World.setRow,Array.getElem?_modify]
 grind
theorem Vw.sl{w:World}{b:Nat}{c:List Value}{sz n:Nat}(h:Vw w b c)(hl:c.length=n*sz)(hm:n<=maxLen):Sl w sz (.slice (some ⟨b,0,none⟩) n n) c n :=
 ⟨_,n,rfl,hl,Nat.le_refl _,hm,(fun h=>by cases h),fun p hp=>by obtain rfl:=Option.some.inj hp;have:=h.cs 0;simp_all⟩
section
variable {P:Program}{L:Lst}{w:World}{ty:TypeId}{K:SV->World->Prop}{t e:Nat}
structure ArrT (P:Program) (t n e:Nat):Prop where
 ht:P.underlying t=some (.array n e)
 h1:(P.info? e).map (·.size)=some 1
theorem fG(h:(P.info? e).map (·.size)=some 1)(w:World):(sizeOf e).run P w=.ok 1 w:=by
 obtain⟨i,hi,hs⟩:=Option.map_eq_some_iff.1 h
 simp[sizeOf,typeInfo,hi,hs]
def Ent(P:Program)(f:FuncId):Prop:=∀ args w,(callFunc f args).run P w=.ok (.enter f args) w
theorem Ent.mk{f:FuncId}{fn:Func}{c:Code}(hf:P.funcs[f]?=some fn) (hn:(fn.name == "runtime.NumGoroutine")=false) (hb:fn.body=some c):Ent P f:=by
 intro args w
 simp_all[callFunc]
end
section
variable {P:Program}{ops:Array Oper}{w0:World}{fin:Lst->World->Prop}{d:Nat}{op:Op}{ty:TypeId}{pos:String}{af:Array Edge}{r:List Oper}{L:Lst}{F:Flx}
def xC(lk:List Nat):Flx->Bool
 | []=>true
 | (t,_)::r => !lk.contains t&&xC lk r
theorem ql{lk:List Nat}{w:World}{kk:Lst->Prop}:∀ {F:Flx} {L:Lst},xC lk F=true->kk L->jr lk w kk F L:=by
 intro F
 induction F with
 | nil=>intro L _ h;exact h
 | cons p r ih =>
  simp_all[xC,jr]
def lks(op:Op):List Nat:=(op.operands.toList.filterMap fun|.tmp t=>some t|_=>none)++[]
theorem dr{s:SV}(hf:xC (lks op) F=true)(h:∀ w,Ext w0 w->OP P L op ty w fun s' w'=>Ext w w'/\s'.den=s.den)(hr:DR P ops w0 fin r ((d,s)::L) F):DR P ops w0 fin (⟨some d,op,ty,pos,af,none⟩::r) L F :=
 ⟨.rig s,Sp.stable_rig s,fun w he=>ql hf (h w he),hr⟩
end
end Go.Eng
namespace Go.Eng
open Go Go.RowKit
set_option linter.unusedVariables false
abbrev Own{α:Type}(f:α->Value)(e base:Nat)(w:World)(v:Value)(l:List α):Prop:=w.ownsRow base e 1 v l.length (l.map f)
abbrev A1N{α:Type}(f:α->Value)(w:World)(v:Value)(l:List α):Prop:=Sl w 1 v (l.map f) l.length
theorem Own.hold{α:Type}{f:α->Value}{e base:Nat}{w:World}{v:Value}{l:List α}(h:Own f e base w v l):A1N f w v l:=Sl.of_own h
theorem Own.ext{α:Type}{f:α->Value}{e base:Nat}{w w':World}{v:Value}{l:List α}(h:Own f e base w v l)(he:Ext w w'):Own f e base w' v l :=
 h.kept (grownBy.of_ext he none) zaJ
theorem Own.grown{α:Type}{f:α->Value}{e base:Nat}{w w':World}{v:Value}{l:List α}{r:Option Nat}(h:Own f e base w v l)(hg:w.grownBy w' r)(hne:∀ g,v.ownBlock=some g->r≠some g):Own f e base w' v l :=
 h.kept hg (by
  cases hv:v.ownBlock with
  | none=>grind
  | some g=>grind)
theorem Own.nil{α:Type}(f:α->Value)(e base:Nat)(w:World):Own f e base w (.slice none 0 0) ([]:List α):=World.ownsRow_nil w base e 1
theorem Own.lt{α:Type}{f:α->Value}{e base:Nat}{w:World}{v:Value}{l:List α}(h:Own f e base w v l){g:Nat}(hg:v.ownBlock=some g):base<=g/\g<w.heap.size:=World.ownsRow.lt h g hg
theorem A1N.nil{α:Type}(f:α->Value)(w:World):A1N f w (.slice none 0 0) ([]:List α):=Sl.nil w 1
theorem A1N.one{α:Type}{f:α->Value}(h1:∀ a,(f a).oneCell'=true)(l:List α):∀ c∈l.map f,c.oneCell'=true:=by
 simp_all
section
variable {P:Program}{L:Lst}{w:World}{ty:TypeId}{K:SV->World->Prop}{t e bytes:Nat}{z:Value}{α:Type}{f:α->Value}
section cuts
variable {x l h m:Operand}{v:Value}{q:List α}{il ih im:Int}
end cuts
end
abbrev A7b(w:World)(b:Nat)(ws:List UInt32):Prop:=Vw w b (ws.map G7)
theorem A7b.at{w w':World}{b:Nat}{ws:List UInt32}(h:A7b w b ws)(he:Ext w w')(j:Nat)(hj:j<ws.length):w'.cell? ⟨b,0+j,none⟩=some (G7 (ws.getD j 0)):=by
 refine(h.ext he).cell ?_
 simp_all
section
variable {P:Program}{L:Lst}{w:World}{ty:TypeId}{K:SV->World->Prop}{t:Nat}
end
theorem YV{α:Type}(l:List α)(n:Nat)(z x:α)(h:0<n):(l++List.replicate n z).set l.length x=(l++[x])++List.replicate (n-1) z:=by
 rw[List.set_append_right _ _ (Nat.le_refl _),Nat.sub_self]
 obtain⟨m,rfl⟩:∃ m,n=m+1:=⟨n-1,by omega⟩
 grind
end Go.Eng
namespace Go.Eng
set_option linter.unusedVariables false
variable (h:List UInt32)(l b:List UInt8)(s:List UInt32)(t i:Nat)
def jv(x:UInt32)(s:Nat):UInt32:=(x<<<UInt32.ofNat s)|||(x>>>UInt32.ofNat (32-s))
def PV(x:UInt32)(s:Nat):UInt32:=(x>>>UInt32.ofNat s)|||(x<<<UInt32.ofNat (32-s))
theorem Kz(x:UInt32)(s t:Nat)(h:s+t=32):jv x s=PV x t:=by
 grind[jv,PV]
def be32(l:List UInt8)(k:Nat):UInt32 :=
 (l.getD k 0).toUInt32<<<24|||(l.getD (k+1) 0).toUInt32<<<16|||(l.getD (k+2) 0).toUInt32<<<8|||(l.getD (k+3) 0).toUInt32
def zerosN(n:Nat):Nat:=(119-n%64)%64
def A4O(n:UInt64):List UInt8:=(List.range 8).map fun m=>(n>>>UInt64.ofNat (56-8*m)).toUInt8
def NT(l:List UInt8):List UInt8:=l++[128]++List.replicate (zerosN l.length) 0++A4O (UInt64.ofInt (l.length:Int)*8)
theorem YW:(NT l).length=64*((l.length+72)/64):=by
 simp[NT,A4O,zerosN];omega
def Jb:List UInt32:=[
  0x428a2f98,0x71374491,0xb5c0fbcf,0xe9b5dba5,0x3956c25b,0x59f111f1,0x923f82a4,0xab1c5ed5,
  0xd807aa98,0x12835b01,0x243185be,0x550c7dc3,0x72be5d74,0x80deb1fe,0x9bdc06a7,0xc19bf174,
  0xe49b69c1,0xefbe4786,0x0fc19dc6,0x240ca1cc,0x2de92c6f,0x4a7484aa,0x5cb0a9dc,0x76f988da,
  0x983e5152,0xa831c66d,0xb00327c8,0xbf597fc7,0xc6e00bf3,0xd5a79147,0x06ca6351,0x14292967,
  0x27b70a85,0x2e1b2138,0x4d2c6dfc,0x53380d13,0x650a7354,0x766a0abb,0x81c2c92e,0x92722c85,
  0xa2bfe8a1,0xa81a664b,0xc24b8b70,0xc76c51a3,0xd192e819,0xd6990624,0xf40e3585,0x106aa070,
  0x19a4c116,0x1e376c08,0x2748774c,0x34b0bcb5,0x391c0cb3,0x4ed8aa4a,0x5b9cca4f,0x682e6ff3,
  0x748f82ee,0x78a5636f,0x84c87814,0x8cc70208,0x90befffa,0xa4506ceb,0xbef9a3f7,0xc67178f2]
def h256:List UInt32:=[0x6a09e667,0xbb67ae85,0x3c6ef372,0xa54ff53a,0x510e527f,0x9b05688c,0x1f83d9ab,0x5be0cd19]
def h1:List UInt32:=[0x67452301,0xefcdab89,0x98badcfe,0x10325476,0xc3d2e1f0]
def sg0(x:UInt32):UInt32:=PV x 7^^^PV x 18^^^x>>>3
def sg1(x:UInt32):UInt32:=PV x 17^^^PV x 19^^^x>>>10
def Oj(b:List UInt8)(ws:List UInt32)(t:Nat):UInt32 :=
 if t<16 then be32 b (4*t) else sg1 (ws.getD (t-2) 0)+ws.getD (t-7) 0+sg0 (ws.getD (t-15) 0)+ws.getD (t-16) 0
def FM(b:List UInt8):Nat->List UInt32
 | 0=>[]
 | t+1=>FM b t++[Oj b (FM b t) t]
theorem Ol:(FM b t).length=t:=by
 induction t with
 | zero=>rfl
 | succ t ih=>simp[FM,ih]
def fH(k w:UInt32)(s:List UInt32):List UInt32 :=
 let a:=s.getD 0 0
 let e:=s.getD 4 0
 let t1:=s.getD 7 0+(PV e 6^^^PV e 11^^^PV e 25)+(e&&&s.getD 5 0 ^^^ ~~~e&&&s.getD 6 0)+k+w
 let t2:=(PV a 2^^^PV a 13^^^PV a 22)+(a&&&s.getD 1 0^^^a&&&s.getD 2 0^^^s.getD 1 0&&&s.getD 2 0)
 [t1+t2,s.getD 0 0,s.getD 1 0,s.getD 2 0,s.getD 3 0+t1,s.getD 4 0,s.getD 5 0,s.getD 6 0]
def Om(ws s:List UInt32):Nat->List UInt32
 | 0=>s
 | t+1=>fH (Jb.getD t 0) (ws.getD t 0) (Om ws s t)
theorem jw(ws s:List UInt32)(hs:s.length=8)(t:Nat):(Om ws s t).length=8:=by
 cases t with
 | zero=>exact hs
 | succ t=>rfl
def UI(h s:List UInt32)(i:Nat):List UInt32:=(List.zipWith (· + ·) (h.take i) (s.take i))++h.drop i
theorem A1O(hl:h.length=s.length)(hi:i<=h.length):(UI h s i).length=h.length:=by
 simp[UI];omega
theorem jy(hl:h.length=s.length)(hi:i<h.length):(UI h s i).getD i 0=h.getD i 0:=by
 have h1:(List.zipWith (· + ·) (h.take i) (s.take i)).length=i:=zaC
 simp_all[UI,List.getElem?_append_right]
theorem A1P(hl:h.length=s.length)(hi:i<h.length):(UI h s i).set i (h.getD i 0+s.getD i 0)=UI h s (i+1):=by
 have h1:(List.zipWith (· + ·) (h.take i) (s.take i)).length=i:=zaC
 have hs:i<s.length:=zaa
 unfold UI
 rw[List.set_append_right _ _ zaa,h1,Nat.sub_self,List.drop_eq_getElem_cons hi,List.set_cons_zero,List.take_succ_eq_append_getElem hi,List.take_succ_eq_append_getElem hs,
  List.zipWith_append zaC]
 simp_all
def FB(h:List UInt32)(b:List UInt8):List UInt32:=UI h (Om (FM b 64) h 64) 8
def YX(b:List UInt8)(ws:List UInt32)(t:Nat):UInt32 :=
 if t<16 then be32 b (4*t) else jv (ws.getD (t-3) 0^^^ws.getD (t-8) 0^^^ws.getD (t-14) 0^^^ws.getD (t-16) 0) 1
def LH(b:List UInt8):Nat->List UInt32
 | 0=>[]
 | t+1=>LH b t++[YX b (LH b t) t]
theorem UJ:(LH b t).length=t:=by
 induction t with
 | zero=>rfl
 | succ t ih=>simp[LH,ih]
def f1(t:Nat)(b c d:UInt32):UInt32 :=
 if t<20 then b&&&c ^^^ ~~~b&&&d else if t<40 then b^^^c^^^d else if t<60 then b&&&c^^^b&&&d^^^c&&&d else b^^^c^^^d
def k1(t:Nat):UInt32:=if t<20 then 0x5a827999 else if t<40 then 0x6ed9eba1 else if t<60 then 0x8f1bbcdc else 0xca62c1d6
structure S5 where
 a:UInt32
 b:UInt32
 c:UInt32
 d:UInt32
 e:UInt32
def UK(t:Nat)(w:UInt32)(s:S5):S5:=⟨jv s.a 5+f1 t s.b s.c s.d+s.e+k1 t+w,s.a,jv s.b 30,s.c,s.d⟩
def kC(ws:List UInt32)(s:S5):Nat->S5
 | 0=>s
 | t+1=>UK t (ws.getD t 0) (kC ws s t)
def LJ(h:List UInt32)(b:List UInt8):List UInt32 :=
 let s:=kC (LH b 80) ⟨h.getD 0 0,h.getD 1 0,h.getD 2 0,h.getD 3 0,h.getD 4 0⟩ 80
 [h.getD 0 0+s.a,h.getD 1 0+s.b,h.getD 2 0+s.c,h.getD 3 0+s.d,h.getD 4 0+s.e]
def Gv(f:List UInt32->List UInt8->List UInt32):Nat->List UInt32->List UInt8->List UInt32
 | 0,h,_=>h
 | n+1,h,p=>Gv f n (f h (p.take 64)) (p.drop 64)
def wb(w:UInt32):List UInt8:=[(w>>>24).toUInt8,(w>>>16).toUInt8,(w>>>8).toUInt8,w.toUInt8]
def Ih(ws:List UInt32):List UInt8:=ws.flatMap wb
def sha256(l:List UInt8):List UInt8:=Ih (Gv FB ((NT l).length/64) h256 (NT l))
def sha1(l:List UInt8):List UInt8:=Ih (Gv LJ ((NT l).length/64) h1 (NT l))
theorem LK(hh:h.length=8):(FB h b).length=8:=by
 have:=jw (FM b 64) h hh 64
 grind[FB,UI]
theorem Qy:(LJ h b).length=5:=rfl
theorem KR{f:List UInt32->List UInt8->List UInt32}{m:Nat}(hf:∀ h b,h.length=m->(f h b).length=m):∀(n:Nat) (h:List UInt32) (p:List UInt8),h.length=m->(Gv f n h p).length=m:=by
 intro n
 induction n with
 | zero=>intro h p hh;exact hh
 | succ n ih=>intro h p hh;exact ih _ _ (hf _ _ hh)
theorem XI(ws:List UInt32):(Ih ws).length=4*ws.length:=by
 induction ws with
 | nil=>rfl
 | cons w r ih=>grind[Ih,List.length_cons,wb]
theorem A8:(sha256 l).length=32:=by
 rw[sha256,XI,KR (m:=8) LK _ _ _ rfl]
theorem EO:(sha1 l).length=20:=by
 rw[sha1,XI,KR (m:=5) (fun h b _=>Qy h b) _ _ _ rfl]
def A7c(alg:Int)(l:List UInt8):List UInt8:=if alg=0 then sha1 l else if alg=1 then sha256 l else []
end Go.Eng
namespace Go.Eng
open Go
set_option linter.unusedVariables false
section
variable {P:Program}{L:Lst}{w:World}{ty:TypeId}{K:SV->World->Prop}{t:TypeId}
end
section
variable {P:Program}{n:Nat}{L:Lst}{w:World}{ops:Array Oper}{Q:Post}{rest:List Oper}
end
theorem kD(w:World)(g k n:Nat)(a:Addr):(w.freeze ⟨g,k,none⟩ n).cell? a=w.cell? a:=by
 unfold World.freeze
 split
 ·rfl
 ·simp only[World.cell?,Array.getElem?_modify]
  grind
theorem YY(w:World)(g k n:Nat):w.grownBy (w.freeze ⟨g,k,none⟩ n) (some g):=by
 unfold World.freeze
 split
 ·exact⟨rfl,rfl,rfl,Nat.le_refl _,fun _ _ _=>rfl⟩
 ·refine⟨rfl,rfl,rfl,by simp,fun i hi hne=>?_⟩
  grind
end Go.Eng
namespace Go.Eng
open Go
set_option linter.unusedVariables false
variable (n:Nat)
def qm(l:List UInt8):List UInt8:=wb (UInt32.ofInt (l.length:Int))
def fieldsB(ls:List (List UInt8)):List UInt8:=ls.flatMap fun l=>qm l++l
def Ar(tag:Int)(ls:List (List UInt8)):List UInt8:=UInt8.ofInt tag::fieldsB ls
theorem IM(l:List UInt8):(qm l).length=4:=rfl
theorem fJ(ls:List (List UInt8))(i:Nat)(l:List UInt8)(h:ls[i]?=some l):fieldsB (ls.take (i+1))=fieldsB (ls.take i)++qm l++l:=by
 grind[List.take_succ_eq_append_getElem,fieldsB]
theorem qp(h:n<4294967296):(UInt32.ofInt (n:Int)).toNat=n:=by
 simp[UInt32.ofInt];omega
theorem A1Q(x:UInt32):wb x=[UInt8.ofNat (x.toNat/16777216),UInt8.ofNat (x.toNat/65536),UInt8.ofNat (x.toNat/256),UInt8.ofNat x.toNat]:=by
 have h24:((24:UInt32).toNat%32)=24:=rfl
 have h16:((16:UInt32).toNat%32)=16:=rfl
 have h8:((8:UInt32).toNat%32)=8:=rfl
 grind[wb,UInt8.toNat_inj,UInt32.toNat_toUInt8,UInt32.toNat_shiftRight,Nat.shiftRight_eq_div_pow,UInt8.toNat_ofNat']
theorem fK:UInt8.ofInt (n:Int)=UInt8.ofNat n:=by
 apply UInt8.toNat_inj.1
 simp[UInt8.ofInt]
 omega
theorem A8O(h:n<4294967296):[UInt8.ofInt ((n:Int)/2^24),UInt8.ofInt ((n:Int)/2^16),UInt8.ofInt ((n:Int)/2^8),UInt8.ofInt (n:Int)]=wb (UInt32.ofInt (n:Int)):=by
 grind[A1Q,qp,fK]
abbrev A8P(w:World)(v:Value)(vs:List Value):Prop:=A1N (fun x:Value=>x) w v vs
structure Rw (w:World) (vs:List Value) (ls:List (List UInt8)):Prop where
 len:vs.length=ls.length
 row:∀(i:Nat) (u:Value) (l:List UInt8),vs[i]?=some u->ls[i]?=some l->Bytes w u l
theorem Rw.ext{w w':World}{vs:List Value}{ls:List (List UInt8)}(h:Rw w vs ls)(he:Ext w w'):Rw w' vs ls:=⟨h.len,fun i u l h1 h2=>(h.row i u l h1 h2).ext he⟩
theorem Rw.at{w:World}{vs:List Value}{ls:List (List UInt8)}(h:Rw w vs ls)(i:Nat)(hi:i<ls.length):∃ u,vs[i]?=some u/\Bytes w u (ls.getD i []):=by
 have hv:i<vs.length:=by rw[h.len];exact hi
 refine⟨vs[i],List.getElem?_eq_getElem hv,h.row i _ _ (List.getElem?_eq_getElem hv) ?_⟩
 simp_all
def Mat(w:World)(v:Value)(ls:List (List UInt8)):Prop:=∃ vs,A8P w v vs/\Rw w vs ls
theorem Mat.ext{w w':World}{v:Value}{ls:List (List UInt8)}(h:Mat w v ls)(he:Ext w w'):Mat w' v ls:=by
 obtain⟨vs,h1,h2⟩:=h;exact⟨vs,h1.ext he,h2.ext he⟩
end Go.Eng
namespace Go.Eng
open Go
set_option linter.unusedVariables false
section
variable {P:Program}{ops:Array Oper}{w0:World}{fin:Lst->World->Prop}{d:Nat}{op:Op}{ty:TypeId}{pos:String}{af:Array Edge}{r:List Oper}{L:Lst}{F:Flx}
end
end Go.Eng
namespace Go
set_option linter.unusedVariables false
def Q3(n:Nat)(fz:Nat×Nat):Prop:=n<=fz.1\/fz.2=0
theorem Q3.no{w:World}{g n o:Nat}{cur:Array Value}{e:TypeId}{fz:Nat×Nat}(h:Q3 n fz)(hg:w.heap[g]?=some (.cells cur e fz))(ho:o<n):w.frozen? ⟨g,o,none⟩=false:=by
 grind[Q3,World.frozen?]
def World.ownsG(w:World)(base:Nat)(e:TypeId)(size:Nat)(v:Value)(n:Nat)(xs:List Value):Prop :=
 xs.length=n*size/\((v=.slice none 0 0/\n=0) \/
  ∃ g cap cur fz,v=.slice (some ⟨g,0,none⟩) n cap/\base<=g/\w.heap[g]?=some (.cells cur e fz)/\n<=cap/\cap<=maxLen/\cur.size=cap*size/\cur.toList.take (n*size)=xs/\Q3 cur.size fz)
theorem World.ownsRow.G{w:World}{base:Nat}{e:TypeId}{size:Nat}{v:Value}{n:Nat}{xs:List Value}(h:w.ownsRow base e size v n xs):w.ownsG base e size v n xs:=by
 refine⟨h.1,?_⟩
 rcases h.2 with hn|⟨g,cap,cur,h1,h2,h3,h4,h5,h6,h7⟩
 ·exact .inl hn
 ·exact .inr ⟨g,cap,cur,(0,0),h1,h2,h3,h4,h5,h6,h7,.inr rfl⟩
theorem World.ownsG_nil(w:World)(base:Nat)(e:TypeId)(size:Nat):w.ownsG base e size (.slice none 0 0) 0 []:=(World.ownsRow_nil w base e size).G
theorem World.ownsG.cells{w:World}{base:Nat}{e:TypeId}{size:Nat}{v:Value}{n:Nat}{xs:List Value}(h:w.ownsG base e size v n xs){g:Nat}(hg:v.ownBlock=some g):∀ j u,xs[j]?=some u->w.cell? ((⟨g,0,none⟩:Addr).add j)=some u:=by
 intro j u hu
 rcases h.2 with⟨rfl,_⟩|⟨g',cap,cur,fz,rfl,_,hgg,_,_,_,ht,_⟩
 ·cases hg
 ·simp only[Value.ownBlock,Option.some.injEq] at hg
  subst hg
  rw[<-ht] at hu
  have hj:=(List.getElem?_eq_some_iff.1 hu).1
  rw[List.getElem?_take_of_lt zaJ] at hu
  simp_all[Addr.add_lit,World.cell?]
theorem World.alloc_old_G(w:World)(o:Obj)(k:Nat)(hk:k<w.heap.size):(w.drew.alloc o).heap[k]?=w.heap[k]?:=heap_alloc_old w.drew o hk
section
variable {P:Program}
theorem Fj(g o:Nat)(t:TypeId)(fz:Nat×Nat):∀(vs:List Value) (i:Nat) (cur:Array Value) (w:World),w.heap[g]?=some (.cells cur t fz)->Q3 cur.size fz->o+i+vs.length<=cur.size->(∀ v∈vs,v.oneCell'=true) ->
  (storeCells ⟨g,o,none⟩ vs i).run P w=.ok () (w.setRow g (cur.toList.take (o+i)++vs++cur.toList.drop (o+i+vs.length)).toArray)
 | [],i,cur,w,hg,_,_,_=>by
  simp only[storeCells,List.append_nil,List.length_nil,Nat.add_zero,List.take_append_drop,Array.toArray_toList]
  rw[setRow_self w g cur t fz hg]
  rfl
 | v::rest,i,cur,w,hg,hfz,hl,h1=>by
  have hi:o+i<cur.size:=zaJ
  have hadd:(⟨g,o,none⟩:Addr).add i=⟨g,o+i,none⟩:=by simp_all[Addr.add]
  have hcell:w.cell? ⟨g,o+i,none⟩=some cur[o+i]:=by simp[World.cell?,hg,hi]
  have hfro:w.frozen? ⟨g,o+i,none⟩=false:=hfz.no hg hi
  have hst:(store ((⟨g,o,none⟩:Addr).add i) v).run P w=.ok () (w.setRow g (cur.setIfInBounds (o+i) v)):=by
   grind[run_store,setCell_eq_setRow]
  have ih:=Fj g o t fz rest (i+1) (cur.setIfInBounds (o+i) v) (w.setRow g (cur.setIfInBounds (o+i) v)) (setRow_heap w g cur _ t _ hg) zaJ zaJ (fun x hx=>h1 x (by simp[hx]))
  simp only[storeCells,Sem.run_bind,hst,Result.andThen_ok,ih,setRow_setRow]
  congr 3
  have e:=list_seg_step cur.toList (o+i) v rest zaa
  simp_all[Nat.add_assoc]
variable (w:World)
theorem UL(t ty e:TypeId)(i:TypeInfo)(ht:P.underlying t=some (.slice e))(hi:P.info? e=some i)
  (g n cap:Nat) (cur:Array Value) (fz:Nat×Nat) (hg:w.heap[g]?=some (.cells cur e fz)) (hfz:Q3 cur.size fz)
  (a:Addr) (m c:Nat) (news:List Value) (hl:news.length=m*i.size) (hnews:∀ j u,news[j]?=some u->w.cell? (a.add j)=some u) (h1:∀ u∈news,u.oneCell'=true)
  (hroom:n+m<=cap) (hfit:n*i.size+news.length<=cur.size) :
  (Builtin.append_ #[t,t] ty #[.slice (some ⟨g,0,none⟩) n cap,.slice (some a) m c]).run P w =
   .ok (.slice (some ⟨g,0,none⟩) (n+m) cap) (w.setRow g (cur.toList.take (n*i.size)++news++cur.toList.drop (n*i.size+news.length)).toArray):=by
 have hf:=run_firstCells_some (P:=P) w i.size m a m c news hl hnews
 have hst:=Fj (P:=P) g (n*i.size) e fz news 0 cur w hg hfz zaa h1
 simp only[Nat.add_zero] at hst
 simp[Builtin.append_,run_underlying ht,sizeOf,typeInfo,hi,Builtin.lenOf,hroom,hf,Addr.add_lit,hst]
theorem UM(base:Nat)(t ty e:TypeId)(i:TypeInfo)(size:Nat)(ht:P.underlying t=some (.slice e))(hi:P.info? e=some i)
  (v:Value) (n:Nat) (xs:List Value) (hown:w.ownsG base e size v n xs):(Builtin.append_ #[t,t] ty #[v,.slice none 0 0]).run P w=.ok v w:=by
 rcases hown.2 with⟨rfl,rfl⟩|⟨g,cap,cur,fz,rfl,_,_,hnc,_⟩
 ·simp[Builtin.append_,run_underlying ht,sizeOf,typeInfo,hi,Builtin.lenOf,Builtin.firstCells]
 ·simp[Builtin.append_,run_underlying ht,sizeOf,typeInfo,hi,Builtin.lenOf,Builtin.firstCells,hnc,storeCells]
theorem qw(dT sT ty elem:TypeId)(g o dLen dCap:Nat)(a:Addr)(sLen sCap:Nat)(cur:Array Value)(t:TypeId)(fz:Nat×Nat)(cs:List Value)
  (hu:P.underlying dT=some (.slice elem)) (hs:(P.info? elem).map (·.size)=some 1)
  (hg:w.heap[g]?=some (.cells cur t fz)) (hfz:Q3 cur.size fz) (hn:cs.length=Nat.min sLen dLen)
  (hsrc:∀ j v,cs[j]?=some v->w.cell? (a.add j)=some v) (hfit:o+cs.length<=cur.size) (h1:∀ v∈cs,v.oneCell'=true) :
  (Builtin.copy_ #[dT,sT] ty #[.slice (some ⟨g,o,none⟩) dLen dCap,.slice (some a) sLen sCap]).run P w =
   .ok (goInt cs.length) (w.setRow g (cur.toList.take o++cs++cur.toList.drop (o+cs.length)).toArray):=by
 have hl:=run_loadCells_list (P:=P) w a cs hsrc
 have hst:=Fj (P:=P) g o t fz cs 0 cur w hg hfz zaa h1
 cases hq:P.info? elem with
 | none=>grind
 | some i =>
  simp_all[Builtin.copy_,run_underlying,Builtin.lenOf,Builtin.firstCells,sizeOf,typeInfo]
theorem UN(base:Nat)(t ty e:TypeId)(i:TypeInfo)(z:Value)(size bytes:Nat)(ht:P.underlying t=some (.slice e))(hi:P.info? e=some i)(hz:i.zero=some z)
  (hsize:i.size=size) (hby:i.bytes=bytes) (hzs:z.cells.size=size) (hsz:0<size)
  (v:Value) (n:Nat) (xs:List Value) (hown:w.ownsG base e size v n xs)
  (a:Addr) (m c:Nat) (news:List Value) (hl:news.length=m*size) (hnews:∀ j u,news[j]?=some u->w.cell? (a.add j)=some u) (h1:∀ u∈news,u.oneCell'=true)
  (h63:n+m<=maxLen) (hbytes:(n+m)*bytes<=140737488355328) (hbase:base<=w.heap.size) :
  ∃ v' w',(Builtin.append_ #[t,t] ty #[v,.slice (some a) m c]).run P w=.ok v' w'/\w'.ownsG base e size v' (n+m) (xs++news)/\w.grownBy w' v.ownBlock /\
   (v'=.slice none 0 0↔v=.slice none 0 0/\m=0):=by
 rcases hown.2 with⟨rfl,rfl⟩|⟨g,cap,cur,fz,rfl,hbg,hg,hnc,hcm,hcs,htake,hfz⟩
 ·have hx:xs=[]:=List.eq_nil_of_length_eq_zero (by simpa using hown.1)
  subst hx
  obtain⟨v',w',h2,h3,h4⟩:=run_append_own (P:=P) w base t ty e i z size bytes ht hi hz hsize hby hzs hsz _ 0 [] (World.ownsRow_nil w base e size) a m c news hl hnews h1 h63 hbytes hbase
  exact⟨v',w',h2,h3.G,h4⟩
 ·subst hsize
  subst hby
  have hlen:(xs++news).length=(n+m)*i.size:=by rw[List.length_append,hown.1,hl,Nat.add_mul]
  by_cases hroom:n+m<=cap
  ·have hfit:n*i.size+news.length<=cur.size:=by rw[hl,hcs,<-Nat.add_mul];exact Nat.mul_le_mul_right _ hroom
   have hf:=run_firstCells_some (P:=P) w i.size m a m c news hl hnews
   have hst:=Fj (P:=P) g (n*i.size) e fz news 0 cur w hg hfz (by simpa using hfit) h1
   simp only[Nat.add_zero] at hst
   have hr:(Builtin.append_ #[t,t] ty #[.slice (some ⟨g,0,none⟩) n cap,.slice (some a) m c]).run P w =
     .ok (.slice (some ⟨g,0,none⟩) (n+m) cap) (w.setRow g (cur.toList.take (n*i.size)++news++cur.toList.drop (n*i.size+news.length)).toArray):=by
    simp[Builtin.append_,run_underlying ht,sizeOf,typeInfo,hi,Builtin.lenOf,hroom,hf,Addr.add_lit,hst]
   refine⟨_,_,hr,⟨hlen,.inr ⟨g,cap,_,fz,rfl,hbg,setRow_heap w g cur _ e _ hg,hroom,hcm,?_,?_,?_⟩⟩,⟨rfl,rfl,rfl,by simp,fun k _ hk=>setRow_other w g k _ (fun e=>hk (by simp[Value.ownBlock,e]))⟩,by simp⟩
   ·simp only[List.size_toArray,List.length_append,List.length_take,List.length_drop,Array.length_toList]
    omega
   ·rw[htake,<-hlen]
    exact List.take_left
   ·have:(cur.toList.take (n*i.size)++news++cur.toList.drop (n*i.size+news.length)).toArray.size=cur.size:=by
     simp only[List.size_toArray,List.length_append,List.length_take,List.length_drop,Array.length_toList]
     omega
    rw[this];exact hfz
  ·have holds:∀ j u,xs[j]?=some u->w.cell? ((⟨g,0,none⟩:Addr).add j)=some u:=hown.cells (g:=g) rfl
   have hr:=run_append_grow (P:=P) w t ty e i z ht hi hz ⟨g,0,none⟩ n cap xs hown.1 holds a m c news hl hnews zaa (by simp only[maxLen] at h63;omega) (growslice_fits zaa hbytes)
   have hge:=grownCap_ge w (n+m) cap e
   have hcm':grownCap w (n+m) cap e<=maxLen:=grownCap_le_maxLen w (n+m) cap e h63
   refine⟨_,_,hr,⟨hlen,.inr ⟨w.heap.size,_,_,(0,0),rfl,hbase,heap_alloc_new w.drew _,hge,hcm',?_,?_,.inr rfl⟩⟩,⟨rfl,rfl,rfl,by simp,fun k hk _=>World.alloc_old_G w _ k hk⟩,by simp⟩
   ·simp only[Array.size_append,List.size_toArray,size_zeroCells,hzs,hown.1,hl,<-Nat.add_mul]
    congr 1
    omega
   ·simp only[Array.toList_append,List.append_assoc]
    rw[<-List.append_assoc,<-hlen]
    exact List.take_left
open Lib in
theorem Tj(t u ty e:TypeId)(i:TypeInfo)(z:Value)(ht:P.underlying t=some (.slice e))(hu:P.underlying u=some .string)(hi:P.info? e=some i)(hz:i.zero=some z)(s:ByteArray)(h0:0<s.size)
  (h63:(s.size:Int)<=9223372036854775807) (hfit:Builtin.nextslicecap s.size 0*i.bytes<=281474976710656) :
  (Builtin.append_ #[t,u] ty #[.slice none 0 0,.string s]).run P w =
   .ok (.slice (some ⟨w.heap.size,0,none⟩) s.size (grownCap w s.size 0 e)) (w.drew.alloc (.cells ((strCells s).toArray++Builtin.zeroCells z.cells (grownCap w s.size 0 e-s.size)) e)):=by
 have hn:¬(s.size=0):=zaa
 have h63':¬(9223372036854775807<(s.size:Int)):=zaa
 have h48':¬(281474976710656<Builtin.nextslicecap s.size 0*i.bytes):=zaa
 have hf:=run_firstCells_string (P:=P) w.drew i.size s
 have hfn:(Builtin.firstCells i.size 0 (.slice none 0 0)).run P w.drew=.ok #[] w.drew:=by simp[Builtin.firstCells]
 simp[Builtin.append_,run_underlying ht,run_underlying hu,sizeOf,typeInfo,zeroValue,hi,hz,Builtin.lenOf,hn,h63',h48',Question.forced,hf,hfn,newRow,grownCap]
open Lib in
theorem Vy(t u ty e:TypeId)(i:TypeInfo)(z:Value)(ht:P.underlying t=some (.slice e))(hu:P.underlying u=some .string)(hi:P.info? e=some i)(hz:i.zero=some z)
  (hsize:i.size=1) (hby:i.bytes=1) (hzs:z.cells.size=1)
  (v:Value) (n:Nat) (xs:List Value) (hown:w.ownsG 0 e 1 v n xs) (s:ByteArray) (hbytes:n+s.size<=140737488355328) :
  ∃ v' w',(Builtin.append_ #[t,u] ty #[v,.string s]).run P w=.ok v' w'/\w'.ownsG 0 e 1 v' (n+s.size) (xs++strCells s)/\w.grownBy w' v.ownBlock/\(∀ b,v'.ownBlock=some b->w.heap.size<=b\/v.ownBlock=some b):=by
 have h63:n+s.size<=maxLen:=by unfold maxLen;omega
 have hxl:xs.length=n:=by simpa using hown.1
 have hlen:(xs++strCells s).length=(n+s.size)*1:=by rw[List.length_append,hxl,strCells_length,Nat.mul_one]
 rcases hown.2 with⟨rfl,rfl⟩|⟨g,cap,cur,fz,rfl,hbg,hg,hnc,hcm,hcs,htake,hfz⟩
 ·have hx:xs=[]:=List.eq_nil_of_length_eq_zero hxl
  subst hx
  by_cases h0:s.size=0
  ·have hs0:strCells s=[]:=List.eq_nil_of_length_eq_zero (by rw[strCells_length];exact h0)
   refine⟨.slice none 0 0,w,?_,by rw[h0,hs0];exact World.ownsG_nil w 0 e 1,⟨rfl,rfl,rfl,Nat.le_refl _,fun _ _ _=>rfl⟩,fun b hb=>by cases hb⟩
   have hf:(Builtin.firstCells i.size s.size (.string s)).run P w=.ok (strCells s).toArray w:=run_firstCells_string (P:=P) w i.size s
   rw[hs0] at hf
   simp[Builtin.append_,run_underlying ht,run_underlying hu,sizeOf,typeInfo,hi,Builtin.lenOf,h0,Builtin.firstCells]
  ·have hr:=Tj (P:=P) w t u ty e i z ht hu hi hz s zaa zaa zby
   have hge:=grownCap_ge w s.size 0 e
   refine⟨_,_,hr,⟨by simpa using hlen,.inr ⟨w.heap.size,_,_,(0,0),by rw[Nat.zero_add],Nat.zero_le _,heap_alloc_new w.drew _,by rw[Nat.zero_add];exact hge,grownCap_le_maxLen w s.size 0 e zaa,?_,?_,.inr rfl⟩⟩,⟨rfl,rfl,rfl,by simp,fun k hk _=>World.alloc_old_G w _ k hk⟩,fun b hb=>?_⟩
   ·simp only[Array.size_append,List.size_toArray,size_zeroCells,hzs,strCells_length];omega
   ·simp only[Array.toList_append,Nat.zero_add,Nat.mul_one,List.nil_append]
    rw[<-strCells_length s];exact List.take_left
   ·simp only[Value.ownBlock,Option.some.injEq] at hb;omega
 ·by_cases hroom:n+s.size<=cap
  ·have hcs':cur.size=cap:=by simpa using hcs
   have hf:=run_firstCells_string (P:=P) w 1 s
   have hst:=Fj (P:=P) g n e fz (strCells s) 0 cur w hg hfz (by simp only[strCells_length];omega) (strCells_oneCell s)
   simp only[Nat.add_zero,strCells_length] at hst
   have hr:(Builtin.append_ #[t,u] ty #[.slice (some ⟨g,0,none⟩) n cap,.string s]).run P w =
     .ok (.slice (some ⟨g,0,none⟩) (n+s.size) cap) (w.setRow g (cur.toList.take n++strCells s++cur.toList.drop (n+s.size)).toArray):=by
    simp[Builtin.append_,run_underlying ht,run_underlying hu,sizeOf,typeInfo,hi,hsize,Builtin.lenOf,hroom,hf,Addr.add_lit,hst]
   refine⟨_,_,hr,⟨hlen,.inr ⟨g,cap,_,fz,rfl,hbg,setRow_heap w g cur _ e _ hg,hroom,hcm,?_,?_,?_⟩⟩,⟨rfl,rfl,rfl,by simp,fun k _ hk=>setRow_other w g k _ (fun e=>hk (by simp[Value.ownBlock,e]))⟩,fun b hb=>.inr hb⟩
   ·simp only[List.size_toArray,List.length_append,List.length_take,List.length_drop,Array.length_toList,strCells_length];omega
   ·have ht':cur.toList.take n=xs:=by simpa using htake
    rw[ht',<-hlen]
    exact List.take_left
   ·refine cast (congrArg (fun n=>Q3 n fz) ?_) hfz
    simp only[List.size_toArray,List.length_append,List.length_take,List.length_drop,Array.length_toList,strCells_length];omega
  ·have holds:∀ j u,xs[j]?=some u->w.cell? ((⟨g,0,none⟩:Addr).add j)=some u:=hown.cells (g:=g) rfl
   have hr:=run_append_grow_string (P:=P) w t u ty e i z ht hu hi hz ⟨g,0,none⟩ n cap xs (by rw[hsize];simpa using hxl) holds s zaa zaa zby
   have hge:=grownCap_ge w (n+s.size) cap e
   refine⟨_,_,hr,⟨hlen,.inr ⟨w.heap.size,_,_,(0,0),rfl,Nat.zero_le _,heap_alloc_new w.drew _,hge,grownCap_le_maxLen w (n+s.size) cap e h63,?_,?_,.inr rfl⟩⟩,⟨rfl,rfl,rfl,by simp,fun k hk _=>World.alloc_old_G w _ k hk⟩,fun b hb=>?_⟩
   ·simp only[Array.size_append,List.size_toArray,size_zeroCells,hzs,hxl,strCells_length];omega
   ·simp only[Array.toList_append,List.append_assoc]
    rw[<-List.append_assoc,<-hlen]
    exact List.take_left
   ·simp only[Value.ownBlock,Option.some.injEq] at hb;omega
open Lib in
theorem UO(t u ty e:TypeId)(i:TypeInfo)(z:Value)(ku kn:IntKind)(ht:P.underlying t=some (.slice e))(hu:P.underlying u=some (.int ku))(hi:P.info? e=some i)(hz:i.zero=some z)
  (hsize:i.size=1) (hby:i.bytes=1) (hzs:z.cells = #[.int .u8 0])
  (v:Value) (n:Nat) (xs:List Value) (hown:w.ownsG 0 e 1 v n xs) (k:Nat) (hbytes:n+k<=140737488355328) :
  ∃ v' w',(Builtin.append_ #[t,u] ty #[v,.int kn k]).run P w=.ok v' w'/\w'.ownsG 0 e 1 v' (n+k) (xs++List.replicate k (.int .u8 0))/\w.grownBy w' v.ownBlock/\(∀ b,v'.ownBlock=some b->w.heap.size<=b\/v.ownBlock=some b):=by
 have h63:n+k<=maxLen:=by unfold maxLen;omega
 have hxl:xs.length=n:=by simpa using hown.1
 have hzs1:z.cells.size=1:=by rw[hzs];rfl
 have hzc:∀ k,(Builtin.zeroCells z.cells k).toList=List.replicate k (.int .u8 0):=fun k=>by
  rw[Builtin.zeroCells,hzs]
  apply List.ext_getElem
  ·simp
  ·intro q h1 h2
   simp[Nat.mod_one]
 have hzsz:∀ k,(Builtin.zeroCells z.cells k).size=k:=fun k=>by rw[size_zeroCells,hzs1,Nat.mul_one]
 have hlen:(xs++List.replicate k (Value.int .u8 0)).length=(n+k)*1:=by rw[List.length_append,hxl,List.length_replicate,Nat.mul_one]
 have hw:IntKind.i64.wrap (k:Int)=k:=by rw[IntKind.wrap_i64];omega
 have h48i:¬(281474976710656<(k:Int)*(i.bytes:Int)):=by rw[hby];omega
 have hneg:¬((k:Int)<0):=zaa
 rcases hown.2 with⟨rfl,rfl⟩|⟨g,cap,cur,fz,rfl,hbg,hg,hnc,hcm,hcs,htake,hfz⟩
 ·have hx:xs=[]:=List.eq_nil_of_length_eq_zero hxl
  subst hx
  by_cases h0:k=0
  ·subst h0
   refine⟨.slice none 0 0,w,?_,World.ownsG_nil w 0 e 1,⟨rfl,rfl,rfl,Nat.le_refl _,fun _ _ _=>rfl⟩,fun b hb=>by cases hb⟩
   have hw0:IntKind.i64.wrap (0:Int)=0:=zal
   simp[Builtin.append_,run_underlying ht,run_underlying hu,sizeOf,typeInfo,hi,asInt,asIntOf,hw0]
  ·have hr:=run_append_nil_zeros (P:=P) w t u ty e i z kn ku ht hu hi hz k zaa zaa zaa (by rw[hby];omega)
   have hge:=grownCap_ge w k 0 e
   refine⟨_,_,hr,⟨by simpa using hlen,.inr ⟨w.heap.size,_,_,(0,0),by rw[Nat.zero_add],Nat.zero_le _,heap_alloc_new w.drew _,by rw[Nat.zero_add];exact hge,grownCap_le_maxLen w k 0 e zaa,?_,?_,.inr rfl⟩⟩,⟨rfl,rfl,rfl,by simp,fun k hk _=>World.alloc_old_G w _ k hk⟩,fun b hb=>?_⟩
   ·simp only[Array.size_append,hzsz];omega
   ·simp only[Array.toList_append,Nat.zero_add,Nat.mul_one,List.nil_append,hzc]
    exact List.take_left' zam
   ·simp only[Value.ownBlock,Option.some.injEq] at hb;omega
 ·by_cases hroom:n+k<=cap
  ·have hcs':cur.size=cap:=by simpa using hcs
   have hst:=Fj (P:=P) g n e fz (List.replicate k (Value.int .u8 0)) 0 cur w hg hfz (by simp only[List.length_replicate];omega) (fun u hu=>by rw[List.eq_of_mem_replicate hu];rfl)
   simp only[Nat.add_zero,List.length_replicate] at hst
   have hr:(Builtin.append_ #[t,u] ty #[.slice (some ⟨g,0,none⟩) n cap,.int kn k]).run P w =
     .ok (.slice (some ⟨g,0,none⟩) (n+k) cap) (w.setRow g (cur.toList.take n++List.replicate k (Value.int .u8 0)++cur.toList.drop (n+k)).toArray):=by
    by_cases hk0:k=0
    ·subst hk0
     have hw0:IntKind.i64.wrap (0:Int)=0:=zal
     simp at hst
     simp[Builtin.append_,run_underlying ht,run_underlying hu,sizeOf,typeInfo,hi,hsize,asInt,asIntOf,hw0,hnc,Addr.add_lit,hst]
    ·have hz2:=hzc k
     simp[Builtin.append_,run_underlying ht,run_underlying hu,sizeOf,typeInfo,zeroValue,hi,hz,hsize,asInt,asIntOf,hw,hneg,h48i,hk0,hroom,hz2,Addr.add_lit,hst]
   refine⟨_,_,hr,⟨hlen,.inr ⟨g,cap,_,fz,rfl,hbg,setRow_heap w g cur _ e _ hg,hroom,hcm,?_,?_,?_⟩⟩,⟨rfl,rfl,rfl,by simp,fun k _ hk=>setRow_other w g k _ (fun e=>hk (by simp[Value.ownBlock,e]))⟩,fun b hb=>.inr hb⟩
   ·simp only[List.size_toArray,List.length_append,List.length_take,List.length_drop,Array.length_toList,List.length_replicate];omega
   ·have ht':cur.toList.take n=xs:=by simpa using htake
    rw[ht',<-hlen]
    exact List.take_left
   ·refine cast (congrArg (fun n=>Q3 n fz) ?_) hfz
    simp only[List.size_toArray,List.length_append,List.length_take,List.length_drop,Array.length_toList,List.length_replicate];omega
  ·have holds:∀ j u,xs[j]?=some u->w.cell? ((⟨g,0,none⟩:Addr).add j)=some u:=hown.cells (g:=g) rfl
   have hold:(Builtin.firstCells i.size n (.slice (some ⟨g,0,none⟩) n cap)).run P w.drew=.ok xs.toArray w.drew:=by
    exact run_firstCells_some (P:=P) w.drew i.size n ⟨g,0,none⟩ n cap xs (by rw[hsize];omega) (fun j u hu=>by simpa using holds j u hu)
   have hr:=run_append_grow_zeros (P:=P) w t u ty e i z kn ku ht hu hi hz (some ⟨g,0,none⟩) n cap xs hold k zaa zaa zaa zaa (by rw[hby];omega) zby
   have hge:=grownCap_ge w (n+k) cap e
   refine⟨_,_,hr,⟨hlen,.inr ⟨w.heap.size,_,_,(0,0),rfl,Nat.zero_le _,heap_alloc_new w.drew _,hge,grownCap_le_maxLen w (n+k) cap e h63,?_,?_,.inr rfl⟩⟩,⟨rfl,rfl,rfl,by simp,fun k hk _=>World.alloc_old_G w _ k hk⟩,fun b hb=>?_⟩
   ·simp only[Array.size_append,List.size_toArray,hzsz,hxl];omega
   ·simp only[Array.toList_append,hzc]
    rw[<-hlen]
    exact List.take_left
   ·simp only[Value.ownBlock,Option.some.injEq] at hb;omega
theorem A6R(src dst e:TypeId)(s:ByteArray)(hs:P.underlying src=some .string)(hd:P.underlying dst=some (.slice e))(he:P.underlying e=some (.int .u8))(hm:s.size<=maxLen):
  ∃ v w',(convert src dst (.string s)).run P w=.ok v w'/\w'.ownsG w.heap.size e 1 v s.size (s.data.toList.map fun b=>Value.int .u8 b.toNat)/\w.grownBy w' none/\v.ownBlock=some w.heap.size:=by
 have hr:=run_bytes_of_string (P:=P) w src dst e s hs hd he
 have hge:=grownCap_ge w s.size 0 e
 have hcs:(bytesRow s (grownCap w s.size 0 e)).size=grownCap w s.size 0 e*1:=by
  simp only[bytesRow,Array.size_append,Array.size_map,Array.size_replicate]
  simp_all
 refine⟨_,_,hr,⟨by simp,.inr ⟨w.heap.size,_,_,_,rfl,Nat.le_refl _,heap_alloc_new w.drew _,hge,grownCap_le_maxLen w s.size 0 e hm,hcs,?_,.inl (Nat.le_refl _)⟩⟩,⟨rfl,rfl,rfl,by simp,fun k hk _=>World.alloc_old_G w _ k hk⟩,rfl⟩
 simp_all[bytesRow]
end
theorem _root_.Go.Eng.Sl.of_ownG{w:World}{base e sz n:Nat}{v:Value}{c:List Value}(h:w.ownsG base e sz v n c):Go.Eng.Sl w sz v c n:=by
 have hl:=h.1
 rcases h.2 with⟨rfl,rfl⟩|⟨g,cap,cur,fz,rfl,hb,hh,hn,hm,hs,ht⟩
 ·simp_all[Go.Eng.Sl.nil]
 ·exact⟨some ⟨g,0,none⟩,cap,rfl,hl,hn,hm,(fun h=>by cases h),fun p hp=>by obtain rfl:=Option.some.inj hp;exact fun j u hu=>h.cells rfl j u hu⟩
end Go
namespace Go.Ax
open Go Go.RowKit Go.Eng
set_option linter.unusedVariables false
variable {a:Act}{w w':World}{sz:Nat}{v:Value}(t d:Nat)
structure Stp (O:Nat->Prop) (w w':World):Prop where
 os:w'.os=w.os
 tape:w'.tape=w.tape
 output:w'.output=w.output
 size:w.heap.size<=w'.heap.size
 block:∀ k,k<w.heap.size->¬O k->w'.heap[k]?=w.heap[k]?
theorem Stp.refl(O:Nat->Prop)(w:World):Stp O w w:=⟨rfl,rfl,rfl,Nat.le_refl _,fun _ _ _=>rfl⟩
theorem Stp.trans{O:Nat->Prop}{a b c:World}(h:Stp O a b)(k:Stp O b c):Stp O a c :=
 ⟨k.os.trans h.os,k.tape.trans h.tape,k.output.trans h.output,Nat.le_trans h.size k.size,fun i hi hn=>(k.block i (Nat.lt_of_lt_of_le hi h.size) hn).trans (h.block i hi hn)⟩
theorem Stp.then{O O1 O2:Nat->Prop}{a b c:World}(h:Stp O1 a b)(k:Stp O2 b c)(h1:∀ i,i<a.heap.size->O1 i->O i)(h2:∀ i,i<a.heap.size->O2 i->O i):Stp O a c :=
 ⟨k.os.trans h.os,k.tape.trans h.tape,k.output.trans h.output,Nat.le_trans h.size k.size,fun i hi hn=>(k.block i (Nat.lt_of_lt_of_le hi h.size) (fun e=>hn (h2 i hi e))).trans (h.block i hi (fun e=>hn (h1 i hi e)))⟩
theorem Stp.mono{O O':Nat->Prop}{a b:World}(h:Stp O a b)(k:∀ i,i<a.heap.size->O i->O' i):Stp O' a b :=
 ⟨h.os,h.tape,h.output,h.size,fun i hi hn=>h.block i hi (fun e=>hn (k i hi e))⟩
abbrev No:Nat->Prop:=fun _=>False
theorem Stp.of_ext(h:Ext w w')(O:Nat->Prop):Stp O w w':=⟨h.os,h.tape,h.output,h.size,fun i hi _=>h.block i hi⟩
theorem Stp.ext(h:Stp No w w'):Ext w w':=⟨h.os,h.tape,h.output,h.size,fun i hi=>h.block i hi id⟩
theorem Stp.of_grown{r:Option Nat}(h:w.grownBy w' r):Stp (fun b=>r=some b) w w':=⟨h.os,h.tape,h.output,h.size,fun i hi hn=>h.block i hi (fun e=>hn e.symm)⟩
inductive Ty where
 | bool|i64|u8|u32|u64|str|unit
 | pair (a b:Ty)
 | sl (e:Ty)
 deriving DecidableEq
@[reducible] def El:Ty->Type
 | .bool=>Bool|.i64=>Int|.u8=>UInt8|.u32=>UInt32|.u64=>UInt64|.str=>List UInt8|.unit=>Unit
 | .pair a b=>El a×El b
 | .sl e=>List (El e)
def Ty.n:Ty->Nat
 | .unit=>0
 | .pair a b=>a.n+b.n
 | _=>1
def F6{α β:Type}(R:α->β->Prop):List α->List β->Prop
 | [],[]=>True
 | a::l,b::m=>R a b/\F6 R l m
 | _,_=>False
theorem F6.len{α β:Type}{R:α->β->Prop}:∀ {l:List α} {m:List β},F6 R l m->m.length=l.length
 | [],[],_=>rfl
 | a::l,b::m,h=>by simp[F6.len h.2]
 | [],b::m,h|a::l,[],h=>h.elim
theorem F6.mono{α β:Type}{R R':α->β->Prop}(hR:∀ a b,R a b->R' a b):∀ {l:List α} {m:List β},F6 R l m->F6 R' l m
 | [],[],_=>trivial
 | a::l,b::m,h=>⟨hR _ _ h.1,F6.mono hR h.2⟩
 | [],b::m,h|a::l,[],h=>h.elim
theorem F6.get{α β:Type}{R:α->β->Prop}:∀ {l:List α} {m:List β} {i:Nat} {a:α},F6 R l m->l[i]?=some a->∃ b,m[i]?=some b/\R a b
 | [],[],i,a,_,h=>zbC
 | x::l,y::m,0,a,h,hi=>⟨y,rfl,by simp at hi;exact hi▸h.1⟩
 | x::l,y::m,i+1,a,h,hi=>by
  obtain⟨b,h1,h2⟩:=F6.get h.2 (i:=i) (a:=a) zaJ
  simp_all
 | [],b::m,_,_,h,_|a::l,[],_,_,h,_=>h.elim
theorem F6.app{α β:Type}{R:α->β->Prop}:∀ {l l':List α} {m m':List β},F6 R l m->F6 R l' m'->F6 R (l++l') (m++m')
 | [],_,[],_,_,h=>h
 | a::l,_,b::m,_,h,h'=>⟨h.1,F6.app h.2 h'⟩
 | [],_,b::m,_,h,_|a::l,_,[],_,h,_=>h.elim
theorem F6.take{α β:Type}{R:α->β->Prop}:∀ {l:List α} {m:List β} (n:Nat),F6 R l m->F6 R (l.take n) (m.take n)
 | _,_,0,_|[],[],n+1,_=>by simp[F6]
 | a::l,b::m,n+1,h=>by simp only[List.take_succ_cons];exact⟨h.1,F6.take n h.2⟩
 | [],b::m,_+1,h|a::l,[],_+1,h=>h.elim
theorem F6.drop{α β:Type}{R:α->β->Prop}:∀ {l:List α} {m:List β} (n:Nat),F6 R l m->F6 R (l.drop n) (m.drop n)
 | l,m,0,h=>za0
 | [],[],n+1,_=>by simp[F6]
 | a::l,b::m,n+1,h=>by simpa using F6.drop n h.2
 | [],b::m,_+1,h|a::l,[],_+1,h=>h.elim
def CR:(t:Ty)->El t->List Value->World->Prop
 | .bool,x,us,_=>us=[.bool x]
 | .i64,x,us,_=>us=[.int .i64 x]
 | .u8,x,us,_=>us=[byteV x]
 | .u32,x,us,_=>us=[G7 x]
 | .u64,x,us,_=>us=[KO x]
 | .str,x,us,_=>us=[.string ⟨x.toArray⟩]
 | .unit,_,us,_=>us=[]
 | .pair a b,x,us,w=>∃ u1 u2,us=u1++u2/\CR a x.1 u1 w/\CR b x.2 u2 w
 | .sl e,l,us,w=>∃ v cs,us=[v]/\F6 (fun x c=>CR e x c w) l cs/\Sl w e.n v cs.flatten l.length
def Rd(t:Ty)(l:List (El t))(v:Value)(w:World):Prop:=∃ cs,F6 (fun x c=>CR t x c w) l cs/\Sl w t.n v cs.flatten l.length
theorem CR.len{w:World}:∀ {t:Ty} {x:El t} {us:List Value},CR t x us w->us.length=t.n
 | .bool,x,us,h|.i64,x,us,h|.u8,x,us,h|.u32,x,us,h|.u64,x,us,h|.str,x,us,h|.unit,x,us,h=>by simp only[CR] at h;subst h;rfl
 | .pair a b,x,us,h=>by
  simp only[CR] at h
  obtain⟨u1,u2,rfl,h1,h2⟩:=h
  rw[List.length_append,CR.len h1,CR.len h2];rfl
 | .sl e,x,us,h=>by simp only[CR] at h;obtain⟨v,cs,rfl,_⟩:=h;rfl
theorem Sl.one{n:Nat}{c:List Value}(h:Sl w sz v c n):v.oneCell'=true:=by
 obtain⟨a,cap,rfl,_⟩:=h;rfl
theorem CR.one{w:World}:∀ {t:Ty} {x:El t} {us:List Value},CR t x us w->∀ u∈us,u.oneCell'=true
 | .bool,x,us,h|.i64,x,us,h=>by simp_all[CR,Value.oneCell']
 | .u8,x,us,h=>by simp_all[CR,Value.oneCell',byteV]
 | .u32,x,us,h=>by simp_all[CR,Value.oneCell',G7]
 | .u64,x,us,h=>by simp_all[CR,Value.oneCell',KO]
 | .str,x,us,h=>by simp_all[CR,Value.oneCell']
 | .unit,x,us,h=>by simp_all[CR]
 | .pair a b,x,us,h=>by
  simp only[CR] at h
  obtain⟨u1,u2,rfl,h1,h2⟩:=h
  intro u hu
  rcases List.mem_append.1 hu with h|h
  ·exact CR.one h1 u h
  ·exact CR.one h2 u h
 | .sl e,x,us,h=>by
  simp only[CR] at h;obtain⟨v,cs,rfl,h1,h2⟩:=h
  grind[Sl.one]
inductive AV where
 | un
 | b (x:Bool)|i (x:Int)|u8 (x:UInt8)|u32 (x:UInt32)|u64 (x:UInt64)|str (l:List UInt8)
 | sl (t:Ty) (l:List (El t))
 | st (t:Ty) (l:List (El t))
 | sn (t:Ty) (l:List (El t))   -- a slice that is not nil
 | nil
 | nm (k:Nat)
 | pa (k off:Nat)
 | pe (k:Nat) (i:Int) (sz off:Nat)
 | vs (k sz:Nat) (lo hi:Int)   -- the part lo..hi of the row k, as a slice
 | gp (g:Nat)   -- the address of a package variable
 | pt (l:List AV)
 | agg (l:List AV)
 | tup (l:List AV)
 | fn (f:Nat) (a b:List AV)
def flat:(t:Ty)->El t->List AV
 | .bool,x=>[.b x]
 | .i64,x=>[.i x]
 | .u8,x=>[.u8 x]
 | .u32,x=>[.u32 x]
 | .u64,x=>[.u64 x]
 | .str,x=>[.str x]
 | .unit,_=>[]
 | .pair a b,x=>flat a x.1++flat b x.2
 | .sl e,l=>[.sl e l]
def flatL(t:Ty):List (El t)->List AV
 | []=>[]
 | x::l=>flat t x++flatL t l
theorem Q4:∀(t:Ty) (x:El t),(flat t x).length=t.n
 | .bool,_|.i64,_|.u8,_|.u32,_|.u64,_|.str,_|.unit,_|.sl _,_=>rfl
 | .pair a b,x=>by rw[flat,List.length_append,Q4 a,Q4 b];rfl
theorem MM(t:Ty):∀(l m:List (El t)),flatL t (l++m)=flatL t l++flatL t m
 | [],m=>rfl
 | x::l,m=>by rw[List.cons_append,flatL,flatL,MM t l m,List.append_assoc]
structure Cx where
 N:Nat->Prop
 ν:Nat->Value
 O:Nat->Prop
 w:World
def blk:Value->Option Nat
 | .pointer (some p)|.slice (some p) _ _=>some p.block
 | _=>none
mutual
def Rep(c:Cx):AV->Value->Prop
 | .un,_=>True
 | .b x,u=>u=.bool x
 | .i x,u=>u=.int .i64 x
 | .u8 x,u=>u=byteV x
 | .u32 x,u=>u=G7 x
 | .u64 x,u=>u=KO x
 | .str x,u=>u=.string ⟨x.toArray⟩
 | .sl t l,u=>∀ w',Stp c.O c.w w'->Rd t l u w'
 | .st t l,u=>A5n u/\∀ w',Stp c.O c.w w'->Rd t l u w'
 | .sn t l,u=>(∃ p n k,u=.slice (some p) n k)/\∀ w',Stp c.O c.w w'->Rd t l u w'
 | .nil,u=>u=.slice none 0 0
 | .nm k,u=>c.N k/\u=c.ν k/\u.oneCell'=true
 | .pa k off,u=>c.N k/\∃ b,blk (c.ν k)=some b/\u=.pointer (some ⟨b,off,none⟩)
 | .pe k i sz off,u=>c.N k/\∃ b,blk (c.ν k)=some b/\u=.pointer (some ⟨b,i.toNat*sz+off,none⟩)
 | .vs k sz lo hi,u=>c.N k/\∃ a n cap,c.ν k=.slice a n cap/\(0<=lo/\lo<=hi/\hi<=(n:Int)/\n<=cap)/\u=.slice (if cap=lo.toNat then a else a.map (·.add (lo.toNat*sz))) (hi.toNat-lo.toNat) (cap-lo.toNat)
 | .gp g,u=>u=.pointer (some ⟨g,0,none⟩)
 | .pt l,u=>∃ p us,u=.pointer (some p)/\Ai c l us/\(∀ x∈us,x.oneCell'=true)/\∀ w',Stp c.O c.w w'->Cs w' p us
 | .agg l,u=>∃ us,u=.agg us.toArray/\Ai c l us/\∀ x∈us,x.oneCell'=true
 | .tup l,u=>∃ us,u=.tuple us.toArray/\Ai c l us
 | .fn f l m,u=>∃ us vs,u=.func (.func f) us.toArray vs.toArray/\Ai c l us/\Ai c m vs
def Ai(c:Cx):List AV->List Value->Prop
 | [],us=>us=[]
 | s::r,us=>∃ u t,us=u::t/\Rep c s u/\Ai c r t
end
mutual
def Py(m:Nat):AV->Bool
 | .nm k|.pa k _|.pe k _ _ _|.vs k _ _ _=>Nat.blt k m
 | .pt l|.agg l|.tup l=>NU m l
 | .fn _ l q=>NU m l&&NU m q
 | _=>true
def NU(m:Nat):List AV->Bool
 | []=>true
 | s::r=>Py m s&&NU m r
end
theorem YZ(m:Nat):∀(l r:List AV),NU m (l++r)=(NU m l&&NU m r)
 | [],r=>by simp[NU]
 | s::l,r=>by simp only[List.cons_append,NU,YZ m l r,Bool.and_assoc]
theorem Ya(m:Nat):∀(t:Ty) (x:El t),NU m (flat t x)=true
 | .bool,_|.i64,_|.u8,_|.u32,_|.u64,_|.str,_|.unit,_|.sl _,_=>rfl
 | .pair a b,x=>by rw[flat,YZ,Ya m a,Ya m b];rfl
theorem bK(m:Nat)(t:Ty):∀(l:List (El t)),NU m (flatL t l)=true
 | []=>rfl
 | x::l=>by rw[flatL,YZ,Ya,bK m t l];rfl
structure Cx.Le (m:Option Nat) (c c':Cx):Prop where
 nm:∀ k,(∀ q,m=some q->k<q)->c.N k->c'.N k/\c'.ν k=c.ν k
 st:∀ w'',Stp c'.O c'.w w''->Stp c.O c.w w''
def nq(m:Option Nat)(s:AV):Prop:=∀ q,m=some q->Py q s=true
def nqL(m:Option Nat)(s:List AV):Prop:=∀ q,m=some q->NU q s=true
mutual
theorem Rep.le{m:Option Nat}{c c':Cx}(h:c.Le m c'):∀(s:AV) (u:Value),nq m s->Rep c s u->Rep c' s u
 | .un,u,_,hr=>by simp only[Rep]
 | .b _,u,_,hr|.i _,u,_,hr|.u8 _,u,_,hr|.u32 _,u,_,hr|.u64 _,u,_,hr|.str _,u,_,hr|.nil,u,_,hr|.gp _,u,_,hr=>by simpa only[Rep] using hr
 | .sl t l,u,_,hr=>by
  simp only[Rep] at hr ⊢
  exact fun w' hw=>hr w' (h.st w' hw)
 | .st t l,u,_,hr=>by
  simp only[Rep] at hr ⊢
  exact⟨hr.1,fun w' hw=>hr.2 w' (h.st w' hw)⟩
 | .sn t l,u,_,hr=>by
  simp only[Rep] at hr ⊢
  exact⟨hr.1,fun w' hw=>hr.2 w' (h.st w' hw)⟩
 | .nm k,u,hn,hr=>by
  simp only[Rep] at hr ⊢
  have:=h.nm k (fun q hq=>by have:=hn q hq;simpa [Py] using this) hr.1
  exact⟨this.1,by rw[this.2];exact hr.2.1,hr.2.2⟩
 | .pa k off,u,hn,hr=>by
  simp only[Rep] at hr ⊢
  have:=h.nm k (fun q hq=>by have:=hn q hq;simpa [Py] using this) hr.1
  exact⟨this.1,by rw[this.2];exact hr.2⟩
 | .pe k i sz off,u,hn,hr=>by
  simp only[Rep] at hr ⊢
  have:=h.nm k (fun q hq=>by have:=hn q hq;simpa [Py] using this) hr.1
  exact⟨this.1,by rw[this.2];exact hr.2⟩
 | .vs k sz lo hi,u,hn,hr=>by
  simp only[Rep] at hr ⊢
  have:=h.nm k (fun q hq=>by have:=hn q hq;simpa [Py] using this) hr.1
  exact⟨this.1,by rw[this.2];exact hr.2⟩
 | .tup l,u,hn,hr=>by
  simp only[Rep] at hr ⊢
  obtain⟨us,h1,h2⟩:=hr
  exact⟨us,h1,Ai.le h l us (fun q hq=>by have:=hn q hq;simpa [Py] using this) h2⟩
 | .agg l,u,hn,hr=>by
  simp only[Rep] at hr ⊢
  obtain⟨us,h1,h2,h3⟩:=hr
  exact⟨us,h1,Ai.le h l us (fun q hq=>by have:=hn q hq;simpa [Py] using this) h2,h3⟩
 | .fn f l p,u,hn,hr=>by
  simp only[Rep] at hr ⊢
  obtain⟨us,vs,h1,h2,h3⟩:=hr
  have hn':=fun q hq=>by have:=hn q hq;simpa only[Py,Bool.and_eq_true] using this
  exact⟨us,vs,h1,Ai.le h l us (fun q hq=>(hn' q hq).1) h2,Ai.le h p vs (fun q hq=>(hn' q hq).2) h3⟩
 | .pt l,u,hn,hr=>by
  simp only[Rep] at hr ⊢
  obtain⟨p,us,h1,h2,h3,h4⟩:=hr
  exact⟨p,us,h1,Ai.le h l us (fun q hq=>by have:=hn q hq;simpa [Py] using this) h2,h3,fun w' hw=>h4 w' (h.st w' hw)⟩
theorem Ai.le{m:Option Nat}{c c':Cx}(h:c.Le m c'):∀(s:List AV) (u:List Value),nqL m s->Ai c s u->Ai c' s u
 | [],u,_,hr=>by simpa only[Ai] using hr
 | s::r,u,hn,hr=>by
  simp only[Ai] at hr ⊢
  obtain⟨v,t,h1,h2,h3⟩:=hr
  have hn':=fun q hq=>by have:=hn q hq;simpa only[NU,Bool.and_eq_true] using this
  exact⟨v,t,h1,Rep.le h s v (fun q hq=>(hn' q hq).1) h2,Ai.le h r t (fun q hq=>(hn' q hq).2) h3⟩
end
theorem Gt(s:AV):nq none s:=fun q h=>za6
theorem EM(s:List AV):nqL none s:=fun q h=>za6
theorem Ai.get{c:Cx}:∀ {l:List AV} {us:List Value} {i:Nat} {s:AV},Ai c l us->l[i]?=some s->∃ u,us[i]?=some u/\Rep c s u
 | [],us,i,s,h,hs=>by simp at hs
 | a::r,us,i,s,h,hs=>by
  simp only[Ai] at h
  obtain⟨u,t,rfl,h1,h2⟩:=h
  cases i with
  | zero=>simp_all
  | succ i=>simp only[List.getElem?_cons_succ] at hs ⊢;exact h2.get hs
theorem Ai.len{c:Cx}:∀ {l:List AV} {us:List Value},Ai c l us->us.length=l.length
 | [],us,h=>by simp_all[Ai]
 | a::r,us,h=>by
  simp only[Ai] at h
  obtain⟨u,t,rfl,_,h2⟩:=h
  simp[h2.len]
theorem Ai.app{c:Cx}:∀ {l m:List AV} {us vs:List Value},Ai c l us->Ai c m vs->Ai c (l++m) (us++vs)
 | [],m,us,vs,h,k=>by simp_all[Ai]
 | a::r,m,us,vs,h,k=>by
  simp only[Ai] at h
  obtain⟨u,t,rfl,h1,h2⟩:=h
  simp only[List.cons_append,Ai]
  exact⟨u,t++vs,rfl,h1,h2.app k⟩
theorem Ai.split{c:Cx}:∀ {l m:List AV} {us:List Value},Ai c (l++m) us->∃ u1 u2,us=u1++u2/\Ai c l u1/\Ai c m u2
 | [],m,us,h=>⟨[],us,rfl,by simp only[Ai],h⟩
 | a::r,m,us,h=>by
  simp only[List.cons_append,Ai] at h
  obtain⟨u,t,rfl,h1,h2⟩:=h
  obtain⟨u1,u2,rfl,h3,h4⟩:=Ai.split h2
  exact⟨u::u1,u2,rfl,by simp only[Ai];grind,h4⟩
theorem Ai.drop{c:Cx}:∀ {l:List AV} {us:List Value} (n:Nat),Ai c l us->Ai c (l.drop n) (us.drop n)
 | l,us,0,h=>za0
 | [],us,n+1,h=>by simp_all[Ai]
 | a::r,us,n+1,h=>by
  simp only[Ai] at h
  obtain⟨u,t,rfl,h1,h2⟩:=h
  simpa using h2.drop n
theorem Ai.take{c:Cx}:∀ {l:List AV} {us:List Value} (n:Nat),Ai c l us->Ai c (l.take n) (us.take n)
 | l,us,0,h=>by simp[Ai]
 | [],us,n+1,h=>by simp_all[Ai]
 | a::r,us,n+1,h=>by
  simp only[Ai] at h
  obtain⟨u,t,rfl,h1,h2⟩:=h
  simp only[List.take_succ_cons,Ai]
  exact⟨u,t.take n,rfl,h1,h2.take n⟩
theorem Ai.one{c:Cx}{s:AV}{u:Value}(h:Rep c s u):Ai c [s] [u]:=by simp only[Ai];simp_all
theorem Ai.un1{c:Cx}{s:AV}{us:List Value}(h:Ai c [s] us):∃ u,us=[u]/\Rep c s u:=by
 simp only[Ai] at h;simp_all
theorem CR.reps{c:Cx}:∀ {t:Ty} {x:El t} {us:List Value},(∀ w',Stp c.O c.w w'->CR t x us w')->Ai c (flat t x) us
 | .bool,x,us,h|.i64,x,us,h|.u8,x,us,h|.u32,x,us,h|.u64,x,us,h|.str,x,us,h=>by have:=h _ (Stp.refl _ _);simp_all[CR,flat,Ai,Rep]
 | .unit,x,us,h=>by have:=h _ (Stp.refl _ _);simp_all[CR,flat,Ai]
 | .pair a b,x,us,h=>by
  have h0:=h _ (Stp.refl _ _)
  simp only[CR] at h0
  obtain⟨u1,u2,rfl,h1,h2⟩:=h0
  have key:∀ w',Stp c.O c.w w'->CR a x.1 u1 w'/\CR b x.2 u2 w':=fun w' hs=>by
   have h3:=h w' hs
   simp only[CR] at h3
   obtain⟨v1,v2,he,h4,h5⟩:=h3
   have:=List.append_inj he (by rw[CR.len h1,CR.len h4])
   simp_all
  simp only[flat]
  exact(CR.reps fun w' hs=>(key w' hs).1).app (CR.reps fun w' hs=>(key w' hs).2)
 | .sl e,l,us,h=>by
  have h0:=h _ (Stp.refl _ _)
  simp only[CR] at h0
  obtain⟨v,cs,rfl,h1,h2⟩:=h0
  simp only[flat]
  refine Ai.one ?_
  simp only[Rep]
  intro w' hs
  have h3:=h w' hs
  simp only[CR] at h3
  obtain⟨v',cs',he,h4,h5⟩:=h3
  simp only[List.cons.injEq,and_true] at he
  subst he
  exact⟨cs',h4,h5⟩
theorem Ai.cr{c:Cx}:∀ {t:Ty} {x:El t} {us:List Value},Ai c (flat t x) us->∀ w',Stp c.O c.w w'->CR t x us w'
 | .bool,x,us,h,w',hs|.i64,x,us,h,w',hs|.u8,x,us,h,w',hs|.u32,x,us,h,w',hs|.u64,x,us,h,w',hs|.str,x,us,h,w',hs=>by simp only[flat,Ai,Rep] at h;obtain⟨u,t,rfl,rfl,rfl⟩:=h;simp[CR]
 | .unit,x,us,h,w',hs=>by simp_all[flat,Ai,CR]
 | .pair a b,x,us,h,w',hs=>by
  simp only[flat] at h
  obtain⟨u1,u2,rfl,h1,h2⟩:=h.split
  simp only[CR]
  exact⟨u1,u2,rfl,h1.cr w' hs,h2.cr w' hs⟩
 | .sl e,l,us,h,w',hs=>by
  simp only[flat,Ai,Rep] at h
  obtain⟨u,t,rfl,h1,rfl⟩:=h
  obtain⟨cs,h2,h3⟩:=h1 w' hs
  simp only[CR]
  grind
theorem Ai.flatL{c:Cx}{t:Ty}:∀ {l:List (El t)} {us:List Value},Ai c (flatL t l) us->∃ cs,us=cs.flatten/\F6 (fun x m=>Ai c (flat t x) m) l cs
 | [],us,h=>⟨[],by grind[Ax.flatL,Ai],by simp[F6]⟩
 | x::l,us,h=>by
  simp only[Ax.flatL] at h
  obtain⟨u1,u2,rfl,h1,h2⟩:=h.split
  obtain⟨cs,rfl,h3⟩:=Ai.flatL h2
  exact⟨u1::cs,by simp,h1,h3⟩
theorem Ai.of_flatL{c:Cx}{t:Ty}:∀ {l:List (El t)} {cs:List (List Value)},F6 (fun x m=>Ai c (flat t x) m) l cs->Ai c (Ax.flatL t l) cs.flatten
 | [],[],_=>by simp[Ax.flatL,Ai]
 | x::l,u::cs,h=>by simp only[Ax.flatL,List.flatten_cons];exact h.1.app (Ai.of_flatL h.2)
 | [],_::_,h|_::_,[],h=>h.elim
theorem UQ{c:Cx}{t:Ty}{x:El t}{us:List Value}(h:Ai c (flat t x) us):∀ u∈us,u.oneCell'=true:=(h.cr c.w (Stp.refl _ _)).one
theorem Jm{c:Cx}{t:Ty}:∀ {l:List (El t)} {us:List Value},Ai c (flatL t l) us->∀ u∈us,u.oneCell'=true
 | [],us,h=>by simp_all[Ax.flatL,Ai]
 | x::l,us,h=>by
  simp only[Ax.flatL] at h
  obtain⟨u1,u2,rfl,h1,h2⟩:=h.split
  intro u hu
  rcases List.mem_append.1 hu with h|h
  ·exact UQ h1 u h
  ·exact Jm h2 u h
theorem A1R{base e n:Nat}{xs:List Value}{Q:Nat->Prop}(h:w.ownsG base e sz v n xs)(hs:Stp Q w w')(hb:∀ b,blk v=some b->¬Q b):w'.ownsG base e sz v n xs:=by
 refine⟨h.1,?_⟩
 rcases h.2 with h2|⟨g,cap,cur,fz,h1,h2,h3,h4⟩
 ·exact .inl h2
 ·refine .inr ⟨g,cap,cur,fz,h1,h2,?_,h4⟩
  have hlt:g<w.heap.size:=(Array.getElem?_eq_some_iff.1 h3).1
  rw[hs.block g hlt (hb g (by rw[h1];rfl))]
  exact h3
theorem UR{base e n:Nat}{xs:List Value}(h:w.ownsG base e sz v n xs):v.oneCell'=true:=by
 rcases h.2 with⟨rfl,_⟩|⟨g,cap,cur,fz,rfl,_⟩<;>rfl
inductive Rs where
 | var (cells:List AV)
 | row (e:Nat) (t:Ty) (l:List (El t))
 | rowA (e sz n:Nat) (cells:List AV)
def A6S(c:Cx)(k:Nat)(cells:List AV):Prop:=∃ b us,c.ν k=.pointer (some ⟨b,0,none⟩)/\Vw c.w b us/\Ai c cells us/\∀ u∈us,u.oneCell'=true
def JG(c:Cx)(k:Nat)(e sz n:Nat)(cells:List AV):Prop:=∃ vs,c.w.ownsG 0 e sz (c.ν k) n vs/\Ai c cells vs/\∀ u∈vs,u.oneCell'=true
def Holds(c:Cx)(k:Nat)(R:Rs):Prop:=match R with
 | .var cells=>A6S c k cells
 | .row e t l=>JG c k e t.n l.length (flatL t l)
 | .rowA e sz n cells=>JG c k e sz n cells
def Rs.cells:Rs->List AV
 | .var cells=>cells
 | .row _ t l=>flatL t l
 | .rowA _ _ _ cells=>cells
abbrev LX:=List (Nat×AV)
abbrev HX:=List (Nat×Option Rs)
abbrev Fp:=List (Nat×Rs)
def JM(t:Nat):LX->Option AV
 | []=>none
 | (d,v)::L=>bif Nat.beq t d then some v else JM t L
def hlk(k:Nat):HX->Option Rs
 | []=>none
 | (d,v)::H=>bif Nat.beq k d then v else hlk k H
def FN(k:Nat):Fp->Option Rs
 | []=>none
 | (d,v)::H=>bif Nat.beq k d then some v else FN k H
def strOf(s:ByteArray):List UInt8:=s.data.toList
def AV.of:Value->AV
 | .bool y=>.b y
 | .int .i64 n=>.i n
 | .int .u8 (.ofNat n)=>bif Nat.blt n 256 then .u8 (UInt8.ofNat n) else .un
 | .int .u32 (.ofNat n)=>bif Nat.blt n 4294967296 then .u32 (UInt32.ofNat n) else .un
 | .int .u64 (.ofNat n)=>bif Nat.blt n 18446744073709551616 then .u64 (UInt64.ofNat n) else .un
 | .string s=>.str (strOf s)
 | .slice none 0 0=>.nil
 | _=>.un
theorem AV.of_rep(c:Cx)(v:Value):Rep c (AV.of v) v:=by
 unfold AV.of
 split
 ·simp only[Rep]
 ·simp only[Rep]
 ·rename_i n
  cases h:Nat.blt n 256
  ·simp only[cond_false,Rep]
  ·have hn:n<256:=zbs
   simp[Rep,byteV,Nat.mod_eq_of_lt hn]
 ·rename_i n
  cases h:Nat.blt n 4294967296
  ·simp only[cond_false,Rep]
  ·have hn:n<4294967296:=zbs
   simp[Rep,G7,Nat.mod_eq_of_lt hn]
 ·rename_i n
  cases h:Nat.blt n 18446744073709551616
  ·simp only[cond_false,Rep]
  ·have hn:n<18446744073709551616:=zbs
   simp[Rep,KO,Nat.mod_eq_of_lt hn]
 ·simp only[Rep,strOf]
 ·simp only[Rep]
 ·simp only[Rep]
def Gl(L:LX):Operand->Option AV
 | .tmp t=>JM t L
 | .const c=>some (AV.of c)
 | .global g=>some (.gp g)
 | .func g=>some (.fn g [] [])
theorem GU(v:AV)(L:LX):JM t ((d,v)::L)=if t=d then some v else JM t L:=by
 simp_all[JM]
theorem IP(v:Option Rs)(L:HX):hlk t ((d,v)::L)=if t=d then v else hlk t L:=by
 simp_all[hlk]
theorem Cb(v:Rs)(L:Fp):FN t ((d,v)::L)=if t=d then some v else FN t L:=by
 simp_all[FN]
@[simp] theorem A8M:FN t []=none:=rfl
structure Gx where
 w0:World
 O0:Nat->Prop
 Oa:Nat->Prop
 n0:Nat
 ν0:Nat->Value
def G9(Oa:Nat->Prop)(hk:Nat->Option Rs)(ν:Nat->Value):Nat->Prop:=fun b=>Oa b\/∃ k R,hk k=some R/\blk (ν k)=some b
structure Sat (I:World->Prop) (n:Nat) (g:Gx) (N:Nat->Prop) (lk:Nat->Option AV) (hk:Nat->Option Rs) (a:Act) (w:World) (ν:Nat->Value):Prop where
 size:a.tmps.size=n
 defers:a.defers=[]
 stp:Stp g.O0 g.w0 w
 amb:∀ b,g.Oa b->b<g.w0.heap.size/\¬g.O0 b
 inv:∀ w',Stp (G9 g.Oa hk ν) w w'->I w'
 pin:∀ k,k<g.n0->N k/\ν k=g.ν0 k
 slots:∀ t s,lk t=some s->Rep ⟨N,ν,G9 g.Oa hk ν,w⟩ s (a.tmps.getD t undef)
 res:∀ k R,hk k=some R->N k/\Holds ⟨N,ν,G9 g.Oa hk ν,w⟩ k R/\∀ b,blk (ν k)=some b->b<w.heap.size/\(g.w0.heap.size<=b\/g.O0 b)
 dist:∀ k k' R R' b,hk k=some R->hk k'=some R'->k≠k'->blk (ν k)=some b->blk (ν k')≠some b
def Em(ν:Nat->Value)(F:Fp):Nat->Prop:=fun b=>∃ k R,FN k F=some R/\blk (ν k)=some b
def has(k:Nat)(F:Fp):Prop:=(FN k F).isSome=true
def upd(F F':Fp)(hk:Nat->Option Rs)(k:Nat):Option Rs:=match FN k F' with
 | some R=>some R
 | none=>match FN k F with|some _=>none|none=>hk k
theorem bM{F F':Fp}{hk:Nat->Option Rs}{k:Nat}{R:Rs}(h:upd F F' hk k=some R):FN k F'=some R\/(hk k=some R/\FN k F'=none/\FN k F=none):=by
 grind[upd]
structure Ok (c:Cx) (F F':Fp) (s:AV) (v:Value) (w':World) (ν':Nat->Value):Prop where
 old:∀ k,c.N k->ν' k=c.ν k
 rep:Rep ⟨fun k=>c.N k\/has k F',ν',fun b=>(c.O b/\¬Em c.ν F b)\/Em ν' F' b,w'⟩ s v
 res:∀ k R,FN k F'=some R->Holds ⟨fun k=>c.N k\/has k F',ν',fun b=>(c.O b/\¬Em c.ν F b)\/Em ν' F' b,w'⟩ k R/\∀ b,blk (ν' k)=some b->b<w'.heap.size/\(c.w.heap.size<=b\/Em c.ν F b)
 dist:∀ k k' R R' b,FN k F'=some R->FN k' F'=some R'->k≠k'->blk (ν' k)=some b->blk (ν' k')≠some b
 stp:Stp (Em c.ν F) c.w w'
theorem JG.le{m:Option Nat}{c c':Cx}{k e sz n:Nat}{cells:List AV}(hle:c.Le m c')(hm:nqL m cells)(hν:c'.ν k=c.ν k)(hb:∀ b,blk (c.ν k)=some b->b<c.w.heap.size/\c'.w.heap[b]?=c.w.heap[b]?)(h:JG c k e sz n cells):JG c' k e sz n cells:=by
 obtain⟨vs,h1,h2,h3⟩:=h
 refine⟨vs,?_,Ai.le hle _ _ hm h2,h3⟩
 rw[hν]
 refine⟨h1.1,?_⟩
 rcases h1.2 with h4|⟨g,cap,cur,fz,h4,h5,h6,h7⟩
 ·exact .inl h4
 ·exact .inr ⟨g,cap,cur,fz,h4,h5,by rw[(hb g (by rw[h4];rfl)).2];exact h6,h7⟩
theorem Holds.le{m:Option Nat}{c c':Cx}{k:Nat}{R:Rs}(hle:c.Le m c')(hm:nqL m R.cells)(hν:c'.ν k=c.ν k)(hb:∀ b,blk (c.ν k)=some b->b<c.w.heap.size/\c'.w.heap[b]?=c.w.heap[b]?)(h:Holds c k R):Holds c' k R:=by
 cases R with
 | var cells =>
  obtain⟨b,us,h1,⟨T,h2⟩,h3,h4⟩:=h
  refine⟨b,us,by simp_all,⟨T,?_⟩,Ai.le hle _ _ hm h3,h4⟩
  rw[(hb b (by rw[h1];rfl)).2];exact h2
 | row e t l|rowA e sz n cells=>exact JG.le hle hm hν hb h
theorem Sat.step{I:World->Prop}{n:Nat}{g:Gx}{N N':Nat->Prop}{lk:Nat->Option AV}{hk hk':Nat->Option Rs}{ν ν':Nat->Value}{F F':Fp}{s:AV}(S:Sat I n g N lk hk a w ν)(hF:∀ k R,FN k F=some R->hk k=some R)(ok:Ok ⟨N,ν,G9 g.Oa hk ν,w⟩ F F' s v w' ν')(hN:∀ k,N' k↔N k\/has k F')(hkq:∀ k,hk' k=upd F F' hk k):
  Sat I n g N' lk hk' a w' ν'/\Rep ⟨N',ν',G9 g.Oa hk' ν',w'⟩ s v:=by
 obtain rfl:N'=fun k=>N k\/has k F':=funext fun k=>propext (hN k)
 obtain rfl:hk'=upd F F' hk:=funext hkq
 have hfb:∀ b,Em ν F b->b<w.heap.size/\(g.w0.heap.size<=b\/g.O0 b)/\G9 g.Oa hk ν b:=by
  rintro b ⟨k,R,hFk,hb⟩
  have hk:=hF k R hFk
  exact⟨((S.res k R hk).2.2 b hb).1,((S.res k R hk).2.2 b hb).2,.inr ⟨k,R,hk,hb⟩⟩
 have hcase:∀ k R,upd F F' hk k=some R->FN k F'=some R\/(hk k=some R/\ν' k=ν k/\∀ b,blk (ν k)=some b->b<w.heap.size/\¬Em ν F b):=by
  intro k R h
  rcases bM h with h|⟨h1,h2,h3⟩
  ·exact .inl h
  ·refine .inr ⟨h1,ok.old k (S.res k R h1).1,fun b hb=>⟨((S.res k R h1).2.2 b hb).1,?_⟩⟩
   rintro⟨k0,R0,hF0,hb0⟩
   by_cases e:k=k0
   ·subst e;rw[h3] at hF0;cases hF0
   ·exact S.dist k k0 R R0 b h1 (hF k0 R0 hF0) e hb hb0
 have hown:∀ b,G9 g.Oa (upd F F' hk) ν' b->(G9 g.Oa hk ν b/\¬Em ν F b)\/Em ν' F' b:=by
  rintro b (h|⟨k,R,h,hb⟩)
  ·refine .inl ⟨.inl h,fun hf=>?_⟩
   have h1:=S.amb b h
   rcases(hfb b hf).2.1 with h2|h2
   ·omega
   ·exact h1.2 h2
  ·rcases hcase k R h with h1|⟨h1,h2,h3⟩
   ·exact .inr ⟨k,R,h1,hb⟩
   ·rw[h2] at hb
    exact .inl ⟨.inr ⟨k,R,h1,hb⟩,(h3 b hb).2⟩
 have hownw:∀ b,b<w.heap.size->G9 g.Oa (upd F F' hk) ν' b->G9 g.Oa hk ν b:=by
  intro b hbw hb
  rcases hown b hb with h|⟨k,R,h,hb'⟩
  ·exact h.1
  ·rcases((ok.res k R h).2 b hb').2 with h1|h1
   ·exact absurd hbw (Nat.not_lt.2 h1)
   ·exact(hfb b h1).2.2
 have hle:Cx.Le none ⟨N,ν,G9 g.Oa hk ν,w⟩ ⟨fun k=>N k\/has k F',ν',G9 g.Oa (upd F F' hk) ν',w'⟩ :=
  ⟨fun k _ hNk=>⟨.inl hNk,ok.old k hNk⟩,fun w'' hs=>ok.stp.then hs (fun i _ h=>(hfb i h).2.2) hownw⟩
 have hle2:Cx.Le none ⟨fun k=>N k\/has k F',ν',fun b=>(G9 g.Oa hk ν b/\¬Em ν F b)\/Em ν' F' b,w'⟩ ⟨fun k=>N k\/has k F',ν',G9 g.Oa (upd F F' hk) ν',w'⟩ :=
  ⟨fun k _ h=>⟨h,rfl⟩,fun w'' hs=>hs.mono fun i _ h=>hown i h⟩
 refine⟨⟨S.size,S.defers,?_,S.amb,fun w'' hs=>S.inv w'' (hle.st w'' hs),fun k hk=>⟨.inl (S.pin k hk).1,(ok.old k (S.pin k hk).1).trans (S.pin k hk).2⟩,fun t s hs=>Rep.le hle s _ (Gt s) (S.slots t s hs),?_,?_⟩,?_⟩
 ·refine S.stp.then ok.stp (fun i _ h=>h) (fun i hi h=>?_)
  rcases(hfb i h).2.1 with h1|h1
  ·omega
  ·exact h1
 ·intro k R h
  rcases hcase k R h with h1|⟨h1,h2,h3⟩
  ·obtain⟨r1,r2⟩:=ok.res k R h1
   refine⟨.inr (by unfold has;rw[h1];rfl),?_,fun b hb=>⟨(r2 b hb).1,?_⟩⟩
   ·exact Holds.le hle2 (EM _) rfl (fun b hb=>⟨(r2 b hb).1,rfl⟩) r1
   ·rcases(r2 b hb).2 with h4|h4
    ·exact .inl (Nat.le_trans S.stp.size h4)
    ·exact(hfb b h4).2.1
  ·obtain⟨r0,r1,r2⟩:=S.res k R h1
   refine⟨.inl r0,?_,fun b hb=>?_⟩
   ·exact Holds.le hle (EM _) h2 (fun b hb=>⟨(h3 b hb).1,ok.stp.block b (h3 b hb).1 (h3 b hb).2⟩) r1
   ·rw[h2] at hb
    exact⟨Nat.lt_of_lt_of_le (r2 b hb).1 ok.stp.size,(r2 b hb).2⟩
 ·intro k k' R R' b h h' hne hb hb'
  rcases hcase k R h with h1|⟨h1,h2,h3⟩
  ·rcases hcase k' R' h' with h1'|⟨h1',h2',h3'⟩
   ·exact ok.dist k k' R R' b h1 h1' hne hb hb'
   ·rw[h2'] at hb'
    rcases((ok.res k R h1).2 b hb).2 with h4|h4
    ·exact absurd (h3' b hb').1 (Nat.not_lt.2 h4)
    ·exact(h3' b hb').2 h4
  ·rw[h2] at hb
   rcases hcase k' R' h' with h1'|⟨h1',h2',h3'⟩
   ·rcases((ok.res k' R' h1').2 b hb').2 with h4|h4
    ·exact absurd (h3 b hb).1 (Nat.not_lt.2 h4)
    ·exact(h3 b hb).2 h4
   ·rw[h2'] at hb'
    exact S.dist k k' R R' b h1 h1' hne hb hb'
 ·exact Rep.le hle2 s v (Gt s) ok.rep
theorem Sat.put{I:World->Prop}{n:Nat}{g:Gx}{N:Nat->Prop}{lk lk':Nat->Option AV}{hk:Nat->Option Rs}{a:Act}{w:World}{ν:Nat->Value}(S:Sat I n g N lk hk a w ν){d:Nat}{s:AV}{v:Value}(hd:d<n)
  (hv:Rep ⟨N,ν,G9 g.Oa hk ν,w⟩ s v) (hl:∀ t,lk' t=if t=d then some s else lk t):Sat I n g N lk' hk (a.put (some d) v) w ν:=by
 refine⟨by rw[ji];exact S.size,by rw[put_defers];exact S.defers,S.stp,S.amb,S.inv,S.pin,fun t u hu=>?_,S.res,S.dist⟩
 rw[hl] at hu
 by_cases e:t=d
 ·rw[if_pos e] at hu
  obtain rfl:=Option.some.inj hu
  subst e
  rw[show(a.put (some t) v).tmps.getD t undef=v from SQ _ _ _ (by rw[S.size];exact hd)]
  exact hv
 ·rw[if_neg e] at hu
  rw[show(a.put (some d) v).tmps.getD t undef=a.tmps.getD t undef from XG _ _ _ _ e]
  exact S.slots t u hu
theorem Sat.fewer{I:World->Prop}{n:Nat}{g:Gx}{N:Nat->Prop}{lk lk':Nat->Option AV}{hk:Nat->Option Rs}{ν:Nat->Value}(S:Sat I n g N lk hk a w ν)(h:∀ t s,lk' t=some s->lk t=some s):Sat I n g N lk' hk a w ν :=
 ⟨S.size,S.defers,S.stp,S.amb,S.inv,S.pin,fun t s hs=>S.slots t s (h t s hs),S.res,S.dist⟩
theorem Sat.moreN{I:World->Prop}{n:Nat}{g:Gx}{N N':Nat->Prop}{lk:Nat->Option AV}{hk:Nat->Option Rs}{ν:Nat->Value}(S:Sat I n g N lk hk a w ν)(h:∀ k,N k->N' k):Sat I n g N' lk hk a w ν :=
 have hle:Cx.Le none ⟨N,ν,G9 g.Oa hk ν,w⟩ ⟨N',ν,G9 g.Oa hk ν,w⟩:=⟨fun k _ hk=>⟨h k hk,rfl⟩,fun _ h=>h⟩
 ⟨S.size,S.defers,S.stp,S.amb,S.inv,fun k hk=>⟨h k (S.pin k hk).1,(S.pin k hk).2⟩,fun t s hs=>Rep.le hle s _ (Gt s) (S.slots t s hs),fun k R hR=>⟨h k (S.res k R hR).1,Holds.le hle (EM _) rfl (fun b hb=>⟨((S.res k R hR).2.2 b hb).1,rfl⟩) (S.res k R hR).2.1,(S.res k R hR).2.2⟩,S.dist⟩
mutual
def ren(ρ:Nat->Nat):AV->AV
 | .nm k=>.nm (ρ k)
 | .pa k o=>.pa (ρ k) o
 | .pe k i s o=>.pe (ρ k) i s o
 | .vs k s a b=>.vs (ρ k) s a b
 | .tup l=>.tup (Ib ρ l)
 | .agg l=>.agg (Ib ρ l)
 | .fn f l q=>.fn f (Ib ρ l) (Ib ρ q)
 | .pt l=>.pt (Ib ρ l)
 | s=>s
def Ib(ρ:Nat->Nat):List AV->List AV
 | []=>[]
 | s::r=>ren ρ s::Ib ρ r
end
def Ic(ρ:Nat->Nat):Rs->Rs
 | .var cells=>.var (Ib ρ cells)
 | .rowA e sz n cells=>.rowA e sz n (Ib ρ cells)
 | R=>R
theorem Yb(ρ:Nat->Nat):∀(l r:List AV),Ib ρ (l++r)=Ib ρ l++Ib ρ r
 | [],r=>by simp[Ib]
 | s::l,r=>by simp only[List.cons_append,Ib,Yb ρ l r]
theorem Yc(ρ:Nat->Nat):∀(t:Ty) (x:El t),Ib ρ (flat t x)=flat t x
 | .bool,_|.i64,_|.u8,_|.u32,_|.u64,_|.str,_|.unit,_|.sl _,_=>rfl
 | .pair a b,x=>by rw[flat,Yb,Yc ρ a,Yc ρ b]
theorem Vz(ρ:Nat->Nat)(t:Ty):∀(l:List (El t)),Ib ρ (flatL t l)=flatL t l
 | []=>rfl
 | x::l=>by rw[flatL,Yb,Yc,Vz ρ t l]
def rlt(m:Nat):Rs->Bool|.var cells=>NU m cells|.rowA _ _ _ cells=>NU m cells|.row _ _ _=>true
theorem bP(m:Nat)(R:Rs):rlt m R=NU m R.cells:=by
 cases R with
 | row e t l=>simp only[rlt,Rs.cells,bK]
 | _=>rfl
mutual
theorem Rep.ren{ρ:Nat->Nat}{N N':Nat->Prop}{ν ν':Nat->Value}{O O':Nat->Prop}{w:World}{m:Nat}(hN:∀ k,k<m->N (ρ k)->N' k/\ν' k=ν (ρ k))(hO:∀ w'',Stp O' w w''->Stp O w w''):∀(s:AV) (u:Value),Py m s=true->Rep ⟨N,ν,O,w⟩ (Ax.ren ρ s) u->Rep ⟨N',ν',O',w⟩ s u
 | .un,u,_,h=>by simp only[Rep]
 | .b _,u,_,h|.i _,u,_,h|.u8 _,u,_,h|.u32 _,u,_,h|.u64 _,u,_,h|.str _,u,_,h|.nil,u,_,h|.gp _,u,_,h|.sl t l,u,_,h|.st t l,u,_,h|.sn t l,u,_,h=>by simp_all[Ax.ren,Rep]
 | .nm k,u,hn,h=>by
  simp only[Ax.ren,Rep] at h ⊢
  have:=hN k (by simpa [Py] using hn) h.1
  grind
 | .pa k o,u,hn,h=>by
  simp_all[Ax.ren,Rep,Py]
 | .pe k i s o,u,hn,h=>by
  simp_all[Ax.ren,Rep,Py]
 | .vs k s a b,u,hn,h=>by
  simp_all[Ax.ren,Rep,Py]
 | .tup l,u,hn,h=>by
  simp only[Ax.ren,Rep] at h ⊢
  obtain⟨us,h1,h2⟩:=h
  exact⟨us,h1,Ai.ren hN hO l us zbQ h2⟩
 | .agg l,u,hn,h=>by
  simp only[Ax.ren,Rep] at h ⊢
  obtain⟨us,h1,h2,h3⟩:=h
  exact⟨us,h1,Ai.ren hN hO l us zbQ h2,h3⟩
 | .fn f l q,u,hn,h=>by
  simp only[Ax.ren,Rep] at h ⊢
  obtain⟨us,vs,h1,h2,h3⟩:=h
  simp only[Py,Bool.and_eq_true] at hn
  exact⟨us,vs,h1,Ai.ren hN hO l us hn.1 h2,Ai.ren hN hO q vs hn.2 h3⟩
 | .pt l,u,hn,h=>by
  simp only[Ax.ren,Rep] at h ⊢
  obtain⟨p,us,h1,h2,h3,h4⟩:=h
  exact⟨p,us,h1,Ai.ren hN hO l us (by simp_all[Py]) h2,h3,fun w' hs=>h4 w' (hO w' hs)⟩
theorem Ai.ren{ρ:Nat->Nat}{N N':Nat->Prop}{ν ν':Nat->Value}{O O':Nat->Prop}{w:World}{m:Nat}(hN:∀ k,k<m->N (ρ k)->N' k/\ν' k=ν (ρ k))(hO:∀ w'',Stp O' w w''->Stp O w w''):∀(s:List AV) (u:List Value),NU m s=true->Ai ⟨N,ν,O,w⟩ (Ib ρ s) u->Ai ⟨N',ν',O',w⟩ s u
 | [],u,_,h=>by simp_all[Ib,Ai]
 | s::r,u,hn,h=>by
  simp only[Ib,Ai] at h ⊢
  simp only[NU,Bool.and_eq_true] at hn
  obtain⟨v,t,h1,h2,h3⟩:=h
  exact⟨v,t,h1,Rep.ren hN hO s v hn.1 h2,Ai.ren hN hO r t hn.2 h3⟩
end
theorem Holds.ren{ρ:Nat->Nat}{N N':Nat->Prop}{ν ν':Nat->Value}{O O':Nat->Prop}{w:World}{m k:Nat}{R:Rs}(hN:∀ k,k<m->N (ρ k)->N' k/\ν' k=ν (ρ k))(hO:∀ w'',Stp O' w w''->Stp O w w'')(hk:ν' k=ν (ρ k))(hR:rlt m R=true)(h:Holds ⟨N,ν,O,w⟩ (ρ k) (Ic ρ R)):Holds ⟨N',ν',O',w⟩ k R:=by
 rw[bP] at hR
 cases R with
 | var cells =>
  obtain⟨b,us,g1,g2,g3,g4⟩:=h
  exact⟨b,us,hk.trans g1,g2,Ai.ren hN hO cells us hR g3,g4⟩
 | row e t l =>
  obtain⟨vs,g1,g2,g3⟩:=h
  exact⟨vs,by simp_all,Ai.ren hN hO _ vs hR (by rw[Vz];exact g2),g3⟩
 | rowA e sz n cells =>
  obtain⟨vs,g1,g2,g3⟩:=h
  exact⟨vs,by simp_all,Ai.ren hN hO cells vs hR g2,g3⟩
theorem Sat.cut{I:World->Prop}{n:Nat}{g:Gx}{m:Nat}{N:Nat->Prop}{lk lk':Nat->Option AV}{hk hk':Nat->Option Rs}{ν:Nat->Value}(ρ:Nat->Nat)(S:Sat I n g N lk hk a w ν)(hρ:∀ k,k<g.n0->k<m/\ρ k=k)(hl:∀ t s,lk' t=some s->lk t=some (ren ρ s)/\Py m s=true)(hh:∀ k R,hk' k=some R->hk (ρ k)=some (Ic ρ R)/\k<m/\rlt m R=true)(hinj:∀ k k' R R',hk' k=some R->hk' k'=some R'->ρ k=ρ k'->k=k'):Sat I n g (· < m) lk' hk' a w (fun k=>ν (ρ k)):=by
 have hown:∀ b,G9 g.Oa hk' (fun k=>ν (ρ k)) b->G9 g.Oa hk ν b:=by
  rintro b (h|⟨k,R,h,hb⟩)
  ·exact .inl h
  ·exact .inr ⟨ρ k,_,(hh k R h).1,hb⟩
 have hO:∀ w'',Stp (G9 g.Oa hk' (fun k=>ν (ρ k))) w w''->Stp (G9 g.Oa hk ν) w w'':=fun w'' hs=>hs.mono fun i _ h=>hown i h
 have hN:∀ k,k<m->N (ρ k)->k<m/\(fun k=>ν (ρ k)) k=ν (ρ k):=fun k h _=>⟨h,rfl⟩
 refine⟨S.size,S.defers,S.stp,S.amb,fun w'' hs=>S.inv w'' (hO w'' hs),fun k hk=>⟨(hρ k hk).1,by show ν (ρ k)=_;rw[(hρ k hk).2];exact(S.pin k hk).2⟩,fun t s hs=>?_,fun k R hR=>?_,fun k k' R R' b h h' hne=>S.dist (ρ k) (ρ k') _ _ b (hh k R h).1 (hh k' R' h').1 (fun e=>hne (hinj k k' R R' h h' e))⟩
 ·obtain⟨h1,h2⟩:=hl t s hs
  exact Rep.ren hN hO s _ h2 (S.slots t _ h1)
 ·obtain⟨h1,h2,h3⟩:=hh k R hR
  obtain⟨r0,r1,r2⟩:=S.res _ _ h1
  exact⟨h2,Holds.ren hN hO rfl h3 r1,r2⟩
end Go.Ax
namespace Go.Ax
open Go Go.RowKit Go.Eng
set_option linter.unusedVariables false
variable {a:Act}{d id d':Nat}{w:World}{j:Nat}{want:Bool}{op:Op}{b:Bool}{ty:TypeId}{pos:String}{af:Array Edge}
abbrev JO(I:World->Prop)(n:Nat)(g:Gx)(m:Nat)(L:LX)(H:HX)(a:Act)(w:World)(ν:Nat->Value):Prop:=Sat I n g (· < m) (fun t=>JM t L) (fun k=>hlk k H) a w ν
abbrev PostX:=Exit->Nat->LX->HX->Prop
def kE(I:World->Prop)(n:Nat)(g:Gx)(Q:PostX):Exit->Act->World->Prop:=fun e a w=>∃ m L H ν,Q e m L H/\JO I n g m L H a w ν
def Wc(P:Program)(I:World->Prop)(n:Nat)(g:Gx)(c:Code)(Q:PostX)(m:Nat)(L:LX)(H:HX):Prop:=∀ a w ν,JO I n g m L H a w ν->c.wp P (kE I n g Q) a w
section
variable {P:Program}{I:World->Prop}{n:Nat}{g:Gx}{Q:PostX}{m:Nat}{L:LX}{H:HX}
theorem Wc.mono{c:Code}{Q':PostX}(h:Wc P I n g c Q m L H)(hq:∀ e m L H,Q e m L H->Q' e m L H):Wc P I n g c Q' m L H :=
 fun a w ν S=>wp_mono (h a w ν S) fun e a w ⟨m,L,H,ν,q,k⟩=>⟨m,L,H,ν,hq _ _ _ _ q,k⟩
theorem A6T{x y:Code}(R:PostX)(h:Wc P I n g x R m L H)(hn:∀ m L H,R .normal m L H->Wc P I n g y Q m L H)(hx:∀ e m L H,e≠.normal->R e m L H->Q e m L H):Wc P I n g (.seq x y) Q m L H:=by
 intro a w ν S
 refine wp_seq (wp_mono (h a w ν S) ?_)
 rintro e a' w' ⟨m',L',H',ν',q,S'⟩
 cases e with
 | normal=>exact hn _ _ _ q a' w' ν' S'
 | _=>exact⟨m',L',H',ν',hx _ _ _ _ zam q,S'⟩
theorem A4P(h:Q .normal m L H):Wc P I n g .skip Q m L H:=fun a w ν S=>wp_skip ⟨m,L,H,ν,h,S⟩
theorem A1S{l:Nat}(h:Q .normal m L H):Wc P I n g (.label l) Q m L H:=fun a w ν S=>wp_label ⟨m,L,H,ν,h,S⟩
theorem A4Q(h:Q (.exit id) m L H):Wc P I n g (.exit id) Q m L H:=fun a w ν S=>wp_exit ⟨m,L,H,ν,h,S⟩
theorem A6U(h:Q .ret m L H):Wc P I n g .ret Q m L H:=fun a w ν S=>wp_ret ⟨m,L,H,ν,h,S⟩
theorem A1T{ν:Nat->Value}(S:JO I n g m L H a w ν){c:Operand}{t:Bool}(hc:Gl L c=some (.b t)):a.eval c=.bool t:=by
 cases c with
 | tmp t'=>have:=S.slots t' _ hc;simp only[Rep] at this;exact this
 | const v =>
  simp only[Gl,Option.some.injEq] at hc
  have:=AV.of_rep ⟨fun _=>False,ν,fun _=>False,w⟩ v
  rw[hc] at this
  simp only[Rep] at this
  exact this
 | global g|func g=>simp[Gl] at hc
theorem A4R{c:Operand}{x y:Code}{t:Bool}(hc:Gl L c=some (.b t))(h:Wc P I n g (bif t then x else y) Q m L H):Wc P I n g (.cond c x y) Q m L H:=by
 intro a w ν S
 have:=A1T S hc
 cases t with
 | true=>exact wp_cond_true this (h a w ν S)
 | false=>exact wp_cond_false this (h a w ν S)
theorem A1U{c:Code}(R:PostX)(h:Wc P I n g c R m L H)(h1:∀ m L H,R (.exit id) m L H->Q .normal m L H)(h2:∀ e m L H,e≠.exit id->R e m L H->Q e m L H):Wc P I n g (.block id c) Q m L H:=by
 intro a w ν S
 refine wp_block (wp_mono (h a w ν S) ?_)
 rintro e a' w' ⟨m',L',H',ν',q,S'⟩
 cases e with
 | exit id' =>
  simp only[Exit.inBlock]
  split
  ·rename_i hid;subst hid;exact⟨m',L',H',ν',h1 _ _ _ q,S'⟩
  ·rename_i hid;exact⟨m',L',H',ν',h2 _ _ _ _ zaJ q,S'⟩
 | _=>exact⟨m',L',H',ν',h2 _ _ _ _ zam q,S'⟩
end
structure Good (I:World->Prop) (c:Cx):Prop where
 lt:∀ b,c.O b->b<c.w.heap.size
 inv:∀ w',Stp c.O c.w w'->I w'
def W9(c:Cx)(L:LX)(e:Operand->Value):Prop:=∀ x s,Gl L x=some s->Rep c s (e x)
structure Pre (c:Cx) (F F':Fp):Prop where
 res:∀ k R,FN k F=some R->c.N k/\Holds c k R/\∀ b,blk (c.ν k)=some b->c.O b
 dist:∀ k k' R R' b,FN k F=some R->FN k' F=some R'->k≠k'->blk (c.ν k)=some b->blk (c.ν k')≠some b
 new:∀ k,has k F'->has k F\/¬c.N k
def OPL(P:Program)(I:World->Prop)(L:LX)(F:Fp)(op:Op)(ty:TypeId)(s:AV)(F':Fp):Prop :=
 ∀(c:Cx) (e:Operand->Value),Good I c->W9 c L e->Pre c F F'->xA P e op ty c.w fun v w'=>∃ ν',Ok c F F' s v w' ν'
def OS(P:Program)(I:World->Prop)(n:Nat)(g:Gx)(op:Op)(ty:TypeId)(m:Nat)(L:LX)(H:HX)(K:AV->Nat->HX->Prop):Prop :=
 ∀ a w ν,JO I n g m L H a w ν->xA P a.eval op ty w fun v w'=>∃ s m' H' ν',K s m' H'/\JO I n g m' L H' a w' ν'/\Rep ⟨(· < m'),ν',G9 g.Oa (fun k=>hlk k H') ν',w'⟩ s v
section
variable {P:Program}{I:World->Prop}{n:Nat}{g:Gx}{m:Nat}{L:LX}{H:HX}
theorem Sat.val{N:Nat->Prop}{lk:Nat->Option AV}{hk:Nat->Option Rs}{a:Act}{w:World}{ν:Nat->Value}(S:Sat I n g N lk hk a w ν){L:LX}(hL:∀ t s,JM t L=some s->lk t=some s):W9 ⟨N,ν,G9 g.Oa hk ν,w⟩ L a.eval:=by
 intro x s hx
 cases x with
 | tmp t=>exact S.slots t s (hL t s hx)
 | const c=>simp only[Gl,Option.some.injEq] at hx;subst hx;exact AV.of_rep _ c
 | global g=>simp only[Gl,Option.some.injEq] at hx;subst hx;simp only[Rep];rfl
 | func g=>simp only[Gl,Option.some.injEq] at hx;subst hx;simp only[Rep,Ai];exact⟨[],[],rfl,rfl,rfl⟩
theorem Sat.good{N:Nat->Prop}{lk:Nat->Option AV}{hk:Nat->Option Rs}{ν:Nat->Value}(S:Sat I n g N lk hk a w ν):Good I ⟨N,ν,G9 g.Oa hk ν,w⟩ :=
 ⟨fun b hb=>by
  rcases hb with h|⟨k,R,h,hb⟩
  ·exact Nat.lt_of_lt_of_le (S.amb b h).1 S.stp.size
  ·exact((S.res k R h).2.2 b hb).1,S.inv⟩
theorem Sat.pre{N:Nat->Prop}{lk:Nat->Option AV}{hk:Nat->Option Rs}{ν:Nat->Value}(S:Sat I n g N lk hk a w ν){F F':Fp}(hF:∀ k R,FN k F=some R->hk k=some R)(hnew:∀ k,has k F'->has k F\/¬N k):Pre ⟨N,ν,G9 g.Oa hk ν,w⟩ F F' :=
 ⟨fun k R hk=>by
  obtain⟨r0,r1,r2⟩:=S.res k R (hF k R hk)
  exact⟨r0,r1,fun b hb=>.inr ⟨k,R,hF k R hk,hb⟩⟩,fun k k' R R' b h h' hne=>S.dist k k' R R' b (hF k R h) (hF k' R' h') hne,hnew⟩
theorem A7d{F F':Fp}{s:AV}{K:AV->Nat->HX->Prop}{m':Nat}{H':HX}(h:OPL P I L F op ty s F')(hF:∀ k R,FN k F=some R->hlk k H=some R)(hnew:∀ k,has k F'->has k F\/¬k<m)(hN:∀ k,has k F'->k<m')(hm:m<=m')(hk':∀ k,hlk k H'=upd F F' (fun k=>hlk k H) k)(hK:K s m' H'):OS P I n g op ty m L H K:=by
 intro a w ν S
 refine Jz (h ⟨(· < m),ν,G9 g.Oa (fun k=>hlk k H) ν,w⟩ a.eval S.good (S.val fun _ _ h=>h) (S.pre hF hnew)) ?_
 rintro v w' ⟨ν',ok⟩
 obtain⟨S',hr⟩:=S.step (N':=fun k=>k<m\/has k F') (hk':=fun k=>hlk k H') hF ok (fun _=>Iff.rfl) hk'
 have hsub:∀ k,(k<m\/has k F')->k<m':=fun k h=>h.elim (fun h=>Nat.lt_of_lt_of_le h hm) (hN k)
 exact⟨s,m',H',ν',hK,S'.moreN hsub,Rep.le (m:=none) (c:=⟨fun k=>k<m\/has k F',ν',G9 g.Oa (fun k=>hlk k H') ν',w'⟩) (c':=⟨(· < m'),ν',G9 g.Oa (fun k=>hlk k H') ν',w'⟩) ⟨fun k _ hk=>⟨hsub k hk,rfl⟩,fun _ h=>h⟩ s v (Gt s) hr⟩
end
def RS(P:Program)(I:World->Prop)(n:Nat)(g:Gx)(ops:Array Oper)(Q:PostX)(l:List Oper)(m:Nat)(L:LX)(H:HX):Prop:=∀ a w ν,JO I n g m L H a w ν->wpList P ops (kE I n g Q) l a w
section
variable {P:Program}{I:World->Prop}{n:Nat}{g:Gx}{Q:PostX}{m:Nat}{L:LX}{H:HX}{ops:Array Oper}{rest:List Oper}
theorem zV{l:List Oper}(h:RS P I n g l.toArray Q l m L H):Wc P I n g (.region id l.toArray false) Q m L H:=fun a w ν S=>wp_region_lit (h a w ν S)
theorem A6V(h:Q .normal m L H):RS P I n g ops Q [] m L H:=fun a w ν S=>wpList_nil ⟨m,L,H,ν,h,S⟩
theorem sx(h:OS P I n g op ty m L H fun s m' H'=>RS P I n g ops Q rest m' ((d,s)::L) H')(hd:d<n):RS P I n g ops Q (⟨some d,op,ty,pos,af,none⟩::rest) m L H:=by
 intro a w ν S
 refine wpList_plain rfl fun K hK=>KQ (Jz (h a w ν S) ?_)
 rintro v w' ⟨s,m',H',ν',hr,S',hv⟩
 exact hK _ _ (hr _ _ ν' (S'.put hd hv (fun t=>GU t d s L)))
theorem sx0(h:OS P I n g op ty m L H fun s m' H'=>RS P I n g ops Q rest m' L H'):RS P I n g ops Q (⟨none,op,ty,pos,af,none⟩::rest) m L H:=by
 intro a w ν S
 refine wpList_plain rfl fun K hK=>KQ (Jz (h a w ν S) ?_)
 rintro v w' ⟨s,m',H',ν',hr,S',hv⟩
 exact hK _ _ (hr _ _ ν' S')
theorem UT{ν:Nat->Value}(S:JO I n g m L H a w ν)(hj:(ops[j]?).bind (·.dst)=some d')(hb:JM d' L=some (.b b))(hd':d'<n):yielded ops a.tmps j=some b:=by
 have:=S.slots d' _ hb
 simp only[Rep] at this
 simp only[yielded,hj,Option.bind_some]
 rw[Array.getD_eq_getD_getElem?] at this
 have hlt:d'<a.tmps.size:=by rw[S.size];exact hd'
 simp_all
theorem sxY(hj:(ops[j]?).bind (·.dst)=some d')(hb:JM d' L=some (.b want))(hd':d'<n)(h:OS P I n g op ty m L H fun s m' H'=>RS P I n g ops Q rest m' ((d,s)::L) H')(hd:d<n):RS P I n g ops Q (⟨some d,op,ty,pos,af,some (j,want)⟩::rest) m L H:=by
 intro a w ν S
 have hy:=UT S hj hb hd'
 refine wpList_step fun K hK=>?_
 rw[if_pos zbR]
 refine KQ (Jz (h a w ν S) ?_)
 rintro v w' ⟨s,m',H',ν',hr,S',hv⟩
 exact hK _ _ (hr _ _ ν' (S'.put hd hv (fun t=>GU t d s L)))
theorem A8R(hj:(ops[j]?).bind (·.dst)=some d')(hb:JM d' L=some (.b want))(hd':d'<n)(h:OS P I n g op ty m L H fun s m' H'=>RS P I n g ops Q rest m' L H'):RS P I n g ops Q (⟨none,op,ty,pos,af,some (j,want)⟩::rest) m L H:=by
 intro a w ν S
 have hy:=UT S hj hb hd'
 refine wpList_step fun K hK=>?_
 rw[if_pos zbR]
 refine KQ (Jz (h a w ν S) ?_)
 rintro v w' ⟨s,m',H',ν',hr,S',hv⟩
 exact hK _ _ (hr _ _ ν' S')
theorem sxN(hj:(ops[j]?).bind (·.dst)=some d')(hb:JM d' L=some (.b b))(hw:b = !want)(h:RS P I n g ops Q rest m ((d,.tup [])::L) H)(hd:d<n)(hd':d'<n):RS P I n g ops Q (⟨some d,op,ty,pos,af,some (j,want)⟩::rest) m L H:=by
 intro a w ν S
 have hy:=UT S hj hb hd'
 refine wpList_step fun K hK=>?_
 rw[if_neg (by simp_all[Region.wanted])]
 exact hK _ _ (h _ _ ν (S.put hd zbK (fun t=>GU t d _ L)))
theorem A8S(hj:(ops[j]?).bind (·.dst)=some d')(hb:JM d' L=some (.b b))(hw:b = !want)(h:RS P I n g ops Q rest m L H)(hd':d'<n):RS P I n g ops Q (⟨none,op,ty,pos,af,some (j,want)⟩::rest) m L H:=by
 intro a w ν S
 have hy:=UT S hj hb hd'
 refine wpList_step fun K hK=>?_
 rw[if_neg (by simp_all[Region.wanted])]
 exact hK _ _ (h _ _ ν S)
theorem kF{ν:Nat->Value}(S:JO I n g m L H a w ν)(hj:(ops[j]?).bind (·.dst)=some d')(hb:JM d' L=some (.tup []))(hd':d'<n):yielded ops a.tmps j=none:=by
 have:=S.slots d' _ hb
 simp only[Rep,Ai] at this
 obtain⟨us,h1,rfl⟩:=this
 simp only[yielded,hj,Option.bind_some]
 rw[Array.getD_eq_getD_getElem?] at h1
 grind
theorem sxU(hj:(ops[j]?).bind (·.dst)=some d')(hb:JM d' L=some (.tup []))(h:RS P I n g ops Q rest m ((d,.tup [])::L) H)(hd:d<n)(hd':d'<n):RS P I n g ops Q (⟨some d,op,ty,pos,af,some (j,want)⟩::rest) m L H:=by
 intro a w ν S
 have hy:=kF S hj hb hd'
 refine wpList_step fun K hK=>?_
 rw[if_neg zbR]
 exact hK _ _ (h _ _ ν (S.put hd zbK (fun t=>GU t d _ L)))
theorem A8T(hj:(ops[j]?).bind (·.dst)=some d')(hb:JM d' L=some (.tup []))(h:RS P I n g ops Q rest m L H)(hd':d'<n):RS P I n g ops Q (⟨none,op,ty,pos,af,some (j,want)⟩::rest) m L H:=by
 intro a w ν S
 have hy:=kF S hj hb hd'
 refine wpList_step fun K hK=>?_
 rw[if_neg zbR]
 exact hK _ _ (h _ _ ν S)
end
end Go.Ax
namespace Go.Ax
open Go Go.RowKit Go.Eng
set_option linter.unusedVariables false
variable {α:Type}
def iadd0(a b:Int):Int:=IntKind.i64.wrap (a+b)
def isub0(a b:Int):Int:=IntKind.i64.wrap (a-b)
def imul0(a b:Int):Int:=IntKind.i64.wrap (a*b)
def iquo0(a b:Int):Int:=IntKind.i64.wrap (a.tdiv b)
def irem0(a b:Int):Int:=a.tmod b
def ibit0(op:BinOp)(a b:Int):Int:=bits op .i64 a b
def ineg0(a:Int):Int:=IntKind.i64.wrap (-a)
def ieq0(a b:Int):Bool:=a==b
def ine0(a b:Int):Bool:=a != b
def ilt0(a b:Int):Bool:=decide (a<b)
def ile0(a b:Int):Bool:=decide (a<=b)
def ishl0(a:Int)(c:Nat):Int:=IntKind.i64.wrap (a*2^min c 64)
def ishr0(a:Int)(c:Nat):Int:=a/2^min c 64
def beq0(a b:Bool):Bool:=a==b
def bnot0(a:Bool):Bool := !a
def and0(a b:Bool):Bool:=a&&b
def seq0(a b:List UInt8):Bool:=decide (a=b)
def u8op0(op:BinOp)(a b:UInt8):UInt8:=A1H op a b
def u32op0(op:BinOp)(a b:UInt32):UInt32:=jm op a b
def u64op0(op:BinOp)(a b:UInt64):UInt64:=UE op a b
def u8rem0(a b:UInt8):UInt8:=UInt8.ofNat (a.toNat%b.toNat)
def u8shr0(a:UInt8)(c:Nat):UInt8:=UInt8.ofNat (a.toNat/2^min c 8)
def u8shl0(a:UInt8)(c:Nat):UInt8:=UInt8.ofInt ((a.toNat:Int)*2^min c 8)
def u64shr0(a:UInt64)(c:Nat):UInt64:=UInt64.ofNat (a.toNat/2^min c 64)
def u64shl0(a:UInt64)(c:Nat):UInt64:=UInt64.ofInt ((a.toNat:Int)*2^min c 64)
def u32shr0(a:UInt32)(c:Nat):UInt32:=UInt32.ofNat (a.toNat/2^min c 32)
def u32shl0(a:UInt32)(c:Nat):UInt32:=UInt32.ofInt ((a.toNat:Int)*2^min c 32)
def i64w0(a:Int):Int:=IntKind.i64.wrap a
def u8i0(a:UInt8):Int:=(a.toNat:Int)
def u64i0(a:UInt64):Int:=IntKind.i64.wrap (a.toNat:Int)
def iu80(a:Int):UInt8:=UInt8.ofInt a
def iu320(a:Int):UInt32:=UInt32.ofInt a
def iu640(a:Int):UInt64:=UInt64.ofInt a
def u8u640(a:UInt8):UInt64:=a.toUInt64
def u8u320(a:UInt8):UInt32:=a.toUInt32
def u64u80(a:UInt64):UInt8:=a.toUInt8
def u32u80(a:UInt32):UInt8:=a.toUInt8
def u64cmp0(op:BinOp)(a b:UInt64):Bool:=jl op (a.toNat:Int) (b.toNat:Int)
def u8cmp0(op:BinOp)(a b:UInt8):Bool:=jl op (a.toNat:Int) (b.toNat:Int)
def u32cmp0(op:BinOp)(a b:UInt32):Bool:=jl op (a.toNat:Int) (b.toNat:Int)
def llen0{α:Type}(l:List α):Int:=(l.length:Int)
def lget0{α:Type}(l:List α)(i:Int):Option α:=if 0<=i then l[i.toNat]? else none
def linb0{α:Type}(l:List α)(i:Int):Bool:=decide (0<=i/\i<l.length)
def lset0{α:Type}(l:List α)(i:Int)(a:α):List α:=l.set i.toNat a
def lcut0{α:Type}(l:List α)(lo hi:Int):Option (List α):=if 0<=lo/\lo<=hi/\hi<=l.length then some ((l.drop lo.toNat).take (hi-lo).toNat) else none
def lrep0{α:Type}(n:Int)(a:α):List α:=List.replicate n.toNat a
def lapp0{α:Type}(l m:List α):List α:=l++m
def lcpy0{α:Type}(l m:List α):List α:=m.take l.length++l.drop m.length
def lemp0{α:Type}(l:List α):Bool:=l.isEmpty
def ieqs0(l m:List Int):Bool:=decide (l=m)
def fits0{α:Type}(l:List α)(bytes:Nat):Bool:=decide (l.length*bytes<=140737488355328)
def fitn0(n:Int)(bytes:Nat):Bool:=decide (0<=n/\bytes*n.toNat<=281474976710656)
noncomputable def Ac{α:Type}(a:α):α:=Classical.choose (⟨a,rfl⟩:∃ x,x=a)
theorem BJ(a:α):Ac a=a:=Classical.choose_spec (⟨a,rfl⟩:∃ x,x=a)
noncomputable def Cc:Int->Int->Int:=Ac iadd0
theorem A1V:Cc=iadd0:=BJ _
noncomputable def Dn:Int->Int->Int:=Ac isub0
theorem A1W:Dn=isub0:=BJ _
noncomputable def D7:Int->Int->Int:=Ac imul0
theorem A1X:D7=imul0:=BJ _
noncomputable def DU:Int->Int->Int:=Ac iquo0
theorem A1Y:DU=iquo0:=BJ _
noncomputable def DD:Int->Int->Int:=Ac irem0
theorem fM:DD=irem0:=BJ _
noncomputable def BA:BinOp->Int->Int->Int:=Ac ibit0
theorem Q5:BA=ibit0:=BJ _
noncomputable def Dp:Int->Int:=Ac ineg0
theorem A1Z:Dp=ineg0:=BJ _
noncomputable def F7:Int->Int->Bool:=Ac ieq0
theorem UU:F7=ieq0:=BJ _
noncomputable def FY:Int->Int->Bool:=Ac ine0
theorem XJ:FY=ine0:=BJ _
noncomputable def FD:Int->Int->Bool:=Ac ilt0
theorem PW:FD=ilt0:=BJ _
noncomputable def Ez:Int->Int->Bool:=Ac ile0
theorem O9:Ez=ile0:=BJ _
noncomputable def Ci:Int->Nat->Int:=Ac ishl0
theorem fO:Ci=ishl0:=BJ _
noncomputable def CS:Int->Nat->Int:=Ac ishr0
theorem fP:CS=ishr0:=BJ _
noncomputable def DK:Bool->Bool->Bool:=Ac beq0
theorem SS:DK=beq0:=BJ _
noncomputable def DV:Bool->Bool:=Ac bnot0
theorem A1a:DV=bnot0:=BJ _
noncomputable def and':Bool->Bool->Bool:=Ac and0
theorem A5o:and'=and0:=BJ _
noncomputable def DW:List UInt8->List UInt8->Bool:=Ac seq0
theorem xE:DW=seq0:=BJ _
noncomputable def DL:BinOp->UInt8->UInt8->UInt8:=Ac u8op0
theorem fQ:DL=u8op0:=BJ _
noncomputable def BR:BinOp->UInt32->UInt32->UInt32:=Ac u32op0
theorem UV:BR=u32op0:=BJ _
noncomputable def Bh:BinOp->UInt64->UInt64->UInt64:=Ac u64op0
theorem Ew:Bh=u64op0:=BJ _
noncomputable def C9:UInt8->UInt8->UInt8:=Ac u8rem0
theorem xG:C9=u8rem0:=BJ _
noncomputable def CB:UInt8->Nat->UInt8:=Ac u8shr0
theorem xH:CB=u8shr0:=BJ _
noncomputable def CG:UInt8->Nat->UInt8:=Ac u8shl0
theorem A4T:CG=u8shl0:=BJ _
noncomputable def BG:UInt64->Nat->UInt64:=Ac u64shr0
theorem kG:BG=u64shr0:=BJ _
noncomputable def BI:UInt64->Nat->UInt64:=Ac u64shl0
theorem kH:BI=u64shl0:=BJ _
noncomputable def Aw:UInt32->Nat->UInt32:=Ac u32shr0
theorem kJ:Aw=u32shr0:=BJ _
noncomputable def BC:UInt32->Nat->UInt32:=Ac u32shl0
theorem kK:BC=u32shl0:=BJ _
noncomputable def Dq:Int->Int:=Ac i64w0
theorem A1b:Dq=i64w0:=BJ _
noncomputable def Fh:UInt8->Int:=Ac u8i0
theorem xI:Fh=u8i0:=BJ _
noncomputable def Dt:UInt64->Int:=Ac u64i0
theorem A1c:Dt=u64i0:=BJ _
noncomputable def ER:Int->UInt8:=Ac iu80
theorem A5p:ER=iu80:=BJ _
noncomputable def DX:Int->UInt32:=Ac iu320
theorem A1d:DX=iu320:=BJ _
noncomputable def Bl:Int->UInt64:=Ac iu640
theorem GK:Bl=iu640:=BJ _
noncomputable def CE:UInt8->UInt64:=Ac u8u640
theorem xJ:CE=u8u640:=BJ _
noncomputable def Bv:UInt8->UInt32:=Ac u8u320
theorem xK:Bv=u8u320:=BJ _
noncomputable def Bz:UInt64->UInt8:=Ac u64u80
theorem xM:Bz=u64u80:=BJ _
noncomputable def Bi:UInt32->UInt8:=Ac u32u80
theorem fU:Bi=u32u80:=BJ _
noncomputable def Az:BinOp->UInt64->UInt64->Bool:=Ac u64cmp0
theorem KC:Az=u64cmp0:=BJ _
noncomputable def Bg:BinOp->UInt8->UInt8->Bool:=Ac u8cmp0
theorem Oo:Bg=u8cmp0:=BJ _
noncomputable def BK:BinOp->UInt32->UInt32->Bool:=Ac u32cmp0
theorem A1e:BK=u32cmp0:=BJ _
noncomputable def Bj{α:Type}:List α->Int:=Ac llen0
theorem rC:@Bj α=llen0:=BJ _
noncomputable def BO{α:Type}:List α->Int->Option α:=Ac lget0
theorem Nw:@BO α=lget0:=BJ _
noncomputable def Du{α:Type}:List α->Int->Bool:=Ac linb0
theorem A1f:@Du α=linb0:=BJ _
noncomputable def Bc{α:Type}:List α->Int->α->List α:=Ac lset0
theorem A1g:@Bc α=lset0:=BJ _
noncomputable def DF{α:Type}:List α->Int->Int->Option (List α):=Ac lcut0
theorem fV:@DF α=lcut0:=BJ _
noncomputable def BZ{α:Type}:Int->α->List α:=Ac lrep0
theorem rD:@BZ α=lrep0:=BJ _
noncomputable def BM{α:Type}:List α->List α->List α:=Ac lapp0
theorem fZ:@BM α=lapp0:=BJ _
noncomputable def Cj{α:Type}:List α->List α->List α:=Ac lcpy0
theorem A1h:@Cj α=lcpy0:=BJ _
noncomputable def Di{α:Type}:List α->Bool:=Ac lemp0
theorem A1i:@Di α=lemp0:=BJ _
noncomputable def fits{α:Type}:List α->Nat->Bool:=Ac fits0
theorem Yd:@fits α=fits0:=BJ _
noncomputable def Dk:List Int->List Int->Bool:=Ac ieqs0
theorem gB:Dk=ieqs0:=BJ _
noncomputable def Dv:Int->Nat->Bool:=Ac fitn0
theorem A1j:Dv=fitn0:=BJ _
theorem xN:Cc=iadd0/\Dn=isub0/\D7=imul0/\DU=iquo0/\DD=irem0/\BA=ibit0/\Dp=ineg0/\F7=ieq0/\FY=ine0/\FD=ilt0/\Ez=ile0/\Ci=ishl0/\CS=ishr0/\DK=beq0/\DV=bnot0/\and'=and0/\DW=seq0/\DL=u8op0/\BR=u32op0/\Bh=u64op0/\C9=u8rem0/\CB=u8shr0/\CG=u8shl0/\BG=u64shr0/\BI=u64shl0/\Aw=u32shr0/\BC=u32shl0/\Dq=i64w0/\Fh=u8i0/\Dt=u64i0/\ER=iu80/\DX=iu320/\Bl=iu640/\CE=u8u640/\Bv=u8u320/\Bz=u64u80/\Bi=u32u80/\Az=u64cmp0/\Bg=u8cmp0/\BK=u32cmp0/\Dk=ieqs0/\Dv=fitn0:=⟨A1V,A1W,A1X,A1Y,fM,Q5,A1Z,UU,XJ,PW,O9,fO,fP,SS,A1a,A5o,xE,fQ,UV,Ew,xG,xH,A4T,kG,kH,kJ,kK,A1b,xI,A1c,A5p,A1d,GK,xJ,xK,xM,fU,KC,Oo,A1e,gB,A1j⟩
theorem xO:@Bj α=llen0/\@BO α=lget0/\@Du α=linb0/\@Bc α=lset0/\@DF α=lcut0/\@BZ α=lrep0/\@BM α=lapp0/\@Cj α=lcpy0/\@Di α=lemp0/\@fits α=fits0:=⟨rC,Nw,A1f,A1g,fV,rD,fZ,A1h,A1i,Yd⟩
noncomputable section
def A4U:(e e':Ty)->List (El e')->Option (List (El e))
 | .u8,.u8,l|.i64,.i64,l|.sl .u8,.sl .u8,l|.sl (.sl .u8),.sl (.sl .u8),l=>some l
 | e,e',l=>if h:e'=e then(Eq.rec (motive:=fun x _=>Option (List (El x))) (some l) h) else none
theorem gG:∀ {e e':Ty} {l:List (El e')} {l':List (El e)},A4U e e' l=some l'->e'=e/\HEq l l':=by
 intro e e' l l' h
 unfold A4U at h
 split at h
 ·exact⟨rfl,heq_of_eq (Option.some.inj h)⟩
 ·exact⟨rfl,heq_of_eq (Option.some.inj h)⟩
 ·exact⟨rfl,heq_of_eq (Option.some.inj h)⟩
 ·exact⟨rfl,heq_of_eq (Option.some.inj h)⟩
 ·split at h
  ·rename_i e2;subst e2;exact⟨rfl,heq_of_eq (Option.some.inj h)⟩
  ·cases h
def Ye:(t:Ty)->List AV->Option (El t×List AV)
 | .bool,.b x::r|.i64,.i x::r|.u8,.u8 x::r|.u32,.u32 x::r|.u64,.u64 x::r|.str,.str x::r=>some (x,r)
 | .unit,r=>some ((),r)
 | .pair a b,r=>match Ye a r with
  | some (x,r)=>(match Ye b r with|some (y,r)=>some ((x,y),r)|none=>none)
  | none=>none
 | .sl e,.sl e' l::r|.sl e,.st e' l::r|.sl e,.sn e' l::r=>(match A4U e e' l with|some l=>some (l,r)|none=>none)
 | .sl e,.nil::r=>some ([],r)
 | _,_=>none
inductive Und where
 | bool|i64|u8|u32|u64|str
 | sl (el:TypeId)
 | fld (pl:List (Nat×Nat)) (sc:List Bool)
 | arr (n el:Nat)
 | ptr (el:TypeId)
 | oth
structure TI where
 u:Und
 size:Nat
 bytes:Nat
 zero:List AV
 ty:Option Ty
 eq2:Bool:=false
 eqn:Nat:=0   -- a struct of so many whole numbers, and of nothing else
 gl:List (Nat×List UInt32):=[]   -- package variables of this type, tables of words that nobody writes
abbrev TT:=List (Nat×TI)
def UW(k:Nat):TT->Option TI
 | []=>none
 | (d,v)::H=>bif Nat.beq k d then some v else UW k H
def addN{R:Type}(m nn:Nat)(K:Nat->R):R:=match m+nn with|0=>K 0|n+1=>K (n+1)
theorem EN{R:Type}(m nn:Nat)(K:Nat->R):addN m nn K=K (m+nn):=by grind[addN]
def Iz{R:Type}:List Nat->(List Nat->R)->R
 | [],K=>K []
 | a::r,K=>addN 0 a fun a=>Iz r fun r=>K (a::r)
theorem Eo{R:Type}:∀(l:List Nat) (K:List Nat->R),Iz l K=K l
 | [],K=>rfl
 | a::r,K=>by simp only[Iz,EN,Eo r,Nat.zero_add]
def A1k{R:Type}(i:TI)(K:Nat->R):R:=match i with|⟨_,_,b,_,_,_,_,_⟩=>K b
theorem UX{R:Type}(i:TI)(K:Nat->R):A1k i K=K i.bytes:=rfl
mutual
def force{R:Type}:AV->(AV->R)->R
 | .pt l,K=>Iq l fun l=>K (.pt l)
 | .agg l,K=>Iq l fun l=>K (.agg l)
 | .tup l,K=>Iq l fun l=>K (.tup l)
 | .fn f a b,K=>Iq a fun a=>Iq b fun b=>K (.fn f a b)
 | .un,K=>K .un
 | .b x,K=>K (.b x)
 | .i x,K=>K (.i x)
 | .u8 x,K=>K (.u8 x)
 | .u32 x,K=>K (.u32 x)
 | .u64 x,K=>K (.u64 x)
 | .str x,K=>K (.str x)
 | .gp g,K=>K (.gp g)
 | .sl t l,K=>K (.sl t l)
 | .st t l,K=>K (.st t l)
 | .sn t l,K=>K (.sn t l)
 | .nil,K=>K .nil
 | .nm k,K=>addN 0 k fun k=>K (.nm k)
 | .pa k o,K=>addN 0 k fun k=>K (.pa k o)
 | .pe k i s o,K=>addN 0 k fun k=>K (.pe k i s o)
 | .vs k s a b,K=>addN 0 k fun k=>K (.vs k s a b)
def Iq{R:Type}:List AV->(List AV->R)->R
 | [],K=>K []
 | s::r,K=>force s fun s=>Iq r fun r=>K (s::r)
end
def WA{R:Type}:Rs->(Rs->R)->R
 | .var l,K=>Iq l fun l=>K (.var l)
 | .row e t l,K=>K (.row e t l)
 | .rowA e s n l,K=>Iq l fun l=>K (.rowA e s n l)
mutual
theorem force_eq{R:Type}:∀(s:AV) (K:AV->R),force s K=K s
 | .pt l,K|.agg l,K|.tup l,K|.fn f a b,K=>by simp only[force,Hu]
 | .un,K|.b _,K|.i _,K|.u8 _,K|.u32 _,K|.u64 _,K|.str _,K|.sl _ _,K|.st _ _,K|.sn _ _,K|.nil,K|.gp _,K=>by simp only[force]
 | .nm _,K|.pa _ _,K|.pe _ _ _ _,K|.vs _ _ _ _,K=>by simp_all[force,EN]
theorem Hu{R:Type}:∀(s:List AV) (K:List AV->R),Iq s K=K s
 | [],K=>by simp only[Iq]
 | s::r,K=>by simp only[Iq,force_eq,Hu]
end
theorem Qz{R:Type}(s:Rs)(K:Rs->R):WA s K=K s:=by cases s<;>simp only[WA,Hu]
structure Tr where
 s:AV
 F:Fp
 F':Fp
 rd:Bool
 nn:Nat
def Tr.pure(s:AV):Tr:=⟨s,[],[],true,0⟩
def cellsA:AV->Option (List AV)
 | .gp _|.tup _|.un=>none
 | .agg l=>some l
 | s=>some [s]
mutual
def noRd:AV->Bool
 | .sl _ _|.st _ _|.sn _ _|.pt _=>false
 | .agg l|.tup l=>MB l
 | .fn _ a b=>MB a&&MB b
 | _=>true
def MB:List AV->Bool
 | []=>true
 | s::r=>noRd s&&MB r
end
def Ty.plain:Ty->Bool
 | .sl _=>false
 | .pair a b=>a.plain&&b.plain
 | _=>true
def bQ:Rs->Bool
 | .var l=>MB l
 | .row _ t _=>t.plain
 | .rowA _ _ _ l=>MB l
def PX:Fp->Bool
 | []=>true
 | (_,R)::r=>bQ R&&PX r
def rdA(hk:Nat->Option Rs):AV->Option (AV×Fp)
 | .nm k=>match hk k with|some (.row e t l)=>some (.sl t l,[(k,.row e t l)])|_=>none
 | s=>some (s,[])
def LM:AV->Option Int
 | .i x=>some x
 | .u8 x=>some (Fh x)
 | .u64 x|.u32 x=>some (x.toNat:Int)
 | _=>none
def scalar:Und->Bool
 | .fld _ _|.arr _ _=>false
 | _=>true
variable {R:Type}
def Oq(y:AV)(K:Nat->Option R):Option R:=match y with
 | .i c=>bif FD c 0 then none else K c.toNat
 | .u8 c|.u32 c|.u64 c=>K c.toNat
 | _=>none
def WB(op:BinOp)(a b:UInt8)(K:AV->Option R):Option R:=match op with
 | .rem=>bif Nat.beq b.toNat 0 then none else K (.u8 (C9 a b))
 | _=>none
def intsOf:List AV->Option (List Int)
 | []=>some []
 | .i a::r=>(match intsOf r with|some l=>some (a::l)|none=>none)
 | _=>none
def bT(bt:Bool)(e2:Bool)(en:Nat)(bs:Bool)(op:BinOp)(x y:AV)(K:AV->Option R):Option R:=match op with
 | .shl=>Oq y fun c=>(match x with
  | .i a=>K (.i (Ci a c))
  | .u8 a=>K (.u8 (CG a c))
  | .u64 a=>K (.u64 (BI a c))
  | .u32 a=>K (.u32 (BC a c))
  | _=>none)
 | .shr=>Oq y fun c=>(match x with
  | .i a=>K (.i (CS a c))
  | .u8 a=>K (.u8 (CB a c))
  | .u64 a=>K (.u64 (BG a c))
  | .u32 a=>K (.u32 (Aw a c))
  | _=>none)
 | op=>match x,y with
  | .i a,.i b=>(match op with
   | .add=>K (.i (Cc a b))
   | .sub=>K (.i (Dn a b))
   | .mul=>K (.i (D7 a b))
   | .quo=>bif F7 b 0 then none else K (.i (DU a b))
   | .rem=>bif F7 b 0 then none else K (.i (DD a b))
   | .eql=>K (.b (F7 a b))
   | .neq=>K (.b (FY a b))
   | .lss=>K (.b (FD a b))
   | .leq=>K (.b (Ez a b))
   | .gtr=>K (.b (FD b a))
   | .geq=>K (.b (Ez b a))
   | op=>K (.i (BA op a b)))
  | .u8 a,.u8 b=>bif UF op then K (.u8 (DL op a b)) else bif YT op then K (.b (Bg op a b)) else WB op a b K
  | .u32 a,.u32 b=>bif UF op then K (.u32 (BR op a b)) else bif YT op then K (.b (BK op a b)) else none
  | .u64 a,.u64 b=>bif UF op then K (.u64 (Bh op a b)) else bif YT op then K (.b (Az op a b)) else none
  | .b a,.b b=>bif bt then(match op with
   | .eql=>K (.b (DK a b))
   | .neq=>K (.b (DV (DK a b)))
   | _=>none) else none
  | .str a,.str b=>(match op with
   | .eql=>K (.b (DW a b))
   | .neq=>K (.b (DV (DW a b)))
   | _=>none)
  | .agg [.i a,.i b],.agg [.i c,.i d]=>bif e2 then(match op with
   | .eql=>K (.b (and' (F7 a c) (F7 b d)))
   | .neq=>K (.b (DV (and' (F7 a c) (F7 b d))))
   | _=>none) else none
  | .nil,.nil=>bif bs then(match op with
   | .eql=>K (.b true)
   | .neq=>K (.b false)
   | _=>none) else none
  | .sn _ _,.nil=>bif bs then(match op with
   | .eql=>K (.b false)
   | .neq=>K (.b true)
   | _=>none) else none
  | .sl _ l,.nil=>bif bs then bif Di l then none else(match op with
   | .eql=>K (.b false)
   | .neq=>K (.b true)
   | _=>none) else none
  | .agg l,.agg m=>(match intsOf l,intsOf m with
   | some as,some bs=>bif Nat.blt 0 en&&Nat.beq as.length en&&Nat.beq bs.length en then(match op with
    | .eql=>K (.b (Dk as bs))
    | .neq=>K (.b (DV (Dk as bs)))
    | _=>none) else none
   | _,_=>none)
  | _,_=>none
def Q7(d:Und)(x:AV)(K:AV->Option R):Option R:=match d,x with
 | .i64,.i a=>K (.i (Dq a))
 | .u8,.i a=>K (.u8 (ER a))
 | .u32,.i a=>K (.u32 (DX a))
 | .u64,.i a=>K (.u64 (Bl a))
 | .i64,.u8 a=>K (.i (Fh a))
 | .u8,.u8 a=>K (.u8 a)
 | .u64,.u8 a=>K (.u64 (CE a))
 | .u32,.u8 a=>K (.u32 (Bv a))
 | .i64,.u64 a=>K (.i (Dt a))
 | .u8,.u64 a=>K (.u8 (Bz a))
 | .u64,.u64 a=>K (.u64 a)
 | .u8,.u32 a=>K (.u8 (Bi a))
 | .str,.str a=>K (.str a)
 | _,_=>none
def Xo(pl:List (Nat×Nat))(ev:Operand->Option AV):List AV->List (Nat×Operand)->Option (List AV)
 | cells,[]=>some cells
 | cells,(i,x)::r=>match pl[i]?,(ev x).bind cellsA with
  | some (f,n),some l=>bif Nat.beq l.length n&&Nat.ble (f+n) cells.length then Xo pl ev (cells.take f++l++cells.drop (f+l.length)) r else none
  | _,_=>none
def xP(T:TT)(t:TypeId):Option (List (Nat×Nat)):=match UW t T with
 | some i=>(match i.u with
  | .fld pl _=>some pl
  | .arr n el=>(match UW el T with|some e=>some ((List.range n).map fun i=>(i*e.size,e.size))|none=>none)
  | _=>none)
 | none=>none
def JV(sc:Bool)(n:Nat)(l:List AV):Option AV:=bif sc then l.head? else bif Nat.ble n l.length then some (.agg (l.take n)) else none
def evK(a:Option AV)(K:AV->Option R):Option R:=match a with|some s=>K s|none=>none
def Xp(T:TT)(t:TypeId):Option (TypeId×TI):=match UW t T with
 | some i=>(match i.u with
  | .sl el=>(match UW el T with|some e=>bif Nat.blt 0 e.size then some (el,e) else none|none=>none)
  | _=>none)
 | none=>none
def Xy(T:TT)(t:TypeId):Option Und:=match UW t T with|some i=>some i.u|none=>none
def Tm(T:TT)(t:TypeId):Bool:=match Xy T t with|some .u8=>true|_=>false
def WC(T:TT)(hk:Nat->Option Rs)(t:TypeId)(x:Option AV)(K:Tr->Option R):Option R:=match UW t T,x with
 | some i,some (.pa k o)=>(match hk k with
  | some (.var cells)=>(match JV (scalar i.u) i.size (cells.drop o) with|some s=>K ⟨s,[(k,.var cells)],[(k,.var cells)],true,0⟩|none=>none)
  | _=>none)
 | some i,some (.pe k j sz o)=>(match hk k with
  | some (.row e t l)=>bif Nat.beq sz t.n then(BO l j).bind fun x=>(match JV (scalar i.u) i.size ((flat t x).drop o) with|some s=>K ⟨s,[(k,.row e t l)],[(k,.row e t l)],true,0⟩|none=>none) else none
  | some (.rowA e sz' n cells)=>(match JV (scalar i.u) i.size (cells.drop (j.toNat*sz+o)) with|some s=>K ⟨s,[(k,.rowA e sz' n cells)],[(k,.rowA e sz' n cells)],true,0⟩|none=>none)
  | _=>none)
 | some i,some (.pt l)=>(match JV (scalar i.u) i.size l with|some s=>K (.pure s)|none=>none)
 | _,_=>none
def RD(T:TT)(hk:Nat->Option Rs)(t:TypeId)(x:Option AV)(y:Option (List AV))(K:Tr->Option R):Option R:=match UW t T,x,y with
 | some i,some (.pa k o),some l=>(match hk k with
  | some (.var cells)=>bif Nat.beq l.length i.size&&Nat.ble (o+l.length) cells.length then K ⟨.un,[(k,.var cells)],[(k,.var (cells.take o++l++cells.drop (o+l.length)))],false,0⟩ else none
  | _=>none)
 | some i,some (.pe k j sz o),some c=>(match hk k with
  | some (.row e t l)=>bif Nat.beq sz t.n&&Nat.beq c.length i.size&&Nat.ble (o+c.length) t.n then
    (BO l j).bind fun x=>(match Ye t ((flat t x).take o++c++(flat t x).drop (o+c.length)) with
     | some (a,[])=>K ⟨.un,[(k,.row e t l)],[(k,.row e t (Bc l j a))],false,0⟩
     | _=>none)
   else none
  | _=>none)
 | _,_,_=>none
def A1l(T:TT)(t:TypeId):Option (List (Nat×Nat)):=match Xy T t with|some (.fld pl _)=>some pl|_=>none
def WE(T:TT)(t:TypeId)(x:Option AV)(f:Nat)(K:Tr->Option R):Option R:=match(A1l T t).bind (·[f]?),x with
 | some (o',n),some (.pa k o)=>bif Nat.beq n 0 then none else K (.pure (.pa k (o+o')))
 | some (o',n),some (.pe k j s o)=>bif Nat.beq n 0 then none else K (.pure (.pe k j s (o+o')))
 | some (o',n),some (.pt l)=>bif Nat.beq n 0 then none else K (.pure (.pt (l.drop o')))
 | _,_=>none
def evR(ev:Operand->Option AV)(hk:Nat->Option Rs)(x:Operand):Option AV:=match(ev x).bind (rdA hk) with|some (a,_)=>some a|none=>none
def evG(ev:Operand->Option AV)(hk:Nat->Option Rs):List (Nat×Operand)->Fp
 | []=>[]
 | (_,x)::r=>match(ev x).bind (rdA hk) with|some (_,G)=>G++evG ev hk r|none=>evG ev hk r
def repL{α:Type}(n:Nat)(l:List α):List α:=match n with|0=>[]|n+1=>l++repL n l
def rE(τ:Ty):Nat->List AV->Option (List (El τ))
 | 0,[]=>some []
 | n+1,l=>(match Ye τ l with|some (x,r)=>(match rE τ n r with|some xs=>some (x::xs)|none=>none)|none=>none)
 | _,_=>none
def A6W(hk:Nat->Option Rs):Option AV->Bool
 | some (.nm k)=>(match hk k with|some (.row _ (.sl .u8) _)=>true|_=>false)
 | _=>false
def A5q(τ:Ty)(ev:Operand->Option AV)(hk:Nat->Option Rs):List (Nat×Operand)->Bool
 | (_,x)::[]=>(match τ with|.sl (.sl .u8)=>A6W hk (ev x)|_=>false)
 | _=>false
def WF(T:TT)(ev:Operand->Option AV)(hk:Nat->Option Rs)(m:Nat)(t:TypeId)(len:Nat)(parts:List (Nat×Operand))(K:Tr->Option R):Option R:=match Xp T t with
 | some (el,i)=>bif Nat.ble (len*i.size) 16777216 then
   (match i.ty with
   | some τ=>bif A5q τ ev hk parts then(match Xo ((List.range len).map fun j=>(j*i.size,i.size)) ev (repL len i.zero) parts with
    | some cells=>K ⟨.nm m,[],[(m,.rowA el i.size len cells)],false,1⟩
    | none=>none)
    else(match Xo ((List.range len).map fun j=>(j*i.size,i.size)) (evR ev hk) (repL len i.zero) parts with
    | some cells=>(match rE τ len cells with
     | some l=>K ⟨.nm m,evG ev hk parts,[(m,.row el τ l)],false,1⟩
     | none=>none)
    | none=>none)
   | none=>(match Xo ((List.range len).map fun j=>(j*i.size,i.size)) ev (repL len i.zero) parts with
    | some cells=>K ⟨.nm m,[],[(m,.rowA el i.size len cells)],false,1⟩
    | none=>none))
  else none
 | none=>none
def zW(T:TT)(m:Nat)(t:TypeId)(l c:Option AV)(K:Tr->Option R):Option R:=match Xp T t,l,c with
 | some (el,i),some (.i n),some (.i c)=>(match i.ty with
  | some τ=>(match Ye τ i.zero with
   | some (z,[])=>A1k i fun by'=>bif Dv c by' then bif F7 n c then K ⟨.nm m,[],[(m,.row el τ (BZ n z))],false,1⟩ else bif F7 n 0 then K ⟨.nm m,[],[(m,.row el τ [])],false,1⟩ else none else none
   | _=>none)
  | none=>none)
 | _,_,_=>none
def glk(g:Nat):List (Nat×List UInt32)->Option (List UInt32)
 | []=>none
 | (d,v)::r=>bif Nat.beq g d then some v else glk g r
def A6X(T:TT)(t:TypeId)(g:Nat)(i:Int)(K:Tr->Option R):Option R:=match UW t T with
 | some ti=>(match ti.u,glk g ti.gl with
  | .arr n el,some l=>(match UW el T with
   | some e=>bif Nat.beq e.size 1 then bif Ez 0 i then bif FD i n then(BO l i).bind fun x=>K (.pure (.pt [.u32 x])) else none else none else none
   | none=>none)
  | _,_=>none)
 | none=>none
def bU(T:TT)(hk:Nat->Option Rs)(t:TypeId)(x:Option AV)(j:Option Int)(K:Tr->Option R):Option R:=match x,j with
 | some (.gp g),some i=>A6X T t g i K
 | some (.pa k o),some i=>(match Xy T t with
  | some (.arr n el)=>(match UW el T with|some e=>bif Ez 0 i then bif FD i n then K (.pure (.pa k (o+i.toNat*e.size))) else none else none|none=>none)
  | _=>none)
 | some a,some i=>(match Xp T t with
  | some (_,ei)=>(match a with
   | .sl τ l|.st τ l=>bif Nat.beq ei.size τ.n then(BO l i).bind fun x=>K (.pure (.pt (flat τ x))) else none
   | .nm k=>(match hk k with
    | some (.row e τ l)=>bif Nat.beq ei.size τ.n then bif Du l i then K ⟨.pe k i τ.n 0,[(k,.row e τ l)],[(k,.row e τ l)],true,0⟩ else none else none
    | some (.rowA e sz n cells)=>bif Nat.beq ei.size sz then bif Ez 0 i then bif FD i n then K ⟨.pe k i sz 0,[(k,.rowA e sz n cells)],[(k,.rowA e sz n cells)],true,0⟩ else none else none else none
    | _=>none)
   | _=>none)
  | none=>none)
 | _,_=>none
def zX(T:TT)(t:TypeId)(x:Option AV)(j:Option Int)(K:Tr->Option R):Option R:=match x,j,Xy T t with
 | some (.str l),some i,some .str=>(BO l i).bind fun x=>K (.pure (.u8 x))
 | some (.agg l),some i,some (.arr n el)=>(match UW el T with
  | some e=>bif scalar e.u&&Nat.beq e.size 1&&Nat.beq l.length n then bif Ez 0 i then bif FD i n then evK l[i.toNat]? (fun s=>K (.pure s)) else none else none else none
  | none=>none)
 | _,_,_=>none
def A5r:AV->Option ((τ:Ty)×List (El τ))
 | .sl τ l|.st τ l=>some ⟨τ,l⟩
 | _=>none
def bV(T:TT)(t:TypeId)(x:AV)(F:Fp)(lo:Int)(hi mx:Option (Option Int))(K:Tr->Option R):Option R:=match x,Xy T t with
 | .str l,some .str=>(match hi,mx with
  | none,none=>(DF l lo (Bj l)).bind fun l=>K (.pure (.str l))
  | some (some h),none=>(DF l lo h).bind fun l=>K (.pure (.str l))
  | _,_=>none)
 | x,_=>(match A5r x,Xp T t with
  | some ⟨τ,l⟩,some (_,ei)=>bif Nat.beq ei.size τ.n then(match hi,mx with
   | none,none=>(DF l lo (Bj l)).bind fun l=>K ⟨.sl τ l,F,[],F.isEmpty,0⟩
   | some (some h),none=>(DF l lo h).bind fun l=>K ⟨.sl τ l,F,[],F.isEmpty,0⟩
   | some (some h),some (some x)=>bif F7 h x then(DF l lo h).bind fun l=>K ⟨.st τ l,F,[],F.isEmpty,0⟩ else none
   | _,_=>none) else none
  | _,_=>none)
def unW:List AV->Option (List UInt32)
 | []=>some []
 | .u32 x::r=>(match unW r with|some l=>some (x::l)|none=>none)
 | _=>none
def A1m:Option AV->Bool
 | some (.pa _ _)=>true
 | _=>false
def WG(T:TT)(hk:Nat->Option Rs)(t:TypeId)(x:Option AV)(K:Tr->Option R):Option R:=match x with
 | some (.pa k 0)=>(match Xy T t,hk k with
  | some (.arr n el),some (.var cells)=>(match UW el T with
   | some e=>bif Nat.beq e.size 1&&Nat.beq cells.length n&&Nat.ble n 1000 then(match unW cells with
    | some l=>K ⟨.st .u32 l,[(k,.var cells)],[],false,0⟩
    | none=>none) else none
   | none=>none)
  | _,_=>none)
 | _=>none
def A1n(d:Nat):TT->Bool
 | []=>false
 | (e,_)::[]=>Nat.beq d e
 | _::r=>A1n d r
def markT:TT->Bool
 | []=>false
 | (d,_)::r=>A1n d r
def isRow(hk:Nat->Option Rs):Option AV->Bool
 | some (.nm k)=>(match hk k with|some (.row _ _ _)=>true|_=>false)
 | _=>false
def WH(T:TT)(hk:Nat->Option Rs)(t:TypeId)(x:Option AV)(lo:Int)(hi:Option (Option Int))(K:Tr->Option R):Option R:=match x,Xp T t,hi with
 | some (.nm k),some (_,ei),some (some h)=>(match hk k with
  | some (.row e τ l)=>bif Nat.beq ei.size τ.n then bif Ez 0 lo then bif Ez lo h then bif Ez h (Bj l) then K ⟨.vs k τ.n lo h,[(k,.row e τ l)],[(k,.row e τ l)],true,0⟩ else none else none else none else none
  | _=>none)
 | _,_,_=>none
def bW(T:TT)(t:TypeId)(hk:Nat->Option Rs)(x:Option AV)(K:Tr->Option R):Option R:=match Xy T t,x with
 | some (.sl _),some (.sl _ l)|some (.sl _),some (.st _ l)=>K (.pure (.i (Bj l)))
 | some (.sl _),some .nil=>K (.pure (.i 0))
 | some .str,some (.str l)=>K (.pure (.i (Bj l)))
 | some (.sl _),some (.nm k)=>(match hk k with
  | some (.row e t l)=>K ⟨.i (Bj l),[(k,.row e t l)],[(k,.row e t l)],true,0⟩
  | some (.rowA e sz n l)=>K ⟨.i n,[(k,.rowA e sz n l)],[(k,.rowA e sz n l)],true,0⟩
  | _=>none)
 | _,_=>none
def XK(k:Nat):Fp->Bool
 | []=>true
 | (d,_)::r => !Nat.beq k d&&XK k r
def ai(τ:Ty)(b:AV):Option (List (El τ)):=match Ye (.sl τ) [b] with|some (l,[])=>some l|_=>none
def bY(T:TT)(hk:Nat->Option Rs)(m:Nat)(t:TypeId)(a:Option AV)(bG:Option (AV×Fp))(K:Tr->Option R):Option R:=match Xp T t,a,bG with
 | some (el,i),some a,some (b,G)=>A1k i fun by'=>(match i.ty with
  | some τ=>(match ai τ b with
   | some m'=>(match a with
    | .nm k=>(match hk k with
     | some (.row e t l)=>(match ai τ (.sl t l) with
      | some l'=>bif Nat.beq e el&&Nat.beq t.n τ.n&&XK k G then bif fits (BM l' m') by' then K ⟨.nm m,G++[(k,.row e t l)],(bif τ.plain then G else [])++[(m,.row el τ (BM l' m'))],false,1⟩ else none else none
      | none=>none)
     | _=>none)
    | .nil=>bif fits m' by' then K ⟨.nm m,G,(bif τ.plain then G else [])++[(m,.row el τ m')],false,1⟩ else none
    | .st t l=>(match ai τ (.st t l) with
     | some l'=>bif Di m' then K ⟨.st t l,G,[],G.isEmpty,0⟩ else bif fits (BM l' m') by' then K ⟨.nm m,G,(bif τ.plain then G else [])++[(m,.row el τ (BM l' m'))],false,1⟩ else none
     | none=>none)
    | _=>none)
   | none=>none)
  | none=>none)
 | _,_,_=>none
def A6Y(hk:Nat->Option Rs):Option AV->Bool
 | some (.nm k)=>(match hk k with|some (.rowA _ _ _ _)=>true|_=>false)
 | _=>false
def WI(T:TT)(hk:Nat->Option Rs)(m:Nat)(t:TypeId)(a b:Option AV)(K:Tr->Option R):Option R:=match Xp T t,a,b with
 | some (el,i),some a,some (.nm j)=>(match hk j with
  | some (.rowA ej szj nj cb)=>bif Nat.beq szj i.size then(match a with
   | .nil=>bif Nat.ble (nj*i.bytes) 140737488355328 then K ⟨.nm m,[(j,.rowA ej szj nj cb)],[(m,.rowA el i.size nj cb)],false,1⟩ else none
   | .nm k=>(match hk k with
    | some (.rowA e sz n ca)=>bif Nat.beq e el&&Nat.beq sz i.size && !Nat.beq k j&&Nat.ble ((n+nj)*i.bytes) 140737488355328 then addN n nj fun n2=>K ⟨.nm m,[(j,.rowA ej szj nj cb),(k,.rowA e sz n ca)],[(m,.rowA el i.size n2 (ca++cb))],false,1⟩ else none
    | _=>none)
   | _=>none) else none
  | _=>none)
 | _,_,_=>none
def WJ(T:TT)(hk:Nat->Option Rs)(m:Nat)(t t':TypeId)(a b:Option AV)(K:Tr->Option R):Option R:=match Xp T t,Xy T t',a,b with
 | some (el,i),some .str,some (.nm k),some (.str l)=>bif Tm T el&&Nat.beq i.bytes 1&&Nat.beq i.size 1 then(match hk k with
  | some (.row e .u8 l0)=>bif Nat.beq e el then bif fits (BM l0 l) 1 then K ⟨.nm m,[(k,.row e .u8 l0)],[(m,.row el .u8 (BM l0 l))],false,1⟩ else none else none
  | _=>none) else none
 | _,_,_,_=>none
def zU8(l:List AV):Bool:=match l with|[.u8 x]=>Nat.beq x.toNat 0|_=>false
def WL(T:TT)(hk:Nat->Option Rs)(m:Nat)(t t':TypeId)(a b:Option AV)(K:Tr->Option R):Option R:=match Xp T t,Xy T t',a,b with
 | some (el,i),some .i64,some (.nm k),some (.i n)=>bif zU8 i.zero&&Nat.beq i.bytes 1&&Nat.beq i.size 1 then(match hk k with
  | some (.row e .u8 l0)=>bif Nat.beq e el&&Ez 0 n then bif fits (BM l0 (BZ n (0:UInt8))) 1 then K ⟨.nm m,[(k,.row e .u8 l0)],[(m,.row el .u8 (BM l0 (BZ n (0:UInt8))))],false,1⟩ else none else none
  | _=>none) else none
 | _,_,_,_=>none
def bZ(T:TT)(hk:Nat->Option Rs)(t:TypeId)(a:Option AV)(bG:Option (AV×Fp))(K:Tr->Option R):Option R:=match Xp T t,a,bG with
 | some (el,i),some (.nm k),some (b,G)=>(match i.ty,hk k with
  | some τ,some (.row e t l)=>(match ai τ b,ai τ (.sl t l) with
   | some m',some l'=>bif Nat.beq e el&&Nat.beq i.size 1&&Nat.beq t.n τ.n&&τ.plain&&XK k G then
     K ⟨.i (min (Bj m') (Bj l')),G++[(k,.row e t l)],G++[(k,.row el τ (Cj l' m'))],false,0⟩ else none
   | _,_=>none)
  | _,_=>none)
 | _,_,_=>none
def gI(ev:Operand->Option AV):List Operand->Option (List AV)
 | []=>some []
 | x::r=>match ev x,gI ev r with|some s,some l=>some (s::l)|_,_=>none
def sameRow(T:TT)(hk:Nat->Option Rs)(s d:TypeId):Option AV->Option (Nat×Nat×List UInt8)
 | some (.nm k)=>(match Xy T s with
  | some (.sl el)=>bif Nat.beq s d&&Tm T el then(match hk k with
   | some (.row e .u8 (a::l))=>some (k,e,a::l)
   | _=>none) else none
  | _=>none)
 | _=>none
def zY(T:TT)(ev:Operand->Option AV)(hk:Nat->Option Rs)(m:Nat)(op:Op)(K:Tr->Option R):Option R:=match op with
 | .move x|.assign x=>evK (ev x) fun s=>K (.pure s)
 | .pick b x y=>(match ev b with
  | some (.b c)=>bif c then evK (ev x) (fun s=>K (.pure s)) else evK (ev y) (fun s=>K (.pure s))
  | _=>none)
 | .nilCheck x=>(match ev x with
  | some (.pa k o)=>K (.pure (.pa k o))
  | some (.pe k i s o)=>K (.pure (.pe k i s o))
  | some (.pt l)=>K (.pure (.pt l))
  | _=>none)
 | .extract x i=>(match ev x with
  | some (.tup l)=>evK l[i]? fun s=>K (.pure s)
  | _=>none)
 | .unOp .not _ x=>(match ev x with|some (.b a)=>K (.pure (.b (DV a)))|_=>none)
 | .unOp .neg _ x=>(match ev x with|some (.i a)=>K (.pure (.i (Dp a)))|_=>none)
 | .unOp .xor _ x=>(match ev x with|some (.u32 a)=>K (.pure (.u32 (~~~a)))|_=>none)
 | .binOp op t x y _=>(match ev x,ev y with
  | some a,some b=>bT (match Xy T t with|some .bool=>true|_=>false) (match UW t T with|some i=>i.eq2|none=>false) (match UW t T with|some i=>i.eqn|none=>0) (match Xy T t with|some (.sl _)=>true|_=>false) op a b fun s=>K (.pure s)
  | _,_=>none)
 | .convert s d x=>(match sameRow T hk s d (ev x) with
  | some (k,e,l)=>K ⟨.sl .u8 l,[(k,.row e .u8 l)],[],false,0⟩
  | none=>(match Xy T s,Xy T d,(ev x).bind (rdA hk) with
   | some .str,some (.sl el),some (.str l,F)=>bif Tm T el then bif fits l 1 then K ⟨.nm m,[],[(m,.row el .u8 l)],false,1⟩ else none else none
   | some (.sl el),some .str,some (.sl .u8 l,F)=>bif Tm T el then K ⟨.str l,F,F,true,0⟩ else none
   | some (.sl el),some .str,some (.nil,F)=>bif Tm T el then K (.pure (.str [])) else none
   | some _,some d,some (a,F)=>Q7 d a fun s=>K (.pure s)
   | _,_,_=>none))
 | .alloc t=>(match UW t T with|some i=>K ⟨.pa m 0,[],[(m,.var i.zero)],false,1⟩|none=>none)
 | .box _ x=>(match(ev x).bind cellsA with|some l=>K ⟨.pa m 0,[],[(m,.var l)],false,1⟩|none=>none)
 | .load t x=>WC T hk t (ev x) K
 | .store t x y=>RD T hk t (ev x) ((ev y).bind cellsA) K
 | .fieldAddr t x f=>WE T t (ev x) f K
 | .field t x f=>(match Xy T t,ev x with
  | some (.fld pl sc),some (.agg l)=>(match pl[f]?,sc[f]? with
   | some (o',n),some b=>evK (JV b n (l.drop o')) fun s=>K (.pure s)
   | _,_=>none)
  | _,_=>none)
 | .build t parts=>(match xP T t,UW t T with
  | some pl,some i=>(match Xo pl ev i.zero parts.toList with|some l=>K (.pure (.agg l))|none=>none)
  | _,_=>none)
 | .buildSlice t len parts=>WF T ev hk m t len parts.toList K
 | .makeSlice t l c=>zW T m t (ev l) (ev c) K
 | .makeFunc (.func f) xs ys=>(match gI ev xs.toList,gI ev ys.toList with|some a,some b=>K (.pure (.fn f a b))|_,_=>none)
 | .indexAddr t x j=>bU T hk t (ev x) ((ev j).bind LM) K
 | .index t x j=>zX T t (ev x) ((ev j).bind LM) K
 | .slice t x lo hi mx=>bif A1m (ev x) && !lo.isSome && !hi.isSome && !mx.isSome then WG T hk t (ev x) K else bif markT T&&hi.isSome&&isRow hk (ev x) then(match(match lo with|some o=>(ev o).bind LM|none=>some 0),mx with|some lo,none=>WH T hk t (ev x) lo (hi.map fun o=>(ev o).bind LM) K|_,_=>none) else(match(ev x).bind (rdA hk),(match lo with|some o=>(ev o).bind LM|none=>some 0) with
  | some (a,F),some lo=>bV T t a F lo (hi.map fun o=>(ev o).bind LM) (mx.map fun o=>(ev o).bind LM) K
  | _,_=>none)
 | .call {callee:=.builtin b,args:=xs,argTypes:=ts}=>(match b,xs.toList,ts.toList with
  | .len,[x],[t]=>bW T t hk (ev x) K
  | .min,[x,y],_=>(match ev x,ev y with|some (.i a),some (.i b)=>K (.pure (.i (min a b)))|_,_=>none)
  | .max,[x,y],_=>(match ev x,ev y with|some (.i a),some (.i b)=>K (.pure (.i (max a b)))|_,_=>none)
  | .append,[x,y],[t,t']=>bif Nat.beq t t' then bif A6Y hk (ev y) then WI T hk m t (ev x) (ev y) K else bY T hk m t (ev x) ((ev y).bind (rdA hk)) K else(match Xy T t' with|some .i64=>WL T hk m t t' (ev x) (ev y) K|_=>WJ T hk m t t' (ev x) (ev y) K)
  | .copy,[x,y],[t,t']=>bif Nat.beq t t' then bZ T hk t (ev x) ((ev y).bind (rdA hk)) K else none
  | _,_,_=>none)
 | _=>none
end
end Go.Ax
namespace Go.Ax
noncomputable section
open Go Go.RowKit Go.Eng
set_option linter.unusedVariables false
structure Plc where
 need:Option (List Nat):=none      -- the slots that must hold rows of their own from there on; all others hold readings
 nils:List (Nat×Nat×Ty):=[]    -- slots whose nil becomes an empty row of their own
 keep:Option (List Nat):=none      -- the slots that live; names are put in order
 meet:Bool:=false                  -- several ways meet here
structure FI where
 ps:List (Option Ty)          -- its parameters, where they are plain data
 rs:List (Option Ty)          -- its results
 own:Bool                     -- the result is handed out as a row of its own
 pown:Bool                    -- rows are handed in as such
 keep:List (Plc×Plc)   -- for each loop: what is done at its head, and behind it
 give:List (Nat×Plc):=[]   -- what is done at the head of some regions
 fin:Plc:={}   -- what is done at the end
 ro:Bool:=false   -- what it is handed it leaves as it was
abbrev FT:=List (Nat×FI)
def Xq(k:Nat):FT->Option FI
 | []=>none
 | (d,v)::H=>bif Nat.beq k d then some v else Xq k H
inductive Req where
 | call (f:Nat) (args:List AV) (H:List Rs)
 | loop (f k n0 m:Nat) (L:LX) (H:HX)
inductive Rsp where
 | ret (s:AV) (H:List (Option Rs))
 | fin (e:Exit) (m:Nat) (L:LX) (H:HX)
def A1o(t:Option Ty)(a:AV):AV:=match t with
 | none=>a
 | some τ=>(match a with
  | .agg l=>(match Ye τ l with|some (x,[])=>.agg (flat τ x)|_=>a)
  | a=>(match Ye τ [a] with|some (x,[])=>(match flat τ x with|[b]=>b|_=>a)|_=>a))
def XL:List (Option Ty)->List AV->List AV
 | t::ts,a::as=>A1o t a::XL ts as
 | _,as=>as
mutual
def names:AV->List Nat
 | .nm k|.pa k _|.pe k _ _ _|.vs k _ _ _=>[k]
 | .pt l|.agg l|.tup l=>GZ l
 | .fn _ a b=>GZ a++GZ b
 | _=>[]
def GZ:List AV->List Nat
 | []=>[]
 | s::r=>names s++GZ r
end
def Q8(k:Nat):List Nat->Bool|[]=>false|a::r=>Nat.beq k a||Q8 k r
def nub:List Nat->List Nat->List Nat
 | acc,[]=>acc
 | acc,k::r=>bif Q8 k acc then nub acc r else nub (acc++[k]) r
def idx(k:Nat):List Nat->Nat
 | []=>0
 | a::r=>bif Nat.beq k a then 0 else idx k r+1
def close(hk:Nat->Option Rs):Nat->List Nat->List Nat->List Nat
 | 0,acc,_|_,acc,[]=>acc
 | n+1,acc,k::r=>bif Q8 k acc then close hk n acc r else match hk k with
  | some R=>close hk n (acc++[k]) (r++(match R with|.var l=>GZ l|.rowA _ _ _ l=>GZ l|.row _ _ _=>[]))
  | none=>close hk n (acc++[k]) r
mutual
def vw(hk:Nat->Option Rs):AV->AV
 | .nm k=>(match hk k with|some (.row _ t l)=>.sl t l|_=>.nm k)
 | .vs k sz lo hi=>(match hk k with|some (.row _ t l)=>(bif Nat.beq t.n sz then .sl t ((l.drop lo.toNat).take (hi.toNat-lo.toNat)) else .vs k sz lo hi)|_=>.vs k sz lo hi)
 | .pt l=>.pt l
 | .agg l=>.agg (kL hk l)
 | .tup l=>.tup (kL hk l)
 | .fn f a b=>.fn f (kL hk a) (kL hk b)
 | s=>s
def kL(hk:Nat->Option Rs):List AV->List AV
 | []=>[]
 | s::r=>vw hk s::kL hk r
end
def rowsOf(hk:Nat->Option Rs):List Nat->Fp
 | []=>[]
 | k::r=>match hk k with|some (.row e t l)=>(k,.row e t l)::rowsOf hk r|_=>rowsOf hk r
def kM(hk:Nat->Option Rs):List Nat->Option (List Rs)
 | []=>some []
 | k::r=>match hk k,kM hk r with|some R,some l=>some (R::l)|_,_=>none
def zipF:List Nat->List Rs->Fp
 | k::r,R::l=>(k,R)::zipF r l
 | _,_=>[]
def Hg(ρ:Nat->Nat):Nat->List (Option Rs)->Fp
 | _,[]=>[]
 | i,some R::l=>(ρ i,Ic ρ R)::Hg ρ (i+1) l
 | i,none::l=>Hg ρ (i+1) l
def nth(l:List Nat)(i:Nat):Nat:=l.getD i 0
variable {R:Type}
def Xz:List Rs->(List Rs->R)->R
 | [],K=>K []
 | s::r,K=>WA s fun s=>Xz r fun r=>K (s::r)
def nodupB:List Nat->Bool
 | []=>true
 | k::r => !Q8 k r&&nodupB r
def allIn(ks:List Nat):List Nat->Bool
 | []=>true
 | k::r=>Q8 k ks&&allIn ks r
def Ny:Rs->List Nat
 | .var l|.rowA _ _ _ l=>GZ l
 | .row _ _ _=>[]
def WM(ks:List Nat):List Rs->Bool
 | []=>true
 | R::r=>allIn ks (Ny R)&&WM ks r
def djB(ks:List Nat):Fp->Bool
 | []=>true
 | (k,_)::r => !Q8 k ks&&djB ks r
def Q9:Nat->List (Option Rs)->Bool
 | _,[]=>true
 | 0,none::_=>false
 | 0,some _::r=>Q9 0 r
 | n+1,_::r=>Q9 n r
def gJ(m:Nat):List (Option Rs)->Bool
 | []=>true
 | none::r=>gJ m r
 | some R::r=>rlt m R&&gJ m r
def Ep(ks:List Nat)(m i:Nat):Nat:=bif Nat.blt i ks.length then nth ks i else m+(i-ks.length)
def gK(F F':Fp):Bool:=@decide (F=F') (Classical.propDecidable _)
def BH:Fp->Fp->Bool:=Ac gK
theorem KD{F F':Fp}(h:F=F'):BH F F'=true:=by simp_all[BH,gK,BJ]
theorem zZ{F F':Fp}(h:BH F F'=true):F=F':=by simp_all[BH,gK,BJ]
def UY(ro:Bool)(Q:Req->Option Rsp)(hk:Nat->Option Rs)(m f:Nat)(vs:Fp)(all':List AV)(ks:List Nat)(K:Tr->Option R):Option R:=match kM hk ks with
 | some Rs=>bif nodupB ks&&allIn ks (GZ all')&&WM ks Rs&&djB ks vs then
  Iq (Ib (fun k=>idx k ks) all') fun args=>Xz (Rs.map (Ic fun k=>idx k ks)) fun Hin =>
   (Q (.call f args Hin)).bind fun r=>(match r with
    | .ret s H=>bif Nat.ble ks.length H.length&&Q9 ks.length H&&Py H.length s&&gJ H.length H then
      (bif ro then bif BH (vs++zipF ks Rs) (Hg (Ep ks m) 0 H) then K ⟨ren (Ep ks m) s,vs++zipF ks Rs,vs++zipF ks Rs,true,H.length-ks.length⟩ else none
      else bif noRd (ren (Ep ks m) s)&&PX (Hg (Ep ks m) 0 H) then K ⟨ren (Ep ks m) s,vs++zipF ks Rs,vs++Hg (Ep ks m) 0 H,false,H.length-ks.length⟩
      else K ⟨ren (Ep ks m) s,vs++zipF ks Rs,Hg (Ep ks m) 0 H,false,H.length-ks.length⟩)
     else none
    | _=>none)
  else none
 | none=>none
def UZ(ro:Bool)(Q:Req->Option Rsp)(hk:Nat->Option Rs)(m f:Nat)(vs:Fp)(all':List AV)(K:Tr->Option R):Option R :=
 Iz (close hk 40 [] (GZ all')) fun ks=>UY ro Q hk m f vs all' ks K
def WN(T:FT)(Q:Req->Option Rsp)(hk:Nat->Option Rs)(m:Nat)(fx:Option AV)(args:Option (List AV))(K:Tr->Option R):Option R:=match fx,args with
 | some (.fn f a b),some l=>(match Xq f T with
  | some fi=>bif fi.pown then Iq (XL fi.ps (a++l++b)) fun all=>UZ fi.ro Q hk m f [] all K
   else Iq (XL fi.ps (kL hk (a++l++b))) fun all=>UZ fi.ro Q hk m f (rowsOf hk (nub [] (GZ (a++l++b)))) all K
  | none=>none)
 | _,_=>none
def Ii(T:TT)(G:FT)(Q:Req->Option Rsp)(ev:Operand->Option AV)(hk:Nat->Option Rs)(m:Nat)(op:Op)(K:Tr->Option R):Option R:=match op with
 | .call {callee:=.value fx,args:=xs,..}=>WN G Q hk m (ev fx) (gI ev xs.toList) K
 | op=>zY T ev hk m op K
def A1p:Fp->HX->(HX->R)->R
 | [],H,K=>K H
 | (k,r)::F,H,K=>WA r fun r=>A1p F H fun H=>K ((k,some r)::H)
def A1q:Fp->HX->(HX->R)->R
 | [],H,K=>K H
 | (k,r)::F,H,K=>A1q F H fun H=>K ((k,none)::H)
def Xr(d:Option Nat)(s:AV)(L:LX):LX:=match d with|some d=>(d,s)::L|none=>L
def Ir(d:Option Nat)(t:Tr)(m:Nat)(L:LX)(H:HX)(K:Nat->LX->HX->R):R:=match t with
 | ⟨s,F,F',rd,nn⟩=>force s fun s=>addN m nn fun m=>match d with
  | some d=>bif rd then K m ((d,s)::L) H else A1q F H fun H=>A1p F' H fun H=>K m ((d,s)::L) H
  | none=>bif rd then K m L H else A1q F H fun H=>A1p F' H fun H=>K m L H
def Yf(n:Nat)(d:Option Nat):Bool:=match d with|some d=>Nat.blt d n|none=>true
def JD(T:TT)(G:FT)(Q:Req->Option Rsp)(n:Nat)(ops:List Oper):List Oper->Nat->LX->HX->(Nat->LX->HX->Option R)->Option R
 | [],m,L,H,K=>K m L H
 | o::r,m,L,H,K=>match o.guard with
  | none=>bif Yf n o.dst then Ii T G Q (Gl L) (fun k=>hlk k H) m o.op fun t=>Ir o.dst t m L H fun m L H=>JD T G Q n ops r m L H K else none
  | some (j,want)=>(match(ops[j]?).bind (·.dst) with
   | some d'=>(match JM d' L with
    | some (.b c)=>bif Yf n o.dst&&Nat.blt d' n then
      (bif c then
       bif want then Ii T G Q (Gl ((d',.b true)::L)) (fun k=>hlk k H) m o.op fun t=>Ir o.dst t m ((d',.b true)::L) H fun m L H=>JD T G Q n ops r m L H K
       else JD T G Q n ops r m (match o.dst with|some d=>(d,.tup [])::(d',.b true)::L|none=>(d',.b true)::L) H K
      else
       bif want then JD T G Q n ops r m (match o.dst with|some d=>(d,.tup [])::(d',.b false)::L|none=>(d',.b false)::L) H K
       else Ii T G Q (Gl ((d',.b false)::L)) (fun k=>hlk k H) m o.op fun t=>Ir o.dst t m ((d',.b false)::L) H fun m L H=>JD T G Q n ops r m L H K)
     else none
    | some (.tup [])=>bif Yf n o.dst&&Nat.blt d' n then JD T G Q n ops r m (Xr o.dst (.tup []) L) H K else none
    | _=>none)
   | none=>none)
def kN(lk:List Nat):LX->LX
 | []=>[]
 | (t,s)::L=>bif Q8 t lk then(t,s)::kN lk L else kN lk L
end
end Go.Ax
namespace Go.Ax
open Go Go.RowKit Go.Eng
set_option linter.unusedVariables false
set_option linter.unusedSimpArgs false
variable {op:Op}{s:AV}
theorem Ok.pure{c:Cx}{v:Value}{w':World}(hr:Rep ⟨c.N,c.ν,c.O,w'⟩ s v)(hs:Stp No c.w w'):∃ ν',Ok c [] [] s v w' ν' :=
 have hle:Cx.Le none ⟨c.N,c.ν,c.O,w'⟩ ⟨fun k=>c.N k\/has k [],c.ν,fun b=>(c.O b/\¬Em c.ν [] b)\/Em c.ν [] b,w'⟩ :=
  ⟨fun k _ h=>⟨.inl h,rfl⟩,fun w'' h=>h.mono fun i _ hi=>by
   rcases hi with h|⟨k,R,h,_⟩
   ·exact h.1
   ·cases h⟩
 ⟨c.ν,⟨fun _ _=>rfl,Rep.le hle s v (Gt s) hr,(fun k R h=>by cases h),(fun k k' R R' b h=>by cases h),hs.mono fun i _ h=>h.elim⟩⟩
section
variable {P:Program}{I:World->Prop}{L:LX}{ty:TypeId}
theorem Hq{F F':Fp} (h:∀ c e,Good I c->W9 c L e->Pre c F F'->∃ v w' ν',(execOp e ⟨none,op,ty, "", #[],none⟩).run P c.w=.ok (.value v) w'/\Ok c F F' s v w' ν'):OPL P I L F op ty s F':=by
 intro c e hG he hP
 grind[xA]
theorem kP{F F':Fp} (h:∀ c e,Good I c->W9 c L e->Pre c F F'->∃ w' ν',(execOp e ⟨none,op,ty, "", #[],none⟩).run P c.w=.ok .skip w'/\Ok c F F' s undef w' ν'):OPL P I L F op ty s F':=by
 intro c e hG he hP
 grind[xA]
theorem DY (h:∀ c e,Good I c->W9 c L e->∃ v,(execOp e ⟨none,op,ty, "", #[],none⟩).run P c.w=.ok (.value v) c.w/\Rep c s v):OPL P I L [] op ty s [] :=
 Hq fun c e hG he _=>by
  obtain⟨v,h1,h2⟩:=h c e hG he
  obtain⟨ν',ok⟩:=Ok.pure (c:=c) (w':=c.w) h2 (Stp.refl _ _)
  grind
end
structure TrOK (P:Program) (I:World->Prop) (L:LX) (hk:Nat->Option Rs) (m:Nat) (op:Op) (t:Tr):Prop where
 opl:∀ ty,OPL P I L t.F op ty t.s t.F'
 pre:∀ k R,FN k t.F=some R->hk k=some R
 new:∀ k,has k t.F'->has k t.F\/(m<=k/\k<m+t.nn)
 rd:t.rd=true->t.F'=t.F
theorem J3(k:Nat):¬has k []:=by simp[has]
theorem TrOK.mk0{P:Program}{I:World->Prop}{L:LX}{hk:Nat->Option Rs}{m:Nat}{op:Op}{s:AV}(h:∀ ty,OPL P I L [] op ty s []):TrOK P I L hk m op (.pure s) :=
 ⟨h,(fun k R h=>by cases h),fun k h=>absurd h (J3 k),fun _=>rfl⟩
theorem A4V{P:Program}{ty:TypeId}{w:World}{op:BinOp}{t yt:TypeId}{x y:Operand}{e:Operand->Value}{u v r:Value}(hx:e x=u)(hy:e y=v)(hg:(eqGuard op t x y u v).run P w=.ok () w)(hb:(binOp op t u v).run P w=.ok r w):
  (execOp e ⟨none,.binOp op t x y yt,ty, "", #[],none⟩).run P w=.ok (.value r) w:=by
 simp_all[execOp]
theorem bf{P:Program}{w:World}(op:BinOp)(t:TypeId)(x y:Operand)(k k':IntKind)(a b:Int):(eqGuard op t x y (.int k a) (.int k' b)).run P w=.ok () w:=by
 simp_all[eqGuard]
theorem Yg{P:Program}{w:World}(op:BinOp)(t:TypeId)(x y:Operand)(a b:Bool):(eqGuard op t x y (.bool a) (.bool b)).run P w=.ok () w:=by
 simp_all[eqGuard]
theorem bg{P:Program}{w:World}(op:BinOp)(t:TypeId)(x y:Operand)(a b:ByteArray):(eqGuard op t x y (.string a) (.string b)).run P w=.ok () w:=by
 simp_all[eqGuard]
structure E2 (P:Program) (t e':TypeId):Prop where
 ht:P.underlying t=some (.array 2 e')
 he:P.underlying e'=some (.int .i64)
 sz:(P.info? e').map (·.size)=some 1
 hc:P.cellsOf e'=1
 hg:P.eqGuardType P.depth t=false
theorem E2.run{P:Program}{t e':TypeId}(E:E2 P t e')(w:World)(a b c d:Int):(Op.equal t (.agg #[.int .i64 a,.int .i64 b]) (.agg #[.int .i64 c,.int .i64 d])).run P w=.ok (a==c&&b==d) w/\∀ op x y,(eqGuard op t x y (.agg #[.int .i64 a,.int .i64 b]) (.agg #[.int .i64 c,.int .i64 d])).run P w=.ok () w:=by
 obtain⟨ht,he',hsz,hc,hg⟩:=E
 obtain⟨i,hi,hs⟩:=Option.map_eq_some_iff.1 hsz
 refine⟨?_,fun op x y=>run_eqGuard_agg (P:=P) w op t x y #[.int .i64 a,.int .i64 b] #[.int .i64 c,.int .i64 d] hg⟩
 have hpart:∀(w:World) (xs:Array Value) (j:Nat) (v:Value),xs[j]?=some v->(part e' xs j).run P w=.ok v w:=fun w xs j v hj=>by
  simp_all[isAgg,run_underlying,part]
 show(Op.equalIn 10000 t (.agg #[.int .i64 a,.int .i64 b]) (.agg #[.int .i64 c,.int .i64 d])).run P w=.ok (a==c&&b==d) w
 rw[run_equalIn_array (P:=P) w 9999 _ _ ht hi]
 rw[hc,show List.range 2=[0,1] from rfl]
 have p0:(part e' #[.int .i64 a,.int .i64 b] 0).run P w=.ok (.int .i64 a) w:=hpart w _ 0 _ rfl
 have p1:(part e' #[.int .i64 a,.int .i64 b] 1).run P w=.ok (.int .i64 b) w:=hpart w _ 1 _ rfl
 have r0:(part e' #[.int .i64 c,.int .i64 d] 0).run P w=.ok (.int .i64 c) w:=hpart w _ 0 _ rfl
 have r1:(part e' #[.int .i64 c,.int .i64 d] 1).run P w=.ok (.int .i64 d) w:=hpart w _ 1 _ rfl
 have e0:(Op.equalIn 9999 e' (.int .i64 a) (.int .i64 c)).run P w=.ok (a==c) w:=run_equalIn_int (P:=P) w 9998 e' .i64 .i64 a c he'
 have e1:(Op.equalIn 9999 e' (.int .i64 b) (.int .i64 d)).run P w=.ok (b==d) w:=run_equalIn_int (P:=P) w 9998 e' .i64 .i64 b d he'
 simp only[Op.eqItems,Sem.run_bind,Nat.zero_mul,Nat.one_mul,p0,r0,e0,Result.andThen_ok]
 cases h1:a==c<;>cases h2:b==d<;>simp[p1,r1,e1,h2]
structure E6 (P:Program) (t:TypeId) (n:Nat):Prop where
 ht:P.underlying t=some (.struct (P.fieldsOf t))
 hp:P.stoodInHeld t=false
 hf:∀ f∈(P.fieldsOf t).toList,f.name ≠ "_" /\ P.underlying f.type=some (.int .i64)
 ho:(P.fieldsOf t).toList.map (·.offset)=List.range' 0 n
 hg:P.eqGuardType P.depth t=false
theorem kQ{P:Program}{w:World}{d:Nat}{xs ys:Array Value}:∀(fs:List Field) (as bs:List Int) (k:Nat),(∀ f∈fs,f.name ≠ "_" /\ P.underlying f.type=some (.int .i64))->fs.map (·.offset)=List.range' k as.length->as.length=bs.length ->
  (∀ j a,as[j]?=some a->xs[k+j]?=some (.int .i64 a))->(∀ j a,bs[j]?=some a->ys[k+j]?=some (.int .i64 a))->(Op.eqFields (d+1) xs ys fs).run P w=.ok (decide (as=bs)) w
 | [],as,bs,k,_,ho,hl,_,_=>by
  simp_all[Op.eqFields]
 | f::fs,as,bs,k,hf,ho,hl,hx,hy=>by
  cases as with
  | nil=>simp at ho
  | cons a as =>
   cases bs with
   | nil=>simp at hl
   | cons b bs =>
    simp only[List.map_cons,List.length_cons,List.range'_succ,List.cons.injEq] at ho
    obtain⟨h1,h2⟩:=hf f zam
    have hagg:(isAgg f.type).run P w=.ok false w:=by simp[isAgg,run_underlying h2]
    have px:(part f.type xs f.offset).run P w=.ok (.int .i64 a) w:=by
     have:=hx 0 a rfl
     simp_all[part]
    have py:(part f.type ys f.offset).run P w=.ok (.int .i64 b) w:=by
     have:=hy 0 b rfl
     simp_all[part]
    have he:=run_equalIn_int (P:=P) w d f.type .i64 .i64 a b h2
    have ih:=kQ (w:=w) (d:=d) fs as bs (k+1) (fun g hg=>hf g (by simp[hg])) ho.2 zaJ
     (fun j c hj=>by have:=hx (j+1) c zaJ;rwa [show k+(j+1)=k+1+j from by omega] at this)
     (fun j c hj=>by have:=hy (j+1) c zaJ;rwa [show k+(j+1)=k+1+j from by omega] at this)
    simp only[Op.eqFields,ne_eq,h1,not_false_eq_true,if_true,Sem.run_bind,px,py,he,Result.andThen_ok,Sem.run_ite]
    cases hab:a==b with
    | false =>
     simp_all
    | true =>
     simp_all
theorem E6.run{P:Program}{t:TypeId}{n:Nat}(E:E6 P t n)(w:World)(as bs:List Int)(h1:as.length=n)(h2:bs.length=n):
  (Op.equal t (.agg (as.map (Value.int .i64)).toArray) (.agg (bs.map (Value.int .i64)).toArray)).run P w=.ok (decide (as=bs)) w/\∀ op x y,(eqGuard op t x y (.agg (as.map (Value.int .i64)).toArray) (.agg (bs.map (Value.int .i64)).toArray)).run P w=.ok () w:=by
 obtain⟨ht,hp,hf,ho,hg⟩:=E
 refine⟨?_,fun op x y=>run_eqGuard_agg (P:=P) w op t x y _ _ hg⟩
 show(Op.equalIn 10000 t _ _).run P w=_
 grind[run_equalIn_struct,kQ]
def Yh(P:Program)(t:TypeId):Option (List (Nat×Nat)):=match P.underlying t with
 | some (.struct fs)=>fs.toList.mapM fun f=>(P.info? f.type).map fun i=>(f.offset,i.size)
 | _=>none
def zf(P:Program)(t:TypeId):Option (List Bool):=match P.underlying t with
 | some (.struct fs)=>fs.toList.mapM fun f=>(P.underlying f.type).map Oi
 | _=>none
structure TOK (P:Program) (t:TypeId) (i:TI):Prop where
 und:match i.u with
  | .bool=>P.underlying t=some .bool
  | .i64=>P.underlying t=some (.int .i64)
  | .u8=>P.underlying t=some (.int .u8)
  | .u32=>P.underlying t=some (.int .u32)
  | .u64=>P.underlying t=some (.int .u64)
  | .str=>P.underlying t=some .string
  | .sl el=>P.underlying t=some (.slice el)
  | .fld pl sc=>Yh P t=some pl/\zf P t=some sc
  | .arr n el=>P.underlying t=some (.array n el)
  | .ptr el=>P.underlying t=some (.pointer el)
  | .oth=>∃ d,P.underlying t=some d/\Oi d=true
 sz:(P.info? t).map (·.size)=some i.size
 zero:∃ z,(P.info? t).map (fun i=>(i.zero,i.size,i.bytes))=some (some z,i.size,i.bytes)/\z.cells.toList.map AV.of=i.zero/\z.cells.size=i.size/\z.cells.toList.all (·.oneCell')=true/\0<i.bytes
 ty:∀ τ,i.ty=some τ->τ.n=i.size
 eq2:i.eq2=true->∃ e',E2 P t e'
 eqn:0<i.eqn->E6 P t i.eqn
theorem TOK.plain{P:Program}{t:TypeId}{i:TI}(h:TOK P t i):∃ d,P.underlying t=some d/\Oi d=scalar i.u:=by
 have:=h.und
 split at this<;>rename_i e<;>rw[e]
 ·exact⟨_,this,rfl⟩
 ·exact⟨_,this,rfl⟩
 ·exact⟨_,this,rfl⟩
 ·exact⟨_,this,rfl⟩
 ·exact⟨_,this,rfl⟩
 ·exact⟨_,this,rfl⟩
 ·exact⟨_,this,rfl⟩
 ·have h1:=this.1
  unfold Yh at h1
  split at h1
  ·rename_i fs hfs;exact⟨_,hfs,rfl⟩
  ·cases h1
 ·exact⟨_,this,rfl⟩
 ·exact⟨_,this,rfl⟩
 ·obtain⟨d,h1,h2⟩:=this;exact⟨d,h1,h2⟩
structure TTok (P:Program) (I:World->Prop) (T:TT):Prop where
 tok:∀ t i,UW t T=some i->TOK P t i
 gl:∀ t i g l,UW t T=some i->glk g i.gl=some l->∀ w,I w->∀ j x,l[j]?=some x->w.cell? ⟨g,j,none⟩=some (G7 x)
instance {P:Program}{I:World->Prop}{T:TT}:CoeFun (TTok P I T) fun _=>∀ t i,UW t T=some i->TOK P t i:=⟨TTok.tok⟩
end Go.Ax
namespace Go.Ax
open Go Go.RowKit Go.Eng
set_option linter.unusedVariables false
set_option linter.unusedSimpArgs false
variable (c:Cx)
variable {P:Program}{w:World}{R:Type}
theorem shift_shr'(k:IntKind)(a:Int)(yk:IntKind)(c:Int)(hc:0<=c):(Op.shift .shr k a yk c).run P w=.ok (.int k (a/2^(min c.toNat k.bits))) w:=by
 unfold Op.shift
 rw[if_neg zaa]
 grind[Sem.run_pure]
theorem shift_shl'(k:IntKind)(a:Int)(yk:IntKind)(c:Int)(hc:0<=c):(Op.shift .shl k a yk c).run P w=.ok (.int k (k.wrap (a*2^(min c.toNat k.bits)))) w:=by
 simp_all[Op.shift,if_neg]
theorem Yi{y:AV}{K:Nat->Option R}{r:R}(h:Oq y K=some r):∃ q,K q=some r/\∀(c:Cx) (v:Value),Rep c y v->∃ k n,v=.int k (n:Int)/\0<=n/\n.toNat=q:=by
 unfold Oq at h
 simp only[PW] at h
 split at h
 ·rename_i n
  cases hb:ilt0 n 0 with
  | true=>simp_all
  | false=>rw[hb] at h;exact⟨_,h,fun c v hy=>⟨_,n,by simp only[Rep] at hy;exact hy,by simp_all[ilt0],rfl⟩⟩
 ·rename_i n;exact⟨_,h,fun c v hy=>⟨.u8,n.toNat,by simp only[Rep] at hy;exact hy,by omega,by simp⟩⟩
 ·rename_i n;exact⟨_,h,fun c v hy=>⟨.u32,n.toNat,by simp only[Rep] at hy;exact hy,by omega,by simp⟩⟩
 ·rename_i n;exact⟨_,h,fun c v hy=>⟨.u64,n.toNat,by simp only[Rep] at hy;exact hy,by omega,by simp⟩⟩
 ·cases h
theorem gQ(a n m:Nat)(h:a<m):a/2^n<m:=Nat.lt_of_le_of_lt (Nat.div_le_self _ _) h
def OA(P:Program)(op:BinOp)(t:TypeId)(x y s:AV):Prop:=∀(c:Cx) (u v:Value) (w:World),Rep c x u->Rep c y v->(∀(ox oy:Operand),(eqGuard op t ox oy u v).run P w=.ok () w)/\∃ v',(binOp op t u v).run P w=.ok v' w/\Rep c s v'
theorem OA.int{op:BinOp}{t:TypeId}{x y s:AV}{k k':IntKind}{a b:Int}{v':Value}(hx:∀ c u,Rep c x u->u=.int k a)(hy:∀ c u,Rep c y u->u=.int k' b)(h:∀ w,(binOp op t (.int k a) (.int k' b)).run P w=.ok v' w)(hs:∀ c,Rep c s v'):OA P op t x y s:=by
 intro c u v w h1 h2
 obtain rfl:=hx c u h1
 obtain rfl:=hy c v h2
 simp_all[bf]
theorem xQ(a:Int)(u:Value)(h:Rep c (.i a) u):u=.int .i64 a:=by simp_all[Rep]
theorem QA(a:UInt8)(u:Value)(h:Rep c (.u8 a) u):u=.int .u8 (a.toNat:Int):=by simp only[Rep] at h;exact h
theorem RF(a:UInt32)(u:Value)(h:Rep c (.u32 a) u):u=.int .u32 (a.toNat:Int):=by simp only[Rep] at h;exact h
theorem RG(a:UInt64)(u:Value)(h:Rep c (.u64 a) u):u=.int .u64 (a.toNat:Int):=by simp only[Rep] at h;exact h
theorem zg{op:BinOp}{a b:UInt8}{K:AV->Option R}{r:R}(h:WB op a b K=some r):op=.rem/\b.toNat≠0/\K (.u8 (C9 a b))=some r:=by
 unfold WB at h
 split at h
 ·cases hb:Nat.beq b.toNat 0 with
  | true=>simp_all
  | false=>rw[hb] at h;exact⟨rfl,(fun e=>by simp_all),h⟩
 ·cases h
theorem A1r{P:Program}{w:World}(t:TypeId)(a b:UInt8)(hb:b.toNat≠0):(binOp .rem t (.int .u8 (a.toNat:Int)) (.int .u8 (b.toNat:Int))).run P w=.ok (byteV (UInt8.ofNat (a.toNat%b.toNat))) w:=by
 have hb0:¬(b.toNat:Int)=0:=zaa
 have hm:(UInt8.ofNat (a.toNat%b.toNat)).toNat=a.toNat%b.toNat:=by
  rw[UInt8.toNat_ofNat',Nat.mod_eq_of_lt (Nat.lt_of_le_of_lt (Nat.mod_le _ _) (UInt8.toNat_lt _))]
 have ht:Int.tmod (a.toNat:Int) (b.toNat:Int)=((a.toNat%b.toNat:Nat):Int):=by
  grind
 simp[binOp,Op.intDiv,hb,byteV,hm,ht]
theorem OB{P:Program}{w:World}(op:BinOp)(t:TypeId)(x y:Operand)(a b:Option Addr)(n c n' c':Nat):(eqGuard op t x y (.slice a n c) (.slice b n' c')).run P w=.ok () w:=by
 simp_all[eqGuard]
theorem MV:∀ {l:List AV} {as:List Int} {c:Cx} {us:List Value},intsOf l=some as->Ai c l us->us=as.map (Value.int .i64)
 | [],as,c,us,h,hr=>by simp_all[intsOf,Ai]
 | .i a::r,as,c,us,h,hr=>by
  simp only[intsOf] at h
  split at h
  ·rename_i l hl
   obtain rfl:=Option.some.inj h
   simp only[Ai,Rep] at hr
   obtain⟨u,t,rfl,rfl,h3⟩:=hr
   rw[MV hl h3];rfl
  ·cases h
 | .un::_,_,_,_,h,_|.b _::_,_,_,_,h,_|.u8 _::_,_,_,_,h,_|.u32 _::_,_,_,_,h,_|.u64 _::_,_,_,_,h,_|.str _::_,_,_,_,h,_|.sl _ _::_,_,_,_,h,_|.st _ _::_,_,_,_,h,_|.sn _ _::_,_,_,_,h,_|.nil::_,_,_,_,h,_|.nm _::_,_,_,_,h,_|.pa _ _::_,_,_,_,h,_|.pe _ _ _ _::_,_,_,_,h,_|.vs _ _ _ _::_,_,_,_,h,_|.pt _::_,_,_,_,h,_|.agg _::_,_,_,_,h,_|.tup _::_,_,_,_,h,_|.fn _ _ _::_,_,_,_,h,_=>by simp only[intsOf] at h;cases h
theorem A1s{bt e2:Bool}{en:Nat}{bs:Bool}{op:BinOp}{x y:AV}{K:AV->Option R}{r:R}(h:bT bt e2 en bs op x y K=some r){t:TypeId}(hbt:bt=true->P.underlying t=some .bool)(he2:e2=true->∃ e',E2 P t e')(hen:0<en->E6 P t en)(hbs:bs=true->∃ e,P.underlying t=some (.slice e)):
  ∃ s,K s=some r/\OA P op t x y s:=by
 have shf:∀ {op:BinOp} {x y s:AV} {k:IntKind} {a:Int} {q:Nat} {z:Int},(∀(c:Cx) (v:Value),Rep c y v->∃ k n,v=.int k (n:Int)/\0<=n/\n.toNat=q)->(∀ c u,Rep c x u->u=.int k a)->(∀ w k' n,0<=n->n.toNat=q->(binOp op t (.int k a) (.int k' n)).run P w=.ok (.int k z) w)->(∀ c,Rep c s (.int k z))->OA P op t x y s:=by
  intro op x y s k a q z hy hx hrun hs c u v w h1 h2
  obtain rfl:=hx c u h1
  obtain⟨k',n,rfl,hn,hq⟩:=hy c v h2
  simp_all[bf]
 unfold bT at h
 try simp only[xN,xO] at h
 split at h
 ·obtain⟨q,h',hy⟩:=Yi h
  clear h
  split at h'
  ·rename_i a
   exact⟨_,h',shf (s:=.i (ishl0 a q)) hy (fun c u=>xQ c _ u) (fun w k' n hn hq=>by rw[show binOp .shl t _ (.int k' n)=Op.shift .shl _ _ k' n from rfl,shift_shl' _ _ _ _ hn,hq]) fun c'=>by simp only[Rep,ishl0,IntKind.bits]⟩
  ·rename_i a
   exact⟨_,h',shf (s:=.u8 (u8shl0 a q)) hy (fun c u=>QA c _ u) (fun w k' n hn hq=>by rw[show binOp .shl t _ (.int k' n)=Op.shift .shl _ _ k' n from rfl,shift_shl' _ _ _ _ hn,hq]) fun c'=>by grind[Rep,u8shl0,byteV,IntKind.bits,XH]⟩
  ·rename_i a
   exact⟨_,h',shf (s:=.u64 (u64shl0 a q)) hy (fun c u=>RG c _ u) (fun w k' n hn hq=>by rw[show binOp .shl t _ (.int k' n)=Op.shift .shl _ _ k' n from rfl,shift_shl' _ _ _ _ hn,hq]) fun c'=>by grind[Rep,u64shl0,KO,IntKind.bits,UH]⟩
  ·rename_i a
   exact⟨_,h',shf (s:=.u32 (u32shl0 a q)) hy (fun c u=>RF c _ u) (fun w k' n hn hq=>by rw[show binOp .shl t _ (.int k' n)=Op.shift .shl _ _ k' n from rfl,shift_shl' _ _ _ _ hn,hq]) fun c'=>by grind[Rep,u32shl0,G7,IntKind.bits,UG]⟩
  ·cases h'
 ·obtain⟨q,h',hy⟩:=Yi h
  clear h
  split at h'
  ·rename_i a
   exact⟨_,h',shf (s:=.i (ishr0 a q)) hy (fun c u=>xQ c _ u) (fun w k' n hn hq=>by rw[show binOp .shr t _ (.int k' n)=Op.shift .shr _ _ k' n from rfl,shift_shr' _ _ _ _ hn,hq]) fun c'=>by simp only[Rep,ishr0,IntKind.bits]⟩
  ·rename_i a
   refine⟨_,h',shf (s:=.u8 (u8shr0 a q)) hy (fun c u=>QA c _ u) (fun w k' n hn hq=>by rw[show binOp .shr t _ (.int k' n)=Op.shift .shr _ _ k' n from rfl,shift_shr' _ _ _ _ hn,hq]) fun c'=>?_⟩
   simp only[Rep,u8shr0,byteV,IntKind.bits]
   rw[UInt8.toNat_ofNat',Nat.mod_eq_of_lt (gQ _ _ _ (UInt8.toNat_lt _))];simp
  ·rename_i a
   refine⟨_,h',shf (s:=.u64 (u64shr0 a q)) hy (fun c u=>RG c _ u) (fun w k' n hn hq=>by rw[show binOp .shr t _ (.int k' n)=Op.shift .shr _ _ k' n from rfl,shift_shr' _ _ _ _ hn,hq]) fun c'=>?_⟩
   simp only[Rep,u64shr0,KO,IntKind.bits]
   rw[UInt64.toNat_ofNat',Nat.mod_eq_of_lt (gQ _ _ _ (UInt64.toNat_lt _))];simp
  ·rename_i a
   refine⟨_,h',shf (s:=.u32 (u32shr0 a q)) hy (fun c u=>RF c _ u) (fun w k' n hn hq=>by rw[show binOp .shr t _ (.int k' n)=Op.shift .shr _ _ k' n from rfl,shift_shr' _ _ _ _ hn,hq]) fun c'=>?_⟩
   simp only[Rep,u32shr0,G7,IntKind.bits]
   rw[UInt32.toNat_ofNat',Nat.mod_eq_of_lt (gQ _ _ _ (UInt32.toNat_lt _))];simp
  ·cases h'
 ·rename_i h1 h2
  split at h
  ·rename_i a b
   have arith:∀(s:AV) (v':Value),K s=some r->(∀ w,(binOp op t (.int .i64 a) (.int .i64 b)).run P w=.ok v' w)->(∀ c',Rep c' s v')->∃ s,K s=some r/\OA P op t (.i a) (.i b) s :=
    fun s v' hs hb hr=>⟨s,hs,OA.int (fun c u=>xQ c _ u) (fun c u=>xQ c _ u) hb hr⟩
   split at h
   ·exact arith _ _ h (fun w=>by simp[binOp,Op.intArith];rfl) (fun c'=>by simp only[Rep];rfl)
   ·exact arith _ _ h (fun w=>by simp[binOp,Op.intArith];rfl) (fun c'=>by simp only[Rep];rfl)
   ·exact arith _ _ h (fun w=>by simp[binOp,Op.intArith];rfl) (fun c'=>by simp only[Rep];rfl)
   ·cases hb:ieq0 b 0 with
    | true=>simp_all
    | false =>
     rw[hb] at h
     have hb0:¬b=0:=by grind[ieq0]
     exact arith _ (.int .i64 (iquo0 a b)) h (fun w=>by simp[binOp,Op.intDiv,hb0,iquo0]) (fun c'=>by simp only[Rep])
   ·cases hb:ieq0 b 0 with
    | true=>simp_all
    | false =>
     rw[hb] at h
     have hb0:¬b=0:=by grind[ieq0]
     exact arith _ (.int .i64 (irem0 a b)) h (fun w=>by simp[binOp,Op.intDiv,hb0,irem0]) (fun c'=>by simp only[Rep])
   ·exact arith _ _ h (fun w=>MF rfl t .i64 a b) (fun c'=>by simp only[Rep];rfl)
   ·exact arith _ _ h (fun w=>MF rfl t .i64 a b) (fun c'=>by simp only[Rep];rfl)
   ·exact arith _ _ h (fun w=>MF rfl t .i64 a b) (fun c'=>by simp only[Rep];rfl)
   ·exact arith _ _ h (fun w=>MF rfl t .i64 a b) (fun c'=>by simp only[Rep];rfl)
   ·exact arith _ _ h (fun w=>MF rfl t .i64 a b) (fun c'=>by simp only[Rep];rfl)
   ·exact arith _ _ h (fun w=>MF rfl t .i64 a b) (fun c'=>by simp only[Rep];rfl)
   ·refine arith _ (.int .i64 (bits op .i64 a b)) h (fun w=>?_) (fun c'=>by simp only[Rep,ibit0])
    cases op<;>first|rfl|contradiction
  ·rename_i a b
   cases hb:UF op with
   | true=>rw[hb] at h;exact⟨_,h,OA.int (fun c u=>QA c _ u) (fun c u=>QA c _ u) (fun w=>A1I hb t a b) fun c'=>by simp only[Rep];rfl⟩
   | false =>
    rw[hb] at h
    cases hc:YT op with
    | true=>rw[hc] at h;exact⟨_,h,OA.int (fun c u=>QA c _ u) (fun c u=>QA c _ u) (fun w=>MF hc t .u8 _ _) fun c'=>by simp only[Rep];rfl⟩
    | false =>
     rw[hc] at h
     obtain⟨rfl,hb0,h⟩:=zg h
     refine⟨_,h,OA.int (fun c u=>QA c _ u) (fun c u=>QA c _ u) (fun w=>A1r t a b hb0) fun c'=>?_⟩
     simp_all[Rep,xG,u8rem0]
  ·rename_i a b
   cases hb:UF op with
   | true=>rw[hb] at h;exact⟨_,h,OA.int (fun c u=>RF c _ u) (fun c u=>RF c _ u) (fun w=>zO hb t a b) fun c'=>by simp only[Rep];rfl⟩
   | false =>
    rw[hb] at h
    cases hc:YT op with
    | true=>rw[hc] at h;exact⟨_,h,OA.int (fun c u=>RF c _ u) (fun c u=>RF c _ u) (fun w=>MF hc t .u32 _ _) fun c'=>by simp only[Rep];rfl⟩
    | false=>simp_all
  ·rename_i a b
   cases hb:UF op with
   | true=>rw[hb] at h;exact⟨_,h,OA.int (fun c u=>RG c _ u) (fun c u=>RG c _ u) (fun w=>zQ hb t a b) fun c'=>by simp only[Rep];rfl⟩
   | false =>
    rw[hb] at h
    cases hc:YT op with
    | true=>rw[hc] at h;exact⟨_,h,OA.int (fun c u=>RG c _ u) (fun c u=>RG c _ u) (fun w=>MF hc t .u64 _ _) fun c'=>by simp only[Rep];rfl⟩
    | false=>simp_all
  ·rename_i a b
   cases hb:bt with
   | false=>simp_all
   | true =>
    rw[hb] at h
    have ht:=hbt hb
    simp only[cond_true] at h
    have heq:∀ w,(Op.equal t (.bool a) (.bool b)).run P w=.ok (a==b) w:=fun w=>run_equal_bool (P:=P) w t a b ht
    split at h
    ·refine⟨_,h,fun c u v w hx hy=>?_⟩
     simp only[Rep] at hx hy
     subst hx;subst hy
     exact⟨fun _ _=>Yg _ _ _ _ _ _,.bool (a==b),by grind[binOp,Sem.run_bind,Result.andThen_ok,Sem.run_pure],by simp only[Rep];rfl⟩
    ·refine⟨_,h,fun c u v w hx hy=>?_⟩
     simp only[Rep] at hx hy
     subst hx;subst hy
     exact⟨fun _ _=>Yg _ _ _ _ _ _,.bool (!(a==b)),by grind[binOp,Sem.run_bind,Result.andThen_ok,Sem.run_pure],by simp only[Rep];rfl⟩
    ·cases h
  ·rename_i a b
   have hbq:(a==b)=decide (a=b):=zaJ
   split at h
   ·refine⟨_,h,fun c u v w hx hy=>?_⟩
    simp only[Rep] at hx hy
    subst hx;subst hy
    exact⟨fun _ _=>bg _ _ _ _ _ _,.bool (decide (a=b)),by simp[binOp,Op.stringOp,<-hbq],by simp only[Rep];rfl⟩
   ·refine⟨_,h,fun c u v w hx hy=>?_⟩
    simp only[Rep] at hx hy
    subst hx;subst hy
    exact⟨fun _ _=>bg _ _ _ _ _ _,.bool (!decide (a=b)),by simp[binOp,Op.stringOp,<-hbq],by simp only[Rep];rfl⟩
   ·cases h
  ·rename_i a b c d
   cases hb:e2 with
   | false=>simp_all
   | true =>
    rw[hb] at h
    obtain⟨e',E⟩:=he2 hb
    simp only[cond_true] at h
    split at h
    ·refine⟨_,h,fun cx u v w hx hy=>?_⟩
     simp only[Rep,Ai] at hx hy
     obtain⟨us,rfl,⟨u1,_,rfl,rfl,u2,_,rfl,rfl,rfl⟩,_⟩:=hx
     obtain⟨vs,rfl,⟨v1,_,rfl,rfl,v2,_,rfl,rfl,rfl⟩,_⟩:=hy
     obtain⟨q1,q2⟩:=E.run w a b c d
     exact⟨fun _ _=>q2 _ _ _,.bool (a==c&&b==d),by grind[binOp,Sem.run_bind,Result.andThen_ok,Sem.run_pure],by simp only[Rep];rfl⟩
    ·refine⟨_,h,fun cx u v w hx hy=>?_⟩
     simp only[Rep,Ai] at hx hy
     obtain⟨us,rfl,⟨u1,_,rfl,rfl,u2,_,rfl,rfl,rfl⟩,_⟩:=hx
     obtain⟨vs,rfl,⟨v1,_,rfl,rfl,v2,_,rfl,rfl,rfl⟩,_⟩:=hy
     obtain⟨q1,q2⟩:=E.run w a b c d
     exact⟨fun _ _=>q2 _ _ _,.bool (!(a==c&&b==d)),by grind[binOp,Sem.run_bind,Result.andThen_ok,Sem.run_pure],by simp only[Rep];rfl⟩
    ·cases h
  ·cases hb:bs with
   | false=>simp_all
   | true =>
    rw[hb,cond_true] at h
    obtain⟨el,ht⟩:=hbs hb
    split at h
    ·refine⟨_,h,fun cx u v w hx hy=>?_⟩
     simp_all[Rep,OB,Lib.run_eql_slice_nil]
    ·refine⟨_,h,fun cx u v w hx hy=>?_⟩
     simp_all[Rep,OB,run_neq_slice_nil_any]
    ·cases h
  ·cases hb:bs with
   | false=>simp_all
   | true =>
    rw[hb,cond_true] at h
    obtain⟨el,ht⟩:=hbs hb
    split at h
    ·refine⟨_,h,fun cx u v w hx hy=>?_⟩
     simp only[Rep] at hx hy
     obtain⟨⟨p,n,k,rfl⟩,_⟩:=hx
     simp_all[OB,Lib.run_eql_slice_nil,Rep]
    ·refine⟨_,h,fun cx u v w hx hy=>?_⟩
     simp only[Rep] at hx hy
     obtain⟨⟨p,n,k,rfl⟩,_⟩:=hx
     simp_all[OB,run_neq_slice_nil_any,Rep]
    ·cases h
  ·rename_i l
   cases hb:bs with
   | false=>simp_all
   | true =>
    rw[hb,cond_true] at h
    obtain⟨el,ht⟩:=hbs hb
    cases hl:lemp0 l with
    | true=>simp_all
    | false =>
     rw[hl,cond_false] at h
     have hs:∀(cx:Cx) (u:Value),Rep cx (.sl _ l) u->∃ p n k,u=.slice (some p) n k:=by
      intro cx u hx
      simp only[Rep] at hx
      obtain⟨cs,_,a,cap,rfl,_,_,_,h5,_⟩:=hx cx.w (Stp.refl _ _)
      cases a with
      | none=>have:=(h5 rfl).1;simp_all[lemp0]
      | some p=>simp_all
     split at h
     ·refine⟨_,h,fun cx u v w hx hy=>?_⟩
      obtain⟨p,n,k,rfl⟩:=hs _ _ hx
      simp_all[Rep,OB,Lib.run_eql_slice_nil]
     ·refine⟨_,h,fun cx u v w hx hy=>?_⟩
      obtain⟨p,n,k,rfl⟩:=hs _ _ hx
      simp_all[Rep,OB,run_neq_slice_nil_any]
     ·cases h
  ·rename_i l m _
   split at h
   ·rename_i as bs' ha hb
    cases hc:(Nat.blt 0 en&&Nat.beq as.length en&&Nat.beq bs'.length en) with
    | false=>simp_all
    | true =>
     rw[hc,cond_true] at h
     simp only[Bool.and_eq_true] at hc
     obtain⟨⟨c1,c2⟩,c3⟩:=hc
     have E:=hen (by simpa using c1)
     have q:=fun w=>E.run w as bs' (Nat.eq_of_beq_eq_true c2) (Nat.eq_of_beq_eq_true c3)
     split at h
     ·refine⟨_,h,fun cx u v w hx hy=>?_⟩
      simp only[Rep] at hx hy
      obtain⟨us,rfl,hx,_⟩:=hx
      obtain⟨vs,rfl,hy,_⟩:=hy
      rw[MV ha hx,MV hb hy]
      exact⟨fun _ _=>(q w).2 _ _ _,.bool (decide (as=bs')),by grind[binOp,Sem.run_bind,Result.andThen_ok,Sem.run_pure],by simp only[Rep,gB,ieqs0]⟩
     ·refine⟨_,h,fun cx u v w hx hy=>?_⟩
      simp only[Rep] at hx hy
      obtain⟨us,rfl,hx,_⟩:=hx
      obtain⟨vs,rfl,hy,_⟩:=hy
      rw[MV ha hx,MV hb hy]
      exact⟨fun _ _=>(q w).2 _ _ _,.bool (!(decide (as=bs'))),by grind[binOp,Sem.run_bind,Result.andThen_ok,Sem.run_pure],by simp only[Rep,gB,ieqs0];rfl⟩
     ·cases h
   ·cases h
  ·cases h
end Go.Ax
namespace Go.Ax
open Go Go.RowKit Go.Eng
set_option linter.unusedVariables false
set_option linter.unusedSimpArgs false
variable {c:Cx}{G:Fp}{k:Nat}{F:Fp}{R:Rs}{F':Fp}{s:AV}{v:Value}{w':World}
theorem JW(k:Nat):∀(G F:Fp),FN k (G++F)=(FN k G).or (FN k F)
 | [],F=>rfl
 | (d,v)::G,F=>by rw[List.cons_append,Cb,Cb,JW k G F];split<;>rfl
theorem J4(k:Nat)(G F:Fp):has k (G++F)↔has k G\/has k F:=by
 simp_all[has,JW]
theorem ED(k:Nat)(F:Fp):has k F↔∃ R,FN k F=some R:=by unfold has;exact Option.isSome_iff_exists
def Dj(G F:Fp):Prop:=∀ k,has k G->¬has k F
theorem J5(h:Dj G F)(hk:FN k F=some R):FN k (G++F)=some R:=by
 rw[JW]
 cases hg:FN k G with
 | none=>exact hk
 | some R'=>exact absurd ((ED k F).2 ⟨R,hk⟩) (h k ((ED k G).2 ⟨R',hg⟩))
theorem GV(hk:FN k G=some R):FN k (G++F)=some R:=by rw[JW,hk];rfl
theorem MW{ν:Nat->Value}(h:Dj G F)(b:Nat):Em ν (G++F) b↔Em ν G b\/Em ν F b:=by
 constructor
 ·rintro⟨k,R,hk,hb⟩
  rw[JW] at hk
  cases hg:FN k G with
  | none=>rw[hg] at hk;exact .inr ⟨k,R,hk,hb⟩
  | some R'=>exact .inl ⟨k,R',hg,hb⟩
 ·rintro(⟨k,R,hk,hb⟩|⟨k,R,hk,hb⟩)
  ·exact⟨k,R,GV hk,hb⟩
  ·exact⟨k,R,J5 h hk,hb⟩
theorem A1t(ν:Nat->Value)(b:Nat):¬Em ν [] b:=fun⟨k,R,h,_⟩=>za6
theorem LP{ν:Nat->Value}(b:Nat):Em ν [(k,R)] b↔blk (ν k)=some b:=by
 constructor
 ·rintro⟨q,R',h,hb⟩
  simp_all[Cb]
 ·intro h;exact⟨k,R,by rw[Cb,if_pos rfl],h⟩
theorem DI(k q:Nat)(R:Rs):has q [(k,R)]↔q=k:=by
 simp_all[has,Cb]
theorem WO{k:Nat}:∀ {G:Fp},XK k G=true↔¬has k G
 | []=>by simp[XK,has]
 | (d,v)::G=>by
  unfold has
  rw[Cb]
  simp only[XK,Bool.and_eq_true,Bool.not_eq_true']
  rw[WO (G:=G)]
  unfold has
  by_cases h:k=d
  ·subst h;simp
  ·have:Nat.beq k d=false:=by simp_all[Bool.eq_false_iff]
   grind
def Cx.less(c:Cx)(G:Fp):Cx:=⟨c.N,c.ν,fun b=>c.O b/\¬Em c.ν G b,c.w⟩
theorem Cx.less_le(c:Cx)(G:Fp):Cx.Le none c (c.less G):=⟨fun k _ h=>⟨h,rfl⟩,fun w'' hs=>hs.mono fun i _ h=>h.1⟩
theorem Good.less{I:World->Prop}{c:Cx}(h:Good I c)(G:Fp):Good I (c.less G):=⟨fun b hb=>h.lt b hb.1,fun w' hs=>h.inv w' ((c.less_le G).st w' hs)⟩
theorem Pre.left(h:Pre c (G++F) F'):(∀ k R,FN k G=some R->c.N k/\Holds c k R/\∀ b,blk (c.ν k)=some b->c.O b)/\(∀ k k' R R' b,FN k G=some R->FN k' G=some R'->k≠k'->blk (c.ν k)=some b->blk (c.ν k')≠some b) :=
 ⟨fun k R hk=>h.res k R (GV hk),fun k k' R R' b h1 h2=>h.dist k k' R R' b (GV h1) (GV h2)⟩
theorem Pre.less{c:Cx}{G F F' F'':Fp}(hj:Dj G F)(h:Pre c (G++F) F')(hn:∀ k,has k F''->has k F\/¬c.N k)(hlt:∀ b,c.O b->b<c.w.heap.size):Pre (c.less G) F F'':=by
 refine⟨fun k R hk=>?_,fun k k' R R' b h1 h2=>h.dist k k' R R' b (J5 hj h1) (J5 hj h2),hn⟩
 obtain⟨h1,h2,h3⟩:=h.res k R (J5 hj hk)
 refine⟨h1,Holds.le (c.less_le G) (EM _) rfl (fun b hb=>⟨hlt b (h3 b hb),rfl⟩) h2,fun b hb=>⟨h3 b hb,?_⟩⟩
 rintro⟨q,R',hq,hb'⟩
 refine h.dist q k R' R b (GV hq) (J5 hj hk) ?_ hb' hb
 rintro rfl
 exact hj q ((ED _ _).2 ⟨_,hq⟩) ((ED _ _).2 ⟨_,hk⟩)
theorem JG.reads{e:Nat}{t:Ty}{l:List (El t)}(h:JG c k e t.n l.length (flatL t l)){O':Nat->Prop}(hO:∀ b,O' b->c.O b/\blk (c.ν k)≠some b):∀ w',Stp O' c.w w'->Rd t l (c.ν k) w':=by
 obtain⟨vs,h1,h2,h3⟩:=h
 obtain⟨cs,rfl,hcs⟩:=h2.flatL
 intro w' hs
 refine⟨cs,hcs.mono fun x m hm=>hm.cr w' (hs.mono fun i _ hi=>(hO i hi).1),?_⟩
 exact Sl.of_ownG (A1R h1 hs fun b hb hq=>(hO b hq).2 hb)
theorem WP{hk:Nat->Option Rs}{a b:AV}(h:rdA hk a=some (b,G)):(∀ k R,FN k G=some R->hk k=some R)/\(∀ k R,FN k G=some R->∃ e t l,R=.row e t l) /\
  ∀(c:Cx) (v:Value),Rep c a v->(∀ k R,FN k G=some R->c.N k/\Holds c k R/\∀ b,blk (c.ν k)=some b->c.O b)->∀ G',(∀ b,Em c.ν G b->Em c.ν G' b)->Rep (c.less G') b v:=by
 unfold rdA at h
 split at h
 ·rename_i k
  split at h
  ·rename_i e t l hkk
   simp only[Option.some.injEq,Prod.mk.injEq] at h
   obtain⟨rfl,rfl⟩:=h
   refine⟨fun q R hq=>?_,fun q R hq=>?_,fun c v hr hres G' hG'=>?_⟩
   ·rw[Cb] at hq
    simp_all
   ·rw[Cb] at hq
    split at hq
    ·grind
    ·cases hq
   ·simp only[Rep] at hr ⊢
    obtain⟨_,rfl,_⟩:=hr
    obtain⟨_,h2,_⟩:=hres k _ (by rw[Cb,if_pos rfl])
    refine JG.reads h2 fun b hb=>⟨hb.1,fun e=>hb.2 (hG' b ((LP b).2 e))⟩
  ·cases h
 ·simp only[Option.some.injEq,Prod.mk.injEq] at h
  obtain⟨rfl,rfl⟩:=h
  exact⟨(fun k R h=>by cases h),(fun k R h=>by cases h),fun c v hr _ G' _=>Rep.le (c.less_le G') _ _ (Gt _) hr⟩
mutual
theorem Rep.noRd{N:Nat->Prop}{ν:Nat->Value}{O O':Nat->Prop}{w:World}:∀(s:AV) (u:Value),Ax.noRd s=true->Rep ⟨N,ν,O,w⟩ s u->Rep ⟨N,ν,O',w⟩ s u
 | .un,u,_,hr=>by simp only[Rep]
 | .b _,u,_,hr|.i _,u,_,hr|.u8 _,u,_,hr|.u32 _,u,_,hr|.u64 _,u,_,hr|.str _,u,_,hr|.nil,u,_,hr|.gp _,u,_,hr=>by simp_all[Rep]
 | .nm k,u,_,hr=>by grind[Rep]
 | .pa k o,u,_,hr|.pe k i s o,u,_,hr|.vs k s a b,u,_,hr=>by simp_all[Rep]
 | .sl t l,u,h,hr|.st t l,u,h,hr|.sn t l,u,h,hr|.pt l,u,h,hr=>za6
 | .tup l,u,h,hr=>by
  simp only[Rep] at hr ⊢
  obtain⟨us,h1,h2⟩:=hr
  exact⟨us,h1,Ai.noRd l us (by simpa only[Ax.noRd] using h) h2⟩
 | .agg l,u,h,hr=>by
  simp only[Rep] at hr ⊢
  obtain⟨us,h1,h2,h3⟩:=hr
  exact⟨us,h1,Ai.noRd l us (by simpa only[Ax.noRd] using h) h2,h3⟩
 | .fn f l p,u,h,hr=>by
  simp only[Rep] at hr ⊢
  obtain⟨us,vs,h1,h2,h3⟩:=hr
  simp only[Ax.noRd,Bool.and_eq_true] at h
  exact⟨us,vs,h1,Ai.noRd l us h.1 h2,Ai.noRd p vs h.2 h3⟩
theorem Ai.noRd{N:Nat->Prop}{ν:Nat->Value}{O O':Nat->Prop}{w:World}:∀(s:List AV) (u:List Value),MB s=true->Ai ⟨N,ν,O,w⟩ s u->Ai ⟨N,ν,O',w⟩ s u
 | [],u,_,hr=>by simp_all[Ai]
 | s::r,u,h,hr=>by
  simp only[Ai] at hr ⊢
  obtain⟨v,t,h1,h2,h3⟩:=hr
  simp only[MB,Bool.and_eq_true] at h
  exact⟨v,t,h1,Rep.noRd s v h.1 h2,Ai.noRd r t h.2 h3⟩
end
theorem WQ:∀(l r:List AV),MB (l++r)=(MB l&&MB r)
 | [],r=>by simp[MB]
 | s::l,r=>by simp only[List.cons_append,MB,WQ l r,Bool.and_assoc]
theorem WR:∀(t:Ty) (x:El t),t.plain=true->MB (flat t x)=true
 | .bool,_,_|.i64,_,_|.u8,_,_|.u32,_,_|.u64,_,_|.str,_,_|.unit,_,_=>rfl
 | .sl _,_,h=>za6
 | .pair a b,x,h=>by
  simp only[Ty.plain,Bool.and_eq_true] at h
  rw[flat,WQ,WR a _ h.1,WR b _ h.2];rfl
theorem Yj(t:Ty)(h:t.plain=true):∀(l:List (El t)),MB (flatL t l)=true
 | []=>rfl
 | x::l=>by rw[flatL,WQ,WR t x h,Yj t h l];rfl
theorem kR(R:Rs)(h:bQ R=true):MB R.cells=true:=by
 cases R with
 | var l|rowA e sz n l=>exact h
 | row e t l=>exact Yj t h l
theorem Holds.noRd{N:Nat->Prop}{ν:Nat->Value}{O O':Nat->Prop}{w:World}{k:Nat}{R:Rs}(hR:bQ R=true)(h:Holds ⟨N,ν,O,w⟩ k R):Holds ⟨N,ν,O',w⟩ k R:=by
 have hc:=kR R hR
 cases R with
 | var l=>obtain⟨b,us,h1,h2,h3,h4⟩:=h;exact⟨b,us,h1,h2,Ai.noRd _ _ hc h3,h4⟩
 | row e t l|rowA e sz n l=>obtain⟨vs,h1,h2,h3⟩:=h;exact⟨vs,h1,Ai.noRd _ _ hc h2,h3⟩
theorem bi:∀ {F:Fp} {k:Nat} {R:Rs},PX F=true->FN k F=some R->bQ R=true
 | [],k,R,_,h=>za6
 | (d,v)::F,k,R,h,hk=>by
  simp only[PX,Bool.and_eq_true] at h
  rw[Cb] at hk
  split at hk
  ·simp_all
  ·exact bi h.2 hk
theorem Ok.consume{ν':Nat->Value}(hj:Dj G F)(ok:Ok (c.less G) F F' s v w' ν'):Ok c (G++F) F' s v w' ν':=by
 have hO:(fun b=>((c.less G).O b/\¬Em (c.less G).ν F b)\/Em ν' F' b)=fun b=>(c.O b/\¬Em c.ν (G++F) b)\/Em ν' F' b:=by
  funext b
  have:=MW (ν:=c.ν) hj b
  refine propext ⟨fun h=>h.imp (fun h=>⟨h.1.1,fun e=>?_⟩) id,fun h=>h.imp (fun h=>⟨⟨h.1,fun e=>h.2 (this.2 (.inl e))⟩,fun e=>h.2 (this.2 (.inr e))⟩) id⟩
  exact(this.1 e).elim h.1.2 h.2
 obtain⟨h1,h2,h3,h4,h5⟩:=ok
 rw[hO] at h2 h3
 exact⟨h1,h2,fun k R hk=>⟨(h3 k R hk).1,fun b hb=>⟨((h3 k R hk).2 b hb).1,((h3 k R hk).2 b hb).2.imp id fun e=>(MW hj b).2 (.inr e)⟩⟩,h4,h5.mono fun i _ h=>(MW hj i).2 (.inr h)⟩
theorem Ok.borrow{ν':Nat->Value}(hj:Dj G F)(hj':Dj G F')(hlt:∀ b,c.O b->b<c.w.heap.size)(hres:∀ k R,FN k (G++F)=some R->c.N k/\Holds c k R/\∀ b,blk (c.ν k)=some b->c.O b)(hdist:∀ k k' R R' b,FN k (G++F)=some R->FN k' (G++F)=some R'->k≠k'->blk (c.ν k)=some b->blk (c.ν k')≠some b)(hs:noRd s=true)(hF:PX F'=true)(ok:Ok (c.less G) F F' s v w' ν'):Ok c (G++F) (G++F') s v w' ν':=by
 obtain⟨h1,h2,h3,h4,h5⟩:=ok
 have hνG:∀ k R,FN k G=some R->ν' k=c.ν k:=fun k R hk=>h1 k (hres k R (GV hk)).1
 have hbG:∀ b,Em ν' G b↔Em c.ν G b:=fun b=>⟨fun⟨k,R,hk,hb⟩=>⟨k,R,hk,by simp_all⟩,fun⟨k,R,hk,hb⟩=>⟨k,R,hk,by simp_all⟩⟩
 have hGF:∀ b,Em c.ν G b->¬Em c.ν F b:=by
  rintro b ⟨k,R,hk,hb⟩ ⟨q,R',hq,hb'⟩
  refine hdist k q R R' b (GV hk) (J5 hj hq) ?_ hb hb'
  rintro rfl
  exact hj k ((ED _ _).2 ⟨_,hk⟩) ((ED _ _).2 ⟨_,hq⟩)
 have hGO:∀ b,Em c.ν G b->c.O b:=by rintro b ⟨k,R,hk,hb⟩;grind[GV]
 have hN:(fun k=>c.N k\/has k (G++F'))=fun k=>(c.less G).N k\/has k F':=by
  funext k
  refine propext ⟨fun h=>?_,fun h=>h.imp id fun h=>(J4 _ _ _).2 (.inr h)⟩
  rcases h with h|h
  ·exact .inl h
  ·rcases(J4 _ _ _).1 h with h|h
   ·obtain⟨R,hR⟩:=(ED _ _).1 h;exact .inl (hres k R (GV hR)).1
   grind
 -- names that are kept: which blocks are whose
 have hold:∀ b,(c.O b/\¬Em c.ν (G++F) b)\/Em ν' (G++F') b->b<c.w.heap.size->c.O b:=by
  rintro b (h|h) hb
  ·exact h.1
  ·rcases(MW hj' b).1 h with h|h
   ·simp_all
   ·obtain⟨k,R,hk,hb'⟩:=h
    rcases((h3 k R hk).2 b hb').2 with h6|h6
    ·exact absurd hb (Nat.not_lt.2 h6)
    ·obtain⟨q,R',hq,hb2⟩:=h6;exact(hres q R' (J5 hj hq)).2.2 b hb2
 have hFO:∀ b,Em c.ν F b->c.O b:=by rintro b ⟨k,R,hk,hb⟩;grind[J5]
 refine⟨h1,?_,fun k R hk=>?_,fun k k' R R' b hk hk' hne hb=>?_,h5.mono fun i _ h=>(MW hj i).2 (.inr h)⟩
 ·grind[Rep.noRd]
 ·rw[hN]
  rw[JW] at hk
  cases hg:FN k G with
  | some R0 =>
   rw[hg] at hk
   obtain rfl:=Option.some.inj hk
   obtain⟨q1,q2,q3⟩:=hres k R0 (GV hg)
   refine⟨Holds.le (c:=c) (m:=none) ⟨fun q _ h=>⟨.inl h,h1 q h⟩,fun w'' hs=>h5.then hs (fun i _ h=>hFO i h) fun i hi h=>hold i h hi⟩ (EM _) (h1 k q1) (fun b hb=>?_) q2,fun b hb=>?_⟩
   ·exact⟨hlt b (q3 b hb),h5.block b (hlt b (q3 b hb)) (hGF b ⟨k,R0,hg,hb⟩)⟩
   ·rw[hνG k R0 hg] at hb
    exact⟨Nat.lt_of_lt_of_le (hlt b (q3 b hb)) h5.size,.inr ((MW hj b).2 (.inl ⟨k,R0,hg,hb⟩))⟩
  | none =>
   rw[hg] at hk
   have hk:FN k F'=some R:=hk
   obtain⟨q1,q2⟩:=h3 k R hk
   exact⟨Holds.noRd (bi hF hk) q1,fun b hb=>⟨(q2 b hb).1,(q2 b hb).2.imp id fun e=>(MW hj b).2 (.inr e)⟩⟩
 ·rw[JW] at hk hk'
  have cross:∀ k k' R R' b,FN k G=some R->FN k' F'=some R'->blk (ν' k)=some b->blk (ν' k')≠some b:=by
   intro k k' R R' b hk hk' hb hb'
   rw[hνG k R hk] at hb
   have hbl:b<c.w.heap.size:=hlt b ((hres k R (GV hk)).2.2 b hb)
   rcases((h3 k' R' hk').2 b hb').2 with h6|h6
   ·exact absurd hbl (Nat.not_lt.2 h6)
   ·exact hGF b ⟨k,R,hk,hb⟩ h6
  cases hg:FN k G with
  | some R0 =>
   cases hg':FN k' G with
   | some R0' =>
    grind[GV]
   | none=>grind
  | none =>
   rw[hg] at hk
   cases hg':FN k' G with
   | some R0'|none=>grind
theorem Ok.same(hlt:∀ b,c.O b->b<c.w.heap.size)(hres:∀ k R,FN k F=some R->c.N k/\Holds c k R/\∀ b,blk (c.ν k)=some b->c.O b)(hdist:∀ k k' R R' b,FN k F=some R->FN k' F=some R'->k≠k'->blk (c.ν k)=some b->blk (c.ν k')≠some b)(hr:Rep c s v):Ok c F F s v c.w c.ν:=by
 have hle:Cx.Le none c ⟨fun q=>c.N q\/has q F,c.ν,fun b=>(c.O b/\¬Em c.ν F b)\/Em c.ν F b,c.w⟩:=⟨fun q _ h=>⟨.inl h,rfl⟩,fun w'' hs=>hs.mono fun i _ hi=>by
  rcases hi with h|⟨k,R,hk,hb⟩
  ·exact h.1
  ·exact(hres k R hk).2.2 i hb⟩
 refine⟨fun _ _=>rfl,Rep.le hle s v (Gt s) hr,fun k R hk=>?_,hdist,Stp.refl _ _⟩
 obtain⟨h1,h2,h3⟩:=hres k R hk
 exact⟨Holds.le hle (EM _) rfl (fun b hb=>⟨hlt b (h3 b hb),rfl⟩) h2,fun b hb=>⟨hlt b (h3 b hb),.inr ⟨k,R,hk,hb⟩⟩⟩
theorem Ok.change{R':Rs}(hN:c.N k)(hO:∀ b,blk (c.ν k)=some b->c.O b)(hlt:∀ b,c.O b->b<c.w.heap.size)(hs:Stp (fun b=>blk (c.ν k)=some b) c.w w')(hA:Holds ⟨c.N,c.ν,c.O,w'⟩ k R')(hr:Rep ⟨c.N,c.ν,c.O,w'⟩ s v):Ok c [(k,R)] [(k,R')] s v w' c.ν:=by
 have hle:Cx.Le none ⟨c.N,c.ν,c.O,w'⟩ ⟨fun q=>c.N q\/has q [(k,R')],c.ν,fun x=>(c.O x/\¬Em c.ν [(k,R)] x)\/Em c.ν [(k,R')] x,w'⟩ :=
  ⟨fun q _ h=>⟨.inl h,rfl⟩,fun w'' h=>h.mono fun i _ hi=>by
   grind[LP]⟩
 have hbw:∀ b,blk (c.ν k)=some b->b<w'.heap.size:=fun b hb=>Nat.lt_of_lt_of_le (hlt b (hO b hb)) hs.size
 refine⟨fun _ _=>rfl,Rep.le hle s v (Gt s) hr,fun q R0 hq=>?_,fun q q' R0 R0' b hq hq' hne=>?_,hs.mono fun i _ h=>(LP i).2 h⟩
 ·rw[Cb] at hq
  split at hq
  ·rename_i e;subst e
   obtain rfl:=Option.some.inj hq
   exact⟨Holds.le hle (EM _) rfl (fun b hb=>⟨hbw b hb,rfl⟩) hA,fun b hb=>⟨hbw b hb,.inr ((LP b).2 hb)⟩⟩
  ·cases hq
 ·have h1:=(DI k q R').1 ((ED _ _).2 ⟨_,hq⟩)
  have h2:=(DI k q' R').1 ((ED _ _).2 ⟨_,hq'⟩)
  omega
theorem Ok.new{u:Value}(hk:¬c.N k)(hs:Stp No c.w w')(hb:∀ b,blk u=some b->c.w.heap.size<=b/\b<w'.heap.size)(hA:Holds ⟨fun q=>c.N q\/q=k,fun q=>if q=k then u else c.ν q,fun b=>c.O b\/blk u=some b,w'⟩ k R)(hr:Rep ⟨fun q=>c.N q\/q=k,fun q=>if q=k then u else c.ν q,fun b=>c.O b\/blk u=some b,w'⟩ s v):Ok c [] [(k,R)] s v w' (fun q=>if q=k then u else c.ν q):=by
 have hkk:(if k=k then u else c.ν k)=u:=if_pos rfl
 have hN:(fun q=>c.N q\/has q [(k,R)])=fun q=>c.N q\/q=k:=by simp_all[DI]
 have hO:(fun b=>(c.O b/\¬Em c.ν [] b)\/Em (fun q=>if q=k then u else c.ν q) [(k,R)] b)=fun b=>c.O b\/blk u=some b:=by
  simp_all[LP,A1t]
 refine⟨fun q hq=>if_neg fun(e:q=k)=>hk (e▸hq),?_,fun q R0 hq=>?_,fun q q' R0 R0' b hq hq' hne=>?_,hs.mono fun i _ h=>h.elim⟩
 ·simp_all
 ·rw[hN,hO]
  have h1:=(DI k q R).1 ((ED _ _).2 ⟨_,hq⟩)
  subst h1
  rw[Cb,if_pos rfl] at hq
  simp_all
 ·have h1:=(DI k q R).1 ((ED _ _).2 ⟨_,hq⟩)
  have h2:=(DI k q' R).1 ((ED _ _).2 ⟨_,hq'⟩)
  omega
theorem Ok.turn{k':Nat}{R':Rs}{u:Value}(hk:c.N k)(hk':¬c.N k')(hO:∀ b,blk (c.ν k)=some b->c.O b)(hs:Stp (fun b=>blk (c.ν k)=some b) c.w w')(hb:∀ b,blk u=some b->b<w'.heap.size/\(c.w.heap.size<=b\/blk (c.ν k)=some b))(hA:Holds ⟨fun q=>c.N q\/q=k',fun q=>if q=k' then u else c.ν q,fun b=>(c.O b/\blk (c.ν k)≠some b)\/blk u=some b,w'⟩ k' R')(hr:Rep ⟨fun q=>c.N q\/q=k',fun q=>if q=k' then u else c.ν q,fun b=>(c.O b/\blk (c.ν k)≠some b)\/blk u=some b,w'⟩ s v):
  Ok c [(k,R)] [(k',R')] s v w' (fun q=>if q=k' then u else c.ν q):=by
 have hkk:(if k'=k' then u else c.ν k')=u:=if_pos rfl
 have hN:(fun q=>c.N q\/has q [(k',R')])=fun q=>c.N q\/q=k':=by simp_all[DI]
 have hOO:(fun b=>(c.O b/\¬Em c.ν [(k,R)] b)\/Em (fun q=>if q=k' then u else c.ν q) [(k',R')] b)=fun b=>(c.O b/\blk (c.ν k)≠some b)\/blk u=some b:=by
  simp_all[LP]
 refine⟨fun q hq=>if_neg fun(e:q=k')=>hk' (e▸hq),?_,fun q R0 hq=>?_,fun q q' R0 R0' b hq hq' hne=>?_,hs.mono fun i _ h=>(LP i).2 h⟩
 ·simp_all
 ·rw[hN,hOO]
  have h1:=(DI k' q R').1 ((ED _ _).2 ⟨_,hq⟩)
  subst h1
  rw[Cb,if_pos rfl] at hq
  obtain rfl:=Option.some.inj hq
  simp_all[LP]
 ·have h1:=(DI k' q R').1 ((ED _ _).2 ⟨_,hq⟩)
  have h2:=(DI k' q' R').1 ((ED _ _).2 ⟨_,hq'⟩)
  omega
end Go.Ax
namespace Go.Ax
open Go Go.RowKit Go.Eng
set_option linter.unusedVariables false
set_option linter.unusedSimpArgs false
variable {c:Cx}{t:TypeId}{k b:Nat}{p:Addr}{w:World}{R:Rs}{s:AV}{u:Value}{l:List AV}{us:List Value}
theorem Rep.cast_sl{e e':Ty}{l:List (El e')}{l':List (El e)}(h:A4U e e' l=some l')(hr:∀ w',Stp c.O c.w w'->Rd e' l u w'):Rep c (.sl e l') u:=by
 obtain⟨rfl,h2⟩:=gG h
 obtain rfl:=eq_of_heq h2
 simp_all[Rep]
theorem Rd.nil(t:Ty)(w:World):Rd t [] (.slice none 0 0) w:=⟨[],by simp[F6],by grind[Sl.nil]⟩
theorem A1u:∀ {t:Ty} {l r:List AV} {x:El t} {us:List Value},Ye t l=some (x,r)->Ai c l us->∃ u1 u2,us=u1++u2/\Ai c (flat t x) u1/\Ai c r u2:=by
 intro t
 induction t with
 | unit=>intro l r x us h hr;simp only[Ye,Option.some.injEq,Prod.mk.injEq] at h;obtain⟨_,rfl⟩:=h;exact⟨[],us,rfl,by simp only[flat,Ai],hr⟩
 | pair a b iha ihb =>
  intro l r x us h hr
  simp only[Ye] at h
  split at h
  ·rename_i x1 r1 h1
   split at h
   ·rename_i y r2 h2
    simp only[Option.some.injEq,Prod.mk.injEq] at h
    obtain⟨rfl,rfl⟩:=h
    obtain⟨u1,u2,rfl,h3,h4⟩:=iha h1 hr
    obtain⟨u3,u4,rfl,h5,h6⟩:=ihb h2 h4
    exact⟨u1++u3,u4,by simp_all,by simp only[flat];exact h3.app h5,h6⟩
   ·cases h
  ·cases h
 | sl e ih =>
  intro l r x us h hr
  cases l with
  | nil=>simp[Ye] at h
  | cons s l =>
   simp only[Ai] at hr
   obtain⟨u,us',rfl,h1,h2⟩:=hr
   refine⟨[u],us',rfl,?_⟩
   simp only[flat]
   cases s<;>try(simp[Ye] at h;done)
   ·rename_i e' l'
    simp only[Ye] at h
    split at h
    ·rename_i l2 h3
     simp only[Option.some.injEq,Prod.mk.injEq] at h
     obtain⟨rfl,rfl⟩:=h
     grind[Rep,Ai.one,Rep.cast_sl]
    ·cases h
   ·rename_i e' l'
    simp only[Ye] at h
    split at h
    ·rename_i l2 h3
     simp only[Option.some.injEq,Prod.mk.injEq] at h
     obtain⟨rfl,rfl⟩:=h
     grind[Rep,Ai.one,Rep.cast_sl]
    ·cases h
   ·rename_i e' l'
    simp only[Ye] at h
    split at h
    ·rename_i l2 h3
     simp only[Option.some.injEq,Prod.mk.injEq] at h
     obtain⟨rfl,rfl⟩:=h
     grind[Rep,Ai.one,Rep.cast_sl]
    ·cases h
   ·simp only[Ye,Option.some.injEq,Prod.mk.injEq] at h
    obtain⟨rfl,rfl⟩:=h
    grind[Rep,Ai.one,Rd.nil]
 | _ =>
  intro l r x us h hr
  cases l with
  | nil=>simp[Ye] at h
  | cons s l =>
   simp only[Ai] at hr
   obtain⟨u,us',rfl,h1,h2⟩:=hr
   refine⟨[u],us',rfl,?_⟩
   cases s<;>first
    | (simp[Ye] at h;done)
    | (simp only[Ye,Option.some.injEq,Prod.mk.injEq] at h;obtain⟨rfl,rfl⟩:=h;simp_all[flat,Ai.one])
theorem Ua{t:Ty}{x:El t}(h:Ye t l=some (x,[]))(hr:Ai c l us):Ai c (flat t x) us:=by
 obtain⟨u1,u2,rfl,h1,h2⟩:=A1u h hr
 simp_all[Ai]
theorem OC(h:Rep c s u)(hc:cellsA s=some l):∃ us,u.cells=us.toArray/\Ai c l us/\∀ x∈us,x.oneCell'=true:=by
 have one:u.oneCell'=true->[s]=l->∃ us,u.cells=us.toArray/\Ai c l us/\∀ x∈us,x.oneCell'=true:=by
  intro h1 h3
  subst h3
  refine⟨[u],?_,Ai.one h,by grind⟩
  cases u<;>first|rfl|cases h1
 cases s<;>simp only[cellsA] at hc<;>try(cases hc;done)
 case agg l' =>
  obtain rfl:=Option.some.inj hc
  simp only[Rep] at h
  obtain⟨us,rfl,h1,h2⟩:=h
  exact⟨us,rfl,h1,h2⟩
 all_goals refine one ?_ (Option.some.inj hc)
 case b=>simp only[Rep] at h;subst h;rfl
 case i=>simp only[Rep] at h;subst h;rfl
 case u8=>simp only[Rep] at h;subst h;rfl
 case u32=>simp only[Rep] at h;subst h;rfl
 case u64=>simp only[Rep] at h;subst h;rfl
 case str=>simp only[Rep] at h;subst h;rfl
 case sl=>simp only[Rep] at h;obtain⟨cs,_,h2⟩:=h c.w (Stp.refl _ _);exact Sl.one h2
 case st=>simp only[Rep] at h;obtain⟨cs,_,h2⟩:=h.2 c.w (Stp.refl _ _);exact Sl.one h2
 case sn=>simp only[Rep] at h;obtain⟨cs,_,h2⟩:=h.2 c.w (Stp.refl _ _);exact Sl.one h2
 case nil=>simp only[Rep] at h;subst h;rfl
 case nm=>grind[Rep]
 case pa=>simp only[Rep] at h;obtain⟨_,b,_,rfl⟩:=h;rfl
 case pe=>simp only[Rep] at h;obtain⟨_,b,_,rfl⟩:=h;rfl
 case vs=>simp only[Rep] at h;obtain⟨_,a,n,cap,_,_,rfl⟩:=h;rfl
 case pt=>simp only[Rep] at h;obtain⟨p,us,rfl,_⟩:=h;rfl
 case fn=>simp only[Rep] at h;obtain⟨us,vs,rfl,_⟩:=h;rfl
section
variable {P:Program}{I:World->Prop}{L:LX}{ty:TypeId}{T:TT}
theorem Cs.zero(h:Cs w p (u::us)):w.cell? p=some u:=by
 have:=h 0 u rfl
 simp_all[Addr.add]
theorem Yk{i:TI}(hi:TOK P t i)(h:JV (scalar i.u) i.size l=some s)(hr:Ai c l us)(h1:∀ u∈us,u.oneCell'=true)(hc:Cs w p us):∃ v,(loadVar t p).run P w=.ok v w/\Rep c s v:=by
 obtain⟨d,ht,hd⟩:=hi.plain
 unfold JV at h
 cases hsc:scalar i.u with
 | true =>
  rw[hsc] at h hd
  cases l with
  | nil=>cases h
  | cons a l =>
   simp only[cond_true,List.head?_cons,Option.some.injEq] at h
   subst h
   simp only[Ai] at hr
   obtain⟨u,us',rfl,h2,h3⟩:=hr
   grind[Xn,Cs.zero]
 | false =>
  rw[hsc] at h hd
  simp only[cond_false] at h
  cases hle:Nat.ble i.size l.length with
  | false=>simp_all
  | true =>
   rw[hle] at h
   obtain rfl:=Option.some.inj h
   have hle:i.size<=l.length:=by simpa using hle
   have hlen:=hr.len
   obtain⟨inf,hinf,hs⟩:=Option.map_eq_some_iff.1 hi.sz
   have hagg:(isAgg t).run P w=.ok true w:=by
    simp only[isAgg,Sem.run_bind,run_underlying ht,Result.andThen_ok]
    cases d<;>first|(cases hd;done)|rfl
   have hl:(loadCells p i.size).run P w=.ok (us.take i.size).toArray w:=by
    have:=run_loadCells_list (P:=P) (w:=w) p (us.take i.size) (hc.take _)
    simp_all
   refine⟨.agg (us.take i.size).toArray,by simp_all[loadVar,sizeOf,typeInfo],?_⟩
   simp only[Rep]
   exact⟨_,rfl,hr.take _,fun u hu=>h1 u (List.mem_of_mem_take hu)⟩
theorem RH{e:Operand->Value}{x:Operand}{v:Value}(hx:e x=.pointer (some p))(h:(loadVar t p).run P w=.ok v w):(execOp e ⟨none,.load t x,ty, "", #[],none⟩).run P w=.ok (.value v) w:=by
 have h1:execOp e ⟨none,.load t x,ty, "", #[],none⟩=(do pure (.value (<-Instr.loadAt t (e x)))):=rfl
 simp_all[Instr.loadAt,Instr.sureAddr]
theorem MG{F':Fp}(hP:Pre c [(k,R)] F'):c.N k/\Holds c k R/\∀ b,blk (c.ν k)=some b->c.O b:=hP.res k R (by rw[Cb,if_pos rfl])
theorem IB{q:Nat}{R':Rs}(h:FN q [(k,R)]=some R'):q=k/\R'=R:=by
 rw[Cb] at h
 simp_all
theorem TrOK.look{hk:Nat->Option Rs}{m:Nat}{op:Op}(hkk:hk k=some R) (h:∀(c:Cx) (e:Operand->Value) (ty:TypeId),Good I c->W9 c L e->c.N k->Holds c k R->(∀ b,blk (c.ν k)=some b->c.O b)->∃ v,(execOp e ⟨none,op,ty, "", #[],none⟩).run P c.w=.ok (.value v) c.w/\Rep c s v):TrOK P I L hk m op ⟨s,[(k,R)],[(k,R)],true,0⟩:=by
 refine⟨fun ty=>Hq fun c e hG he hP=>?_,fun q R' hq=>by obtain⟨rfl,rfl⟩:=IB hq;exact hkk,fun q hq=>.inl hq,fun _=>rfl⟩
 obtain⟨h1,h2,h3⟩:=MG hP
 obtain⟨v,hv,hr⟩:=h c e ty hG he h1 h2 h3
 exact⟨v,c.w,c.ν,hv,Ok.same hG.lt (fun k R hk=>hP.res k R hk) (fun k k' R R' b h h'=>hP.dist k k' R R' b h h') hr⟩
theorem A1v{off:Nat}(h:Rep c (.pa k off) u)(hν:c.ν k=.pointer (some ⟨b,0,none⟩)):u=.pointer (some ⟨b,off,none⟩):=by
 simp only[Rep] at h
 obtain⟨_,b',hb,rfl⟩:=h
 simp_all[blk]
theorem Vw.cs'(h:Vw w b us)(o:Nat):Cs w ⟨b,o,none⟩ (us.drop o):=h.cs o
theorem kS{e sz n:Nat}{v:Value}{vs:List Value}(h:w.ownsG 0 e sz v n vs)(hb:blk v=some b)(o:Nat):Cs w ⟨b,o,none⟩ (vs.drop o):=by
 rcases h.2 with⟨rfl,_⟩|⟨g,cap,cur,fz,rfl,_⟩
 ·cases hb
 ·simp only[blk,Option.some.injEq] at hb
  subst hb
  have h0:Cs w ⟨g,0,none⟩ vs:=fun j u hu=>h.cells (g:=g) rfl j u hu
  have:=h0.drop o
  grind[Addr.add]
theorem RI{α:Type}{l:List α}{i:Int}{a:α}(h:lget0 l i=some a):0<=i/\l[i.toNat]?=some a:=by
 simp_all[lget0]
theorem Tn{β:Type}(sz:Nat):∀(cs:List (List β)) (i:Nat) (c:List β),(∀ c∈cs,c.length=sz)->cs[i]?=some c->∃ r,cs.flatten.drop (i*sz)=c++r
 | [],i,c,_,h=>zbC
 | a::cs,0,c,hs,h=>by
  simp_all
 | a::cs,i+1,c,hs,h=>by
  obtain⟨r,hr⟩:=Tn sz cs i c (fun c hc=>hs c (List.mem_cons_of_mem _ hc)) za0
  refine⟨r,?_⟩
  rw[List.flatten_cons,Nat.add_mul,Nat.one_mul,Nat.add_comm,<-List.drop_drop]
  simp_all
theorem F6.lens{t:Ty}{c:Cx}:∀ {l:List (El t)} {cs:List (List Value)},F6 (fun x m=>Ai c (flat t x) m) l cs->∀ m∈cs,m.length=t.n
 | [],[],_,m,hm=>by simp at hm
 | x::l,a::cs,h,m,hm=>by
  rcases List.mem_cons.1 hm with rfl|hm
  ·rw[h.1.len,Q4]
  ·exact F6.lens h.2 m hm
 | [],_::_,h,_,_|_::_,[],h,_,_=>h.elim
theorem zh(hT:TTok P I T){hk:Nat->Option Rs}{m:Nat}{x:Operand}{R:Type}{K:Tr->Option R}{r:R}(h:WC T hk t (Gl L x) K=some r):∃ tr,K tr=some r/\TrOK P I L hk m (.load t x) tr:=by
 unfold WC at h
 try simp only[xN,xO] at h
 split at h
 ·rename_i i k o hi hx
  have hti:=hT _ _ hi
  split at h
  ·rename_i cells hkk
   split at h
   ·rename_i s hs
    refine⟨_,h,TrOK.look hkk fun c e ty hG he hN hH hO=>?_⟩
    obtain⟨b,us,h2,h3,h4,h5⟩:=hH
    obtain⟨v,hv,hr⟩:=Yk (w:=c.w) hti hs (h4.drop o) (fun u hu=>h5 u (List.mem_of_mem_drop hu)) (h3.cs o)
    exact⟨v,RH (A1v (he x _ hx) h2) hv,hr⟩
   ·cases h
  ·cases h
 ·rename_i i k j sz o hi hx
  have hti:=hT _ _ hi
  split at h
  ·rename_i e t' l hkk
   cases hsz:Nat.beq sz t'.n with
   | false=>simp_all
   | true =>
    rw[hsz] at h
    have hsz:sz=t'.n:=by simpa using hsz
    simp only[cond_true] at h
    obtain⟨a,ha,h⟩:=Option.bind_eq_some_iff.1 h
    split at h
    ·rename_i s hs
     refine⟨_,h,TrOK.look hkk fun c e ty hG he hN hH hO=>?_⟩
     obtain⟨vs,h2,h3,h4⟩:=hH
     have hp:=he x _ hx
     simp only[Rep] at hp
     obtain⟨_,b,hb,hu⟩:=hp
     obtain⟨hj,hla⟩:=RI ha
     obtain⟨cs,rfl,hcs⟩:=h3.flatL
     obtain⟨us,hus,hru⟩:=hcs.get hla
     obtain⟨rest,hrest⟩:=Tn t'.n cs j.toNat us (F6.lens hcs) hus
     have hcell:=kS h2 hb (j.toNat*sz+o)
     rw[<-List.drop_drop,hsz,hrest] at hcell
     have hul:us.length=t'.n:=by rw[hru.len,Q4]
     have hcell2:Cs c.w ⟨b,j.toNat*sz+o,none⟩ (us.drop o):=fun q u hq=>by
      rw[hsz]
      refine hcell q u ?_
      grind
     obtain⟨v,hv,hr⟩:=Yk (w:=c.w) hti hs (hru.drop o) (fun u hu=>UQ hru u (List.mem_of_mem_drop hu)) hcell2
     simp_all[RH]
    ·cases h
  ·rename_i e sz' n cells hkk
   split at h
   ·rename_i s hs
    refine⟨_,h,TrOK.look hkk fun c e ty hG he hN hH hO=>?_⟩
    obtain⟨vs,h2,h3,h4⟩:=hH
    have hp:=he x _ hx
    simp only[Rep] at hp
    obtain⟨_,b,hb,hu⟩:=hp
    obtain⟨v,hv,hr⟩:=Yk (w:=c.w) hti hs (h3.drop _) (fun u hu=>h4 u (List.mem_of_mem_drop hu)) (kS h2 hb (j.toNat*sz+o))
    simp_all[RH]
   ·cases h
  ·cases h
 ·rename_i i l hi hx
  have hti:=hT _ _ hi
  split at h
  ·rename_i s hs
   refine⟨_,h,TrOK.mk0 fun ty=>DY fun c e hG he=>?_⟩
   have hp:=he x _ hx
   simp only[Rep] at hp
   obtain⟨p,us,hu,h2,h3,h4⟩:=hp
   obtain⟨v,hv,hr⟩:=Yk (w:=c.w) hti hs h2 h3 (h4 c.w (Stp.refl _ _))
   simp_all[RH]
  ·cases h
 ·cases h
end
end Go.Ax
namespace Go.Ax
open Go Go.RowKit Go.Eng
set_option linter.unusedVariables false
set_option linter.unusedSimpArgs false
variable {t:TypeId}{x:Operand}{f:Nat}{pl:List (Nat×Nat)}{o:Nat}{p:Addr}{n:Nat}{w:World}
section
variable {P:Program}{I:World->Prop}{L:LX}{ty:TypeId}{T:TT}
theorem JP{u:Und}(h:Xy T t=some u):∃ i,UW t T=some i/\i.u=u:=by
 grind[Xy]
theorem Yl{α β:Type}{f:α->Option β}:∀ {l:List α} {r:List β} {i:Nat} {y:β},l.mapM f=some r->r[i]?=some y->∃ x,l[i]?=some x/\f x=some y
 | [],r,i,y,h,hy=>zaD
 | a::l,r,i,y,h,hy=>by
  rw[List.mapM_cons] at h
  obtain⟨b,hb,h⟩:=Option.bind_eq_some_iff.1 h
  obtain⟨bs,hbs,h⟩:=Option.bind_eq_some_iff.1 h
  obtain rfl:b::bs=r:=za0
  cases i with
  | zero=>simp_all
  | succ i=>simp only[List.getElem?_cons_succ] at hy ⊢;exact Yl hbs hy
theorem A1w(hT:TTok P I T){sc:List Bool}(h:Xy T t=some (.fld pl sc)):Yh P t=some pl/\zf P t=some sc:=by
 obtain⟨i,hi,hu⟩:=JP h
 have:=(hT _ _ hi).und
 simp_all
theorem kT(h:Yh P t=some pl)(hf:pl[f]?=some (o,n)):∃ fs fd i,P.underlying t=some (.struct fs)/\fs[f]?=some fd/\P.info? fd.type=some i/\fd.offset=o/\i.size=n:=by
 unfold Yh at h
 split at h
 ·rename_i fs hfs
  obtain⟨fd,h1,h2⟩:=Yl h hf
  simp_all
 ·cases h
theorem A1x{sc:List Bool}{b:Bool}(h:zf P t=some sc)(hf:sc[f]?=some b):∃ fs fd d,P.underlying t=some (.struct fs)/\fs[f]?=some fd/\P.underlying fd.type=some d/\Oi d=b:=by
 unfold zf at h
 split at h
 ·rename_i fs hfs
  obtain⟨fd,h1,h2⟩:=Yl h hf
  simp_all
 ·cases h
theorem kU(h:Yh P t=some pl)(hf:pl[f]?=some (o,n))(hn:Nat.beq n 0=false):(Instr.fieldAt t (.pointer (some p)) f).run P w=.ok (.pointer (some (p.add o))) w:=by
 obtain⟨fs,fd,i,h1,h2,h3,rfl,rfl⟩:=kT h hf
 have hsz:i.size≠0:=fun e=>zaD
 simp_all[Instr.fieldAt,run_underlying,Instr.sureAddr,fieldPlace,sizeOf,typeInfo]
theorem add_lit(b o j:Nat):(⟨b,o,none⟩:Addr).add j=⟨b,o+j,none⟩:=by
 simp_all[Addr.add]
theorem WS{e:Operand->Value}(hx:e x=.pointer (some p))(h:Yh P t=some pl)(hf:pl[f]?=some (o,n))(hn:Nat.beq n 0=false):(execOp e ⟨none,.fieldAddr t x f,ty, "", #[],none⟩).run P w=.ok (.value (.pointer (some (p.add o)))) w:=by
 have h1:execOp e ⟨none,.fieldAddr t x f,ty, "", #[],none⟩=(do pure (.value (<-Instr.fieldAt t (e x) f))):=rfl
 rw[h1,hx]
 simp[kU h hf hn]
theorem zi(hT:TTok P I T){hk:Nat->Option Rs}{m:Nat}{R:Type}{K:Tr->Option R}{r:R}(h:WE T t (Gl L x) f K=some r):∃ tr,K tr=some r/\TrOK P I L hk m (.fieldAddr t x f) tr:=by
 have hpl:∀ {o n},(A1l T t).bind (·[f]?)=some (o,n)->∃ pl,Yh P t=some pl/\pl[f]?=some (o,n):=by
  intro o n h
  obtain⟨pl,h1,h2⟩:=Option.bind_eq_some_iff.1 h
  unfold A1l at h1
  split at h1
  ·rename_i pl' sc hu
   obtain rfl:=Option.some.inj h1
   exact⟨pl',(A1w hT hu).1,h2⟩
  ·cases h1
 unfold WE at h
 try simp only[xN,xO] at h
 split at h
 ·rename_i o' n k o hp hx
  obtain⟨pl,h1,h2⟩:=hpl hp
  cases hn:Nat.beq n 0 with
  | true=>simp_all
  | false =>
   rw[hn] at h
   refine⟨_,h,TrOK.mk0 fun ty=>DY fun c e hG he=>?_⟩
   have hv:=he x _ hx
   simp only[Rep] at hv
   obtain⟨hN,b,hb,hu⟩:=hv
   exact⟨_,WS hu h1 h2 hn,by simp only[Rep,add_lit];simp_all⟩
 ·rename_i o' n k j s o hp hx
  obtain⟨pl,h1,h2⟩:=hpl hp
  cases hn:Nat.beq n 0 with
  | true=>simp_all
  | false =>
   rw[hn] at h
   refine⟨_,h,TrOK.mk0 fun ty=>DY fun c e hG he=>?_⟩
   have hv:=he x _ hx
   simp only[Rep] at hv
   obtain⟨hN,b,hb,hu⟩:=hv
   exact⟨_,WS hu h1 h2 hn,by simp_all[Rep,add_lit,Nat.add_assoc]⟩
 ·rename_i o' n l hp hx
  obtain⟨pl,h1,h2⟩:=hpl hp
  cases hn:Nat.beq n 0 with
  | true=>simp_all
  | false =>
   rw[hn] at h
   refine⟨_,h,TrOK.mk0 fun ty=>DY fun c e hG he=>?_⟩
   have hv:=he x _ hx
   simp only[Rep] at hv
   obtain⟨p,us,hu,h3,h4,h5⟩:=hv
   exact⟨_,WS hu h1 h2 hn,by simp only[Rep];exact⟨_,us.drop o',rfl,h3.drop _,fun u hu=>h4 u (List.mem_of_mem_drop hu),fun w' hs=>(h5 w' hs).drop _⟩⟩
 ·cases h
theorem Ai.set{c:Cx}{cells l:List AV}{us vs:List Value}(h:Ai c cells us)(k:Ai c l vs)(off:Nat):Ai c (cells.take off++l++cells.drop (off+l.length)) (us.take off++vs++us.drop (off+vs.length)):=by
 rw[k.len]
 exact((h.take off).app k).app (h.drop _)
theorem xR{α:Type}{us vs:List α}{j:Nat}{u:α}(h:u∈us.take o++vs++us.drop j):u∈us\/u∈vs:=by
 grind
theorem Ym{e:Operand->Value}{y:Operand}{vs:List Value}{w':World}(hx:e x=.pointer (some p))(hy:(e y).cells=vs.toArray)(hsz:(P.info? t).map (·.size)=some n)(hn:vs.length=n)(h:(storeCells p vs).run P w=.ok () w'):(execOp e ⟨none,.store t x y,ty, "", #[],none⟩).run P w=.ok .skip w':=by
 obtain⟨i,hi,hs⟩:=Option.map_eq_some_iff.1 hsz
 have h0:execOp e ⟨none,.store t x y,ty, "", #[],none⟩=(do Instr.storeAt t (e x) (e y);pure .skip):=rfl
 simp_all[Instr.storeAt,Instr.sureAddr,storeVar,sizeOf,typeInfo]
theorem XM{β:Type}(sz:Nat):∀(cs:List (List β)),(∀ c∈cs,c.length=sz)->cs.flatten.length=cs.length*sz
 | [],_=>zam
 | a::cs,h=>by
  rw[List.flatten_cons,List.length_append,XM sz cs (fun c hc=>h c (List.mem_cons_of_mem _ hc)),h a (List.mem_cons_self ..),List.length_cons,Nat.add_mul];omega
theorem XN{β:Type}(sz:Nat)(vs:List β)(o:Nat):∀(cs:List (List β)) (i:Nat) (c:List β),(∀ c∈cs,c.length=sz)->cs[i]?=some c->o+vs.length<=sz ->
  cs.flatten.take (i*sz+o)++vs++cs.flatten.drop (i*sz+o+vs.length)=(cs.set i (c.take o++vs++c.drop (o+vs.length))).flatten
 | [],i,c,_,h,_=>zbC
 | a::cs,0,c,hs,h,hle=>by
  grind
 | a::cs,i+1,c,hs,h,hle=>by
  have ha:=hs a (List.mem_cons_self ..)
  have ih:=XN sz vs o cs i c (fun c hc=>hs c (List.mem_cons_of_mem _ hc)) za0 hle
  simp only[List.flatten_cons,List.set_cons_succ]
  rw[<-ih]
  have e1:(i+1)*sz+o=a.length+(i*sz+o):=zaJ
  simp_all[List.take_append,List.take_of_length_le,Nat.add_assoc,List.drop_append,List.drop_eq_nil_of_le]
theorem F6.set{α β:Type}{R:α->β->Prop}:∀ {l:List α} {m:List β} (i:Nat) {a:α} {b:β},F6 R l m->R a b->F6 R (l.set i a) (m.set i b)
 | [],[],i,a,b,_,_=>by simp[F6]
 | x::l,y::m,0,a,b,h,hr=>⟨hr,h.2⟩
 | x::l,y::m,i+1,a,b,h,hr=>⟨h.1,F6.set i h.2 hr⟩
 | [],_::_,_,_,_,h,_|_::_,[],_,_,_,h,_=>h.elim
theorem rF(hT:TTok P I T){hk:Nat->Option Rs}{m:Nat}{y:Operand}{R:Type}{K:Tr->Option R}{r:R}(h:RD T hk t (Gl L x) ((Gl L y).bind cellsA) K=some r):∃ tr,K tr=some r/\TrOK P I L hk m (.store t x y) tr:=by
 unfold RD at h
 try simp only[xN,xO] at h
 split at h
 ·rename_i i k o l hi hx hy
  have hti:=hT _ _ hi
  obtain⟨sy,hsy,hcl⟩:=Option.bind_eq_some_iff.1 hy
  split at h
  ·rename_i cells hkk
   cases hc:(Nat.beq l.length i.size&&Nat.ble (o+l.length) cells.length) with
   | false=>simp_all
   | true =>
    rw[hc] at h
    simp only[Bool.and_eq_true] at hc
    have hln:l.length=i.size:=zaD
    have hle:o+l.length<=cells.length:=zaD
    refine⟨_,h,⟨fun ty=>kP fun c e hG he hP=>?_,fun q R' hq=>by obtain⟨rfl,rfl⟩:=IB hq;exact hkk,fun q hq=>.inl ((DI _ _ _).2 ((DI _ _ _).1 hq)),fun h=>by cases h⟩⟩
    obtain⟨hN,hH,hO⟩:=MG hP
    obtain⟨b,us,h2,h3,h4,h5⟩:=hH
    have hu:=A1v (he x _ hx) h2
    obtain⟨vs,hvs,hrv,hone⟩:=OC (he y _ hsy) hcl
    have hvl:=hrv.len
    have hul:=h4.len
    obtain⟨TT',hTT⟩:=id h3
    have hst:=run_storeCells_at P b o TT' vs 0 us.toArray c.w hTT zaC hone
    simp only[Nat.add_zero] at hst
    have hB':Vw (c.w.setRow b (us.take o++vs++us.drop (o+vs.length)).toArray) b (us.take o++vs++us.drop (o+vs.length)):=h3.setRow
    have hstp:Stp (fun x=>blk (c.ν k)=some x) c.w (c.w.setRow b (us.take o++vs++us.drop (o+vs.length)).toArray):=(Stp.of_grown (MR c.w b _)).mono fun i _ h=>by rw[h2];exact h
    have hbO:c.O b:=hO b (by rw[h2];rfl)
    have hle2:Cx.Le none c ⟨c.N,c.ν,c.O,c.w.setRow b (us.take o++vs++us.drop (o+vs.length)).toArray⟩:=⟨fun k _ h=>⟨h,rfl⟩,fun w'' h=>hstp.then h (fun i _ e=>hO i e) fun i _ e=>e⟩
    refine⟨_,c.ν,Ym hu hvs hti.sz zaa zaa,Ok.change hN hO hG.lt hstp ⟨b,_,h2,hB',Ai.le hle2 _ _ (EM _) (h4.set hrv o),fun u hu=>?_⟩ (by simp only[Rep])⟩
    grind
  ·cases h
 ·rename_i i k j sz o l hi hx hy
  have hti:=hT _ _ hi
  obtain⟨sy,hsy,hcl⟩:=Option.bind_eq_some_iff.1 hy
  split at h
  ·rename_i e' t' ls hkk
   cases hc:(Nat.beq sz t'.n&&Nat.beq l.length i.size&&Nat.ble (o+l.length) t'.n) with
   | false=>simp_all
   | true =>
    rw[hc] at h
    simp only[Bool.and_eq_true] at hc
    have hsz:sz=t'.n:=zaD
    have hln:l.length=i.size:=zaD
    have hle:o+l.length<=t'.n:=zaD
    simp only[cond_true] at h
    obtain⟨a,ha,h⟩:=Option.bind_eq_some_iff.1 h
    split at h
    ·rename_i a' hunf
     refine⟨_,h,⟨fun ty=>kP fun c e hG he hP=>?_,fun q R' hq=>by obtain⟨rfl,rfl⟩:=IB hq;exact hkk,fun q hq=>.inl ((DI _ _ _).2 ((DI _ _ _).1 hq)),fun h=>by cases h⟩⟩
     obtain⟨hN,hH,hO⟩:=MG hP
     obtain⟨vs,h2,h3,h4⟩:=hH
     have hp:=he x _ hx
     simp only[Rep] at hp
     obtain⟨_,b,hb,hu⟩:=hp
     obtain⟨hj,hla⟩:=RI ha
     obtain⟨cs,rfl,hcs⟩:=h3.flatL
     obtain⟨us,hus,hru⟩:=hcs.get hla
     obtain⟨ws,hws,hrw,hone⟩:=OC (he y _ hsy) hcl
     have hwl:=hrw.len
     have hul:us.length=t'.n:=by rw[hru.len,Q4]
     have hlens:=F6.lens hcs
     have hjlt:j.toNat<ls.length:=(List.getElem?_eq_some_iff.1 hla).1
     rcases h2.2 with⟨hv,_⟩|⟨g,cap,cur,fz,hv,hg0,hg,hnc,hcm,hcs',htake,hfz⟩
     ·omega
     ·rw[hv] at hb
      simp only[blk,Option.some.injEq] at hb
      subst hb
      have hbnd:j.toNat*t'.n+o+ws.length<=ls.length*t'.n:=by
       have:(j.toNat+1)*t'.n<=ls.length*t'.n:=Nat.mul_le_mul_right _ hjlt
       grind
      have hcap:ls.length*t'.n<=cap*t'.n:=Nat.mul_le_mul_right _ hnc
      have hst:=Fj (P:=P) g (j.toNat*t'.n+o) e' fz ws 0 cur c.w hg hfz zaa hone
      simp only[Nat.add_zero] at hst
      have hstp:Stp (fun x=>blk (c.ν k)=some x) c.w (c.w.setRow g (cur.toList.take (j.toNat*t'.n+o)++ws++cur.toList.drop (j.toNat*t'.n+o+ws.length)).toArray):=(Stp.of_grown (MR c.w g _)).mono fun i _ h=>by rw[hv];exact h
      have hle2:Cx.Le none c ⟨c.N,c.ν,c.O,c.w.setRow g (cur.toList.take (j.toNat*t'.n+o)++ws++cur.toList.drop (j.toNat*t'.n+o+ws.length)).toArray⟩:=⟨fun k _ h=>⟨h,rfl⟩,fun w'' h=>hstp.then h (fun i _ e=>hO i e) fun i _ e=>e⟩
      have hnew:Ai ⟨c.N,c.ν,c.O,c.w.setRow g (cur.toList.take (j.toNat*t'.n+o)++ws++cur.toList.drop (j.toNat*t'.n+o+ws.length)).toArray⟩ (flatL t' (lset0 ls j a')) (cs.set j.toNat (us.take o++ws++us.drop (o+ws.length))).flatten:=by
       refine Ai.of_flatL (F6.set _ (hcs.mono fun x m hm=>Ai.le hle2 _ _ (EM _) hm) ?_)
       refine Ua hunf ?_
       exact Ai.le hle2 _ _ (EM _) (hru.set hrw o)
      have hfl:cs.flatten.take (j.toNat*t'.n+o)++ws++cs.flatten.drop (j.toNat*t'.n+o+ws.length)=(cs.set j.toNat (us.take o++ws++us.drop (o+ws.length))).flatten:=XN t'.n ws o cs j.toNat us hlens hus zaa
      have hfll:cs.flatten.length=ls.length*t'.n:=zaJ
      refine⟨_,c.ν,Ym (p:=⟨g,j.toNat*t'.n+o,none⟩) (by rw[hu,hsz]) hws hti.sz zaa zaa,Ok.change hN hO hG.lt hstp ⟨_,?_,hnew,fun u hu=>Jm hnew u hu⟩ (by simp only[Rep])⟩
      refine⟨?_,.inr ⟨g,cap,_,fz,by grind[lset0],Nat.zero_le _,setRow_heap c.w g cur _ e' _ hg,by grind[lset0],hcm,?_,?_,?_⟩⟩
      ·rw[<-hfl];simp only[List.length_append,List.length_take,List.length_drop,hfll,lset0,List.length_set];omega
      ·grind
      ·simp only[lset0,List.length_set]
       rw[<-hfl,<-htake]
       have e1:(cur.toList.take (ls.length*t'.n)).take (j.toNat*t'.n+o)=cur.toList.take (j.toNat*t'.n+o):=zaJ
       rw[e1,List.take_append,List.take_of_length_le zaC]
       congr 1
       rw[List.drop_take]
       congr 1
       simp only[List.length_append,List.length_take,Array.length_toList];omega
      ·refine cast (congrArg (fun n=>Q3 n fz) ?_) hfz
       grind
    ·cases h
  ·cases h
 ·cases h
end
end Go.Ax
