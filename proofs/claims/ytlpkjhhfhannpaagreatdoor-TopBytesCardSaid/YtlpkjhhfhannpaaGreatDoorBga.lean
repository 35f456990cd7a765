/-
  Own texts, laid together for this claim: the rules that every walk uses, which claim nothing of any program.
-/
import Derived.WalkKit
import Derived.Deep.LoopGhost
import Derived.Still
import Derived.Laws.CopyOwn
import Derived.Orders
import Derived.Laws.IdiomStrings
import Derived.Lib.AppendStr
import Derived.Lib.AppendZerosOnto
import Derived.LoopN
import Derived.Laws.StructEq
import Derived.ChangeKeysEq
import Derived.Lib.SliceRun
import Derived.WalkSpells
set_option linter.all false
theorem zaa{p:Prop}(h:p:=by omega):p:=h
theorem zab{p:Prop}(h:p:=by(try simp only[Aq] at *);unfold DI;dsimp only;(repeat(first|rw[if_pos (by omega)]|rw[if_neg (by omega)]));done):p:=h
theorem zac{p:Prop}(h:p:=by first|omega|decide|assumption|(simp only[LL] at *<;>omega)|(simp;omega)):p:=h
theorem zad{p:Prop}(h:p:=by unfold Dt;(repeat(first|rw[if_pos (by first|omega|decide|assumption|(simp only[LL] at *<;>omega)|(simp;omega))]|rw[if_neg (by first|omega|decide|assumption|(simp only[LL] at *<;>omega)|(simp;omega))]));try simp only[NO]):p:=h
theorem zae{p:Prop}(h:p:=by unfold Fg;(repeat(first|rw[if_pos (by first|omega|decide|assumption|(simp only[LL] at *<;>omega)|(simp;omega))]|rw[if_neg (by first|omega|decide|assumption|(simp only[LL] at *<;>omega)|(simp;omega))]));try simp only[NO]):p:=h
theorem zaf{p:Prop}(h:p:=by(unfold CY;dsimp only;(repeat(first|rw[if_pos (by first|assumption|omega)]|rw[if_neg (by first|assumption|omega)]));try rfl)):p:=h
theorem zah{p:Prop}(h:p:=by(simp only[BX,CG,Bh,Ba,A7,A8,AU,AO,zen_len,LL] at *<;>omega)):p:=h
theorem zai{p:Prop}(h:p:=by first|omega|decide|assumption|(simp only[A8,Am,AO,Be,DT,Dh,A7,BH,Aw,BA,LL] at *<;>omega)|(simp;omega)):p:=h
theorem zaj{p:Prop}(h:p:=by decide):p:=h
theorem zak{p:Prop}(h:p:=by(simp only[A7,Bo,Bz,C9,Bq,Bd,LL] at *<;>omega)):p:=h
theorem zal{p:Prop}(h:p:=by unfold BG;(repeat(first|rw[if_pos (by first|omega|decide|assumption|(simp only[A7,Bo,Bz,C9,Bq,Bd,LL] at *<;>omega)|(simp;omega))]|rw[if_neg (by first|omega|decide|assumption|(simp only[A7,Bo,Bz,C9,Bq,Bd,LL] at *<;>omega)|(simp;omega))]));try rfl):p:=h
theorem zam{p:Prop}(h:p:=by first|omega|decide|assumption|(simp only[A7,EY,Ee,EM,DZ,LL] at *<;>omega)|(simp;omega)):p:=h
theorem zan{p:Prop}(h:p:=by(simp only[Dw,BX,CG,Bh,EF,Ba,A7,BH,Aw,BA,A8,EK,AU,Am,AO,LL] at *<;>omega)):p:=h
theorem zao{p:Prop}(h:p:=by unfold Bg;(repeat(first|rw[if_pos (by first|omega|decide|assumption|(simp only[LL] at *<;>omega)|(simp;omega))]|rw[if_neg (by first|omega|decide|assumption|(simp only[LL] at *<;>omega)|(simp;omega))]));try simp only[NO]):p:=h
theorem zaq{p:Prop}(h:p:=by unfold PI;(repeat(first|rw[if_pos (by first|omega|decide|assumption|(simp only[LL] at *<;>omega)|(simp;omega))]|rw[if_neg (by first|omega|decide|assumption|(simp only[LL] at *<;>omega)|(simp;omega))]));try simp only[NO]):p:=h
theorem zar{p:Prop}(h:p:=by unfold IW;(repeat(first|rw[if_pos (by first|omega|decide|assumption|(simp only[A7,EY,Ee,EM,DZ,LL] at *<;>omega)|(simp;omega))]|rw[if_neg (by first|omega|decide|assumption|(simp only[A7,EY,Ee,EM,DZ,LL] at *<;>omega)|(simp;omega))]));try simp only[NO]):p:=h
theorem zas{p:Prop}(h:p:=by(congr 3;simp only[GY,JR,II,Hl,DW,H7,AP];first|rfl|(rw[decide_eq_decide];omega)|(simp;omega))):p:=h
theorem zat{p:Prop}(h:p:=by simp):p:=h
theorem zau{p:Prop}(h:p:=by unfold uniq;(repeat(first|rw[if_pos (by first|omega|decide|assumption|(simp only[A8,Am,AO,Be,DT,Dh,A7,BH,Aw,BA,LL] at *<;>omega)|(simp;omega))]|rw[if_neg (by first|omega|decide|assumption|(simp only[A8,Am,AO,Be,DT,Dh,A7,BH,Aw,BA,LL] at *<;>omega)|(simp;omega))]));try simp only[NO]):p:=h
theorem zav{p:Prop}(h:p:=by unfold MW;(repeat(first|rw[if_pos (by first|omega|decide|assumption|(simp only[A8,Am,AO,Be,DT,Dh,A7,BH,Aw,BA,LL] at *<;>omega)|(simp;omega))]|rw[if_neg (by first|omega|decide|assumption|(simp only[A8,Am,AO,Be,DT,Dh,A7,BH,Aw,BA,LL] at *<;>omega)|(simp;omega))]));try simp only[NO]):p:=h
theorem zaw{p:Prop}(h:p:=by kernel_rfl):p:=h
theorem zax{p:Prop}(h:p:=by first|omega|decide|assumption|(simp only[A7,Bo,Bz,C9,Bq,Bd,LL] at *<;>omega)|(simp;omega)):p:=h
theorem zay{p:Prop}(h:p:=by(simp only[Be,A7,BH,Aw,BA,DD,EE,A8,Am,AU,AO,DL,LL] at *<;>omega)):p:=h
theorem zaz{p:Prop}(h:p:=by first|assumption|omega):p:=h
theorem zaA{p:Prop}(h:p:=by first|omega|decide|assumption|(simp only[A7,LL] at *<;>omega)|(simp;omega)):p:=h
theorem zaB{p:Prop}(h:p:=by unfold lw;(repeat(first|rw[if_pos (by first|omega|decide|assumption|(simp only[LL] at *<;>omega)|(simp;omega))]|rw[if_neg (by first|omega|decide|assumption|(simp only[LL] at *<;>omega)|(simp;omega))]));try simp only[NO]):p:=h
theorem zaC{p:Prop}(h:p:=by simp only[k1];first|(rw[if_pos (by omega)];rfl)|(rw[if_neg (by omega),if_pos (by omega)];rfl)|(rw[if_neg (by omega),if_neg (by omega),if_pos (by omega)];rfl)|(rw[if_neg (by omega),if_neg (by omega),if_neg (by omega)];rfl)):p:=h
theorem zaD{p:Prop}(h:p:=by simp;omega):p:=h
theorem zaE{p:Prop}(h:p:=by simp only[Jd,MC];simp only[f1];first|rw[if_pos (by omega)]|rw[if_neg (by omega),if_pos (by omega)]|rw[if_neg (by omega),if_neg (by omega),if_pos (by omega)]|rw[if_neg (by omega),if_neg (by omega),if_neg (by omega)]):p:=h
theorem zaF{p:Prop}(h:p:=by(simp only[LL] at *<;>omega)):p:=h
theorem zaG{p:Prop}(h:p:=by first|omega|decide|assumption|(simp only[A7,BH,Aw,BA,DD,EE,A8,Am,AO,DL,LL] at *<;>omega)|(simp;omega)):p:=h
theorem zaH{p:Prop}(h:p:=by first|omega|decide|assumption|(simp only[BX,CG,Bh,Ba,A7,LL] at *<;>omega)|(simp;omega)):p:=h
theorem zaI{p:Prop}(h:p:=by(simp only[BX,CG,Bh,Ba,A7,A8,AU,AO,LL] at *<;>omega)):p:=h
theorem zaJ{p:Prop}(h:p:=by simp only[List.length_append,List.length_cons,List.length_nil];omega):p:=h
theorem zaK{p:Prop}(h:p:=by(simp only[A8,Am,AO,Be,DT,Dh,A7,BH,Aw,BA,LL] at *<;>omega)):p:=h
theorem zaL{p:Prop}(h:p:=by simp_all):p:=h
theorem zaM{p:Prop}(h:p:=by first|omega|decide|assumption|(simp only[A8,Am,AO,MV,C9,BH,Aw,BA,LL] at *<;>omega)|(simp;omega)):p:=h
theorem zaN{p:Prop}(h:p:=by(simp only[A7,BH,Aw,BA,DD,EE,A8,Am,AU,AO,DL,LL] at *<;>omega)):p:=h
theorem zaO{p:Prop}(h:p:=by simp[ren]):p:=h
theorem zaP{p:Prop}(h:p:=by rw[List.length_append];omega):p:=h
theorem zaQ{p:Prop}(h:p:=by decide +kernel):p:=h
theorem zaR{p:Prop}(h:p:=by(unfold Ef;(repeat(first|rw[if_pos (by omega)]|rw[if_neg (by omega)]));try rfl)):p:=h
theorem zaS{p:Prop}(h:p:=by(exact CB)):p:=h
theorem zaT{p:Prop}(h:p:=by(simp only[Dw,BX,CG,EF,Ba,A7,BH,Aw,BA,A8,EK,AU,Am,AO,LL] at *<;>omega)):p:=h
theorem zaU{p:Prop}(h:p:=by grind):p:=h
theorem zaV{p:Prop}(h:p:=by rw[AP];rfl):p:=h
theorem zaW{p:Prop}(h:p:=by(rw[Ac];simp only[List.cons_append,List.nil_append,List.forall_mem_cons];refine⟨by simp,by omega,by first|omega|simp,hbm⟩)):p:=h
theorem zaX{p:Prop}(h:p:=by rw[List.length_take];omega):p:=h
theorem zaY{p:Prop}(h:p:=by rw[List.length_drop];omega):p:=h
theorem zaZ{p:Prop}(h:p:=by simp only[Ac];unfold zerosN;simp;omega):p:=h
theorem za0{p:Prop}(h:p:=by cases h):p:=h
theorem za1{p:Prop}(h:p:=by simp only;omega):p:=h
theorem za2{p:Prop}(h:p:=by simp only[A8,AU,AO];omega):p:=h
theorem za3{p:Prop}(h:p:=by simp only[builtin,List.map_toArray,List.map_cons,List.map_nil,Sem.run_bind,hr _,Result.andThen_ok,Sem.run_pure]):p:=h
theorem za4{p:Prop}(h:p:=by rw[show Tryz.prog.cellsOf 3=1 from by kernel_rfl];rfl):p:=h
theorem za5{p:Prop}(h:p:=by rw[FP,EU];rfl):p:=h
theorem za6{p:Prop}(h:p:=by simp only[Rep];exact⟨.inr trivial,by simp,TU h2⟩):p:=h
theorem za7{p:Prop}(h:p:=by rw[<-hx,List.length_take,List.length_drop];omega):p:=h
theorem za8{p:Prop}(h:p:=by simpa using h):p:=h
theorem za9{p:Prop}(h:p:=by first|assumption|exact⟨by assumption,by assumption⟩|omega):p:=h
theorem zba{p:Prop}(h:p:=by have:=FQ (b:=b) (at':=0) (e:=0) (size:=1) (Nat.zero_le _);rw[g0] at this;exact this):p:=h
theorem zbb{p:Prop}(h:p:=by have:=of_decide_eq_true hf;simp_all[lapp0]):p:=h
theorem zbc{p:Prop}(h:p:=by rw[show(UInt64.ofNat 9223372036854775808).toNat=9223372036854775808 from by decide];omega):p:=h
theorem zbd{p:Prop}(h:p:=by assumption):p:=h
theorem zbe{p:Prop}(h:p:=by rfl):p:=h
theorem zbf{p:Prop}(h:p:=by unfold JZ;exact decide_eq_false (by omega)):p:=h
theorem zbg{p:Prop}(h:p:=by rw[show Tryz.prog.cellsOf 22=1 from by kernel_rfl];rfl):p:=h
theorem zbh{p:Prop}(h:p:=by have:=JB (b:=b) (at':=p2) (e:=er2) (most:=32) k2;rw[g3] at this;exact this):p:=h
theorem zbi{p:Prop}(h:p:=by have:=FQ (b:=b) (at':=p0) (e:=er0) (size:=1) k0;rw[g1] at this;exact this):p:=h
theorem zbj{p:Prop}(h:p:=by have:=FQ (b:=b) (at':=p1) (e:=er1) (size:=1) k1;rw[g2] at this;exact this):p:=h
theorem zbk{p:Prop}(h:p:=by simpa [Nat.blt_eq] using h):p:=h
theorem zbl{p:Prop}(h:p:=by rw[hby];exact growslice_fits (by omega) (by omega)):p:=h
theorem zbm{p:Prop}(h:p:=by simpa using hx):p:=h
theorem zbn{p:Prop}(h:p:=by rw[Oj _ _ _ _ (Nat.le_refl _)];omega):p:=h
theorem zbo{p:Prop}(h:p:=by rw[show((j:Int)+1)=((j+1:Nat):Int) from by omega,<-A8k];rfl):p:=h
theorem zbp{p:Prop}(h:p:=by simp[Az,fieldsB,Hu];omega):p:=h
theorem zbq{p:Prop}(h:p:=by simp at h):p:=h
theorem zbr{p:Prop}(h:p:=by rw[show k+1+j=Df x+(k+1+j-Df x) from by omega];exact gq _ _):p:=h
theorem zbs{p:Prop}(h:p:=by rw[<-show t=64 from by omega,<-hs,List.take_of_length_le (by omega)]):p:=h
theorem zbt{p:Prop}(h:p:=by(simp only[A7,LL] at *<;>omega)):p:=h
theorem zbu{p:Prop}(h:p:=by rw[EU,FP];rfl):p:=h
theorem zbv{p:Prop}(h:p:=by rw[Bv (by simp)];rfl):p:=h
theorem zbw{p:Prop}(h:p:=by rw[Ea];rfl):p:=h
theorem zbx{p:Prop}(h:p:=by rw[Qk _ _ _ _ 35 (fun c _=>DZ _ _ _) 35 (Nat.le_refl _)];omega):p:=h
theorem zby{p:Prop}(h:p:=by simp only[Rep,Af];exact⟨[],rfl,rfl⟩):p:=h
theorem zbz{p:Prop}(h:p:=by simp only[Rep]):p:=h
theorem zbA{p:Prop}(h:p:=by rw[List.take_take];congr 1;omega):p:=h
theorem zbB{p:Prop}(h:p:=by rw[List.length_append,hsl];omega):p:=h
theorem zbC{p:Prop}(h:p:=by simp_all[Region.wanted]):p:=h
theorem zbD{p:Prop}(h:p:=by simpa only[PL] using hn):p:=h
theorem zbE{p:Prop}(h:p:=by simp[Region.wanted,hy]):p:=h
theorem zbF{p:Prop}(h:p:=by rw[E5 hw];rfl):p:=h
theorem zbG{p:Prop}(h:p:=by simp_all[Pj,JY]):p:=h
theorem zbH{p:Prop}(h:p:=by simp at hl;omega):p:=h
namespace Go.Eng
open Go Go.RowKit
variable {op:Op}{ty:TypeId}{pos:String}{af:Array Edge}
inductive SV where
 | v (x:Value)
 | u8 (x:UInt8)
 | u32 (x:UInt32)
 | u64 (x:UInt64)
def byteV(b:UInt8):Value:=.int .u8 (b.toNat:Int)
def wordV(b:UInt32):Value:=.int .u32 (b.toNat:Int)
def IL(b:UInt64):Value:=.int .u64 (b.toNat:Int)
def SV.den:SV->Value
 | .v x=>x
 | .u8 b=>byteV b
 | .u32 b=>wordV b
 | .u64 b=>IL b
def SV.of:Value->SV
 | .int .u8 (.ofNat n)=>bif Nat.blt n 256 then .u8 (UInt8.ofNat n) else .v (.int .u8 (.ofNat n))
 | .int .u32 (.ofNat n)=>bif Nat.blt n 4294967296 then .u32 (UInt32.ofNat n) else .v (.int .u32 (.ofNat n))
 | .int .u64 (.ofNat n)=>bif Nat.blt n 18446744073709551616 then .u64 (UInt64.ofNat n) else .v (.int .u64 (.ofNat n))
 | x=>.v x
theorem SV.den_of(x:Value):(SV.of x).den=x:=by
 unfold SV.of
 split
 ·rename_i n
  cases h:Nat.blt n 256
  ·rfl
  ·have hn:n<256:=zbk
   simp[SV.den,byteV,Nat.mod_eq_of_lt hn]
 ·rename_i n
  cases h:Nat.blt n 4294967296
  ·rfl
  ·have hn:n<4294967296:=zbk
   simp[SV.den,wordV,Nat.mod_eq_of_lt hn]
 ·rename_i n
  cases h:Nat.blt n 18446744073709551616
  ·rfl
  ·have hn:n<18446744073709551616:=zbk
   simp[SV.den,IL,Nat.mod_eq_of_lt hn]
 ·rfl
abbrev Lst:=List (Nat×SV)
def lkp(t:Nat):Lst->Option SV
 | []=>none
 | (d,v)::L=>bif Nat.beq t d then some v else lkp t L
def RD(L:Lst):Operand->Option SV
 | .tmp t=>lkp t L
 | .const c=>some (SV.of c)
 | .global g=>some (.v (.pointer (some ⟨g,0,none⟩)))
 | .func g=>some (.v (.func (.func g) #[] #[]))
def sG(a:Act)(L:Lst):Prop:=∀ t s,lkp t L=some s->a.tmps.getD t undef=s.den
def Val(e:Operand->Value)(L:Lst):Prop:=∀ x s,RD L x=some s->e x=s.den
theorem sG.val{a:Act}{L:Lst}(h:sG a L):Val a.eval L:=by
 intro x s hx
 cases x with
 | tmp t=>exact h t s hx
 | const c=>simp only[RD,Option.some.injEq] at hx;subst hx;exact(SV.den_of c).symm
 | global g|func g=>simp only[RD,Option.some.injEq] at hx;subst hx;rfl
theorem lkp_cons(t d:Nat)(v:SV)(L:Lst):lkp t ((d,v)::L)=if t=d then some v else lkp t L:=by
 simp_all[lkp]
theorem NM(xs:Array Value)(d:Nat)(v:Value)(h:d<xs.size):(xs.setIfInBounds d v).getD d undef=v:=by
 simp_all
theorem PM(xs:Array Value)(d t:Nat)(v:Value)(h:t≠d):(xs.setIfInBounds d v).getD t undef=xs.getD t undef:=by
 simp only[Array.getD_eq_getD_getElem?,Array.getElem?_setIfInBounds]
 grind
theorem sG.put{a:Act}{L:Lst}(h:sG a L){d:Nat}(s:SV)(hd:d<a.tmps.size):sG (a.put (some d) s.den) ((d,s)::L):=by
 intro t u hu
 rw[lkp_cons] at hu
 by_cases ht:t=d
 ·rw[if_pos ht] at hu
  obtain rfl:=Option.some.inj hu
  subst ht
  exact NM _ _ _ hd
 ·rw[if_neg ht] at hu
  show(a.tmps.setIfInBounds d s.den).getD t undef=u.den
  rw[PM _ _ _ _ ht]
  exact h t u hu
def Sub:Lst->Lst->Prop
 | [],_=>True
 | (t,v)::r,L=>lkp t L=some v/\Sub r L
theorem Sub.lkp{L' L:Lst}(h:Sub L' L){t:Nat}{v:SV}(ht:lkp t L'=some v):Go.Eng.lkp t L=some v:=by
 induction L' with
 | nil=>cases ht
 | cons p r ih =>
  obtain⟨d,u⟩:=p
  rw[lkp_cons] at ht
  by_cases e:t=d
  ·rw[if_pos e] at ht;obtain rfl:=Option.some.inj ht;rw[e];exact h.1
  ·rw[if_neg e] at ht;exact ih h.2 ht
theorem sG.sub{a:Act}{L L':Lst}(h:sG a L)(hs:Sub L' L):sG a L':=fun t s ht=>h t s (hs.lkp ht)
def Post:=Exit->Lst->World->Prop
def lift(n:Nat)(Q:Post):Exit->Act->World->Prop:=fun e a w=>a.tmps.size=n/\a.defers=[]/\∃ L,sG a L/\Q e L w
def FW(P:Program)(n:Nat)(c:Code)(Q:Post)(L:Lst)(w:World):Prop :=
 ∀ a:Act,a.tmps.size=n->a.defers=[]->sG a L->c.wp P (lift n Q) a w
def thn(next:Lst->World->Prop)(Q:Post):Post:=fun e L w=>match e with|.normal=>next L w|e=>Q e L w
def blk(id:Nat)(Q:Post):Post:=fun e L w=>match e with|.exit id'=>if id'=id then Q .normal L w else Q (.exit id') L w|e=>Q e L w
section
variable {P:Program}{n:Nat}{Q:Post}{L:Lst}{w:World}
theorem FW.mono{c:Code}{Q':Post}(h:FW P n c Q L w)(hq:∀ e L w,Q e L w->Q' e L w):FW P n c Q' L w :=
 fun a h1 h2 h3=>wp_mono (h a h1 h2 h3) fun e a w ⟨i,j,L,k,q⟩=>⟨i,j,L,k,hq _ _ _ q⟩
theorem FW.sub{c:Code}{L':Lst}(hs:Sub L' L)(h:FW P n c Q L' w):FW P n c Q L w :=
 fun a h1 h2 h3=>h a h1 h2 (h3.sub hs)
theorem IZ{x y:Code}(h:FW P n x (thn (fun L w=>FW P n y Q L w) Q) L w):FW P n (.seq x y) Q L w:=by
 intro a h1 h2 h3
 refine wp_seq (wp_mono (h a h1 h2 h3) ?_)
 rintro e a' w' ⟨i,j,L',k,q⟩
 cases e with
 | normal=>exact q a' i j k
 | exit id|goto l|ret|panic ch|outgrown=>exact⟨i,j,L',k,q⟩
theorem Gg(h:Q .normal L w):FW P n .skip Q L w:=fun a h1 h2 h3=>wp_skip ⟨h1,h2,L,h3,h⟩
theorem Gh{id:Nat}(h:Q (.exit id) L w):FW P n (.exit id) Q L w:=fun a h1 h2 h3=>wp_exit ⟨h1,h2,L,h3,h⟩
theorem Ia(h:Q .ret L w):FW P n .ret Q L w:=fun a h1 h2 h3=>wp_ret ⟨h1,h2,L,h3,h⟩
theorem QJ{c:Operand}{x y:Code}{t:Bool}(hc:RD L c=some (.v (.bool t)))(ht:t=true->FW P n x Q L w)(hf:t=false->FW P n y Q L w):
  FW P n (.cond c x y) Q L w:=by
 intro a h1 h2 h3
 refine wp_cond_split (t:=t) (h3.val c _ hc) (fun h=>ht h a h1 h2 h3) (fun h=>hf h a h1 h2 h3)
theorem FY{id:Nat}{c:Code}(h:FW P n c (blk id Q) L w):FW P n (.block id c) Q L w:=by
 intro a h1 h2 h3
 refine wp_block (wp_mono (h a h1 h2 h3) ?_)
 rintro e a' w' ⟨i,j,L',k,q⟩
 cases e with
 | exit id' =>
  simp only[Exit.inBlock,blk] at q ⊢
  split
  ·rename_i hid;rw[if_pos hid] at q;exact⟨i,j,L',k,q⟩
  ·rename_i hid;rw[if_neg hid] at q;exact⟨i,j,L',k,q⟩
 | normal|goto l|ret|panic ch|outgrown=>exact⟨i,j,L',k,q⟩
theorem A67{α:Type}{c:Code}(H:α->Lst)(R:α->World->Prop)(μ:α->Nat)(x0:α)(hs:Sub (H x0) L)(hR:R x0 w)
  (round:∀ x w,R x w->FW P n c (thn (fun L' w'=>∃ x',Sub (H x') L'/\R x' w'/\μ x'<μ x) Q) (H x) w):FW P n (.loop c) Q L w:=by
 intro a h1 h2 h3
 refine wp_loop_ghost (fun m a w=>a.tmps.size=n/\a.defers=[]/\∃ x,sG a (H x)/\R x w/\μ x=m) (μ x0) ⟨h1,h2,x0,h3.sub hs,hR,rfl⟩ ?_
 rintro m a w ⟨i,j,x,hA,hR,rfl⟩
 refine wp_mono (round x w hR a i j hA) ?_
 rintro e a' w' ⟨i,j,L',k,q⟩
 cases e with
 | normal=>obtain⟨x',hs',hR',hlt⟩:=q;exact⟨μ x',hlt,i,j,x',k.sub hs',hR',rfl⟩
 | exit id|goto l|ret|panic ch|outgrown=>exact⟨i,j,L',k,q⟩
end
def ja(P:Program)(e:Operand->Value)(op:Op)(ty:TypeId)(w:World)(K:Value->World->Prop):Prop :=
 match(execOp e ⟨none,op,ty, "", #[],none⟩).run P w with
 | .ok (.value v) w'=>K v w'
 | .ok .skip w'=>K undef w'
 | .ok (.enter f args) w'=>Calls P f args w' fun|.returned v,w''=>K v w''|_,_=>False
 | _=>False
theorem Gz{P:Program}{e:Operand->Value}{op:Op}{ty:TypeId}{w:World}{K K':Value->World->Prop}(h:ja P e op ty w K)(hk:∀ v w,K v w->K' v w):ja P e op ty w K':=by
 unfold ja at *
 split at h
 ·grind
 ·grind
 ·refine h.mono ?_
  grind
 ·exact h
theorem dh(e:Operand->Value)(o:Oper):execOp e o=execOp e ⟨none,o.op,o.type, "", #[],none⟩:=by
 obtain⟨d,op,ty,pos,af,g⟩:=o
 cases op<;>rfl
theorem I7{P:Program}{o:Oper}{a:Act}{w:World}{next:Act->World->Prop}{Q:Exit->Act->World->Prop}
  (h:ja P a.eval o.op o.type w fun v w'=>next (a.put o.dst v) w'):o.wp P a w next Q:=by
 unfold Oper.wp
 rw[dh]
 unfold ja at h
 generalize (execOp a.eval ⟨none,o.op,o.type, "", #[],none⟩).run P w=r at h ⊢
 cases r with
 | halt x w'=>exact h.elim
 | ok x w' =>
  cases x<;>first|exact h|exact h.elim|skip
  refine Calls.mono h ?_
  grind
def OP(P:Program)(L:Lst)(op:Op)(ty:TypeId)(w:World)(K:SV->World->Prop):Prop :=
 ∀ e,Val e L->ja P e op ty w fun v w'=>∃ s:SV,s.den=v/\K s w'
theorem OP.mono{P:Program}{L:Lst}{op:Op}{ty:TypeId}{w:World}{K K':SV->World->Prop}(h:OP P L op ty w K)(hk:∀ v w,K v w->K' v w):OP P L op ty w K' :=
 fun e he=>Gz (h e he) fun v w ⟨s,hs,k⟩=>⟨s,hs,hk _ _ k⟩
def RL(P:Program)(n:Nat)(ops:Array Oper)(Q:Post)(l:List Oper)(L:Lst)(w:World):Prop :=
 ∀ a:Act,a.tmps.size=n->a.defers=[]->sG a L->wpList P ops (lift n Q) l a w
section
variable {P:Program}{n:Nat}{Q:Post}{L:Lst}{w:World}{ops:Array Oper}{rest:List Oper}
theorem Ep{id:Nat}{l:List Oper}(h:RL P n l.toArray Q l L w):FW P n (.region id l.toArray false) Q L w :=
 fun a h1 h2 h3=>wp_region_lit (h a h1 h2 h3)
theorem Ib(h:Q .normal L w):RL P n ops Q [] L w:=fun a h1 h2 h3=>wpList_nil ⟨h1,h2,L,h3,h⟩
theorem PN(a:Act)(d:Option Nat)(v:Value):(a.put d v).tmps.size=a.tmps.size:=by cases d<;>simp[Act.put]
theorem put_defers(a:Act)(d:Option Nat)(v:Value):(a.put d v).defers=a.defers:=by cases d<;>rfl
theorem st{d:Nat}(h:OP P L op ty w fun s w'=>RL P n ops Q rest ((d,s)::L) w')(hd:Nat.blt d n=true):
  RL P n ops Q (⟨some d,op,ty,pos,af,none⟩::rest) L w:=by
 intro a h1 h2 h3
 refine wpList_plain rfl fun K hK=>I7 ?_
 refine Gz (h a.eval h3.val) ?_
 rintro v w' ⟨s,rfl,hr⟩
 have hdn:d<n:=zaL
 exact hK _ _ (hr _ (by rw[PN];exact h1) (by rw[put_defers];exact h2) (h3.put s zaa))
theorem st0(h:OP P L op ty w fun _ w'=>RL P n ops Q rest L w'):
  RL P n ops Q (⟨none,op,ty,pos,af,none⟩::rest) L w:=by
 intro a h1 h2 h3
 refine wpList_plain rfl fun K hK=>I7 ?_
 refine Gz (h a.eval h3.val) ?_
 rintro v w' ⟨s,rfl,hr⟩
 exact hK _ _ (hr _ h1 h2 h3)
theorem stg{d d' j:Nat}{want b:Bool}(hj:(ops[j]?).bind (·.dst)=some d')(hb:lkp d' L=some (.v (.bool b)))(hy:b=want->OP P L op ty w fun s w'=>RL P n ops Q rest ((d,s)::L) w')(hno:b = !want->RL P n ops Q rest ((d,.v undef)::L) w)(hd:Nat.blt d n=true)(hd':Nat.blt d' n=true):
  RL P n ops Q (⟨some d,op,ty,pos,af,some (j,want)⟩::rest) L w:=by
 intro a h1 h2 h3
 have hdn:d<n:=zaL
 have hdn':d'<n:=zaL
 have hyield:yielded ops a.tmps j=some b:=by
  have:=h3 d' _ hb
  simp only[yielded,hj,Option.bind_some]
  rw[Array.getD_eq_getD_getElem?] at this
  have hlt:d'<a.tmps.size:=zaa
  simp only[hlt,Array.getElem?_eq_getElem,Option.getD_some] at this ⊢
  rw[this];rfl
 refine wpList_step fun K hK=>?_
 by_cases hbw:b=want
 ·rw[if_pos zbC]
  refine I7 (Gz (hy hbw a.eval h3.val) ?_)
  rintro v w' ⟨s,rfl,hr⟩
  exact hK _ _ (hr _ (by rw[PN];exact h1) (by rw[put_defers];exact h2) (h3.put s zaa))
 ·rw[if_neg zbC]
  have:b = !want:=by cases b<;>cases want<;>simp_all
  exact hK _ _ (hno this _ (by rw[PN];exact h1) (by rw[put_defers];exact h2) (h3.put (.v undef) zaa))
end
def zW(R:Value->World->Prop):Ending->World->Prop:=fun e w=>match e with|.returned v=>R v w|_=>False
theorem zW.mono{P:Program}{f:FuncId}{args:Array Value}{w:World}{R R':Value->World->Prop}(h:Calls P f args w (zW R))(hr:∀ v w,R v w->R' v w):Calls P f args w (zW R') :=
 h.mono fun e w h=>by cases e<;>first|exact hr _ _ h|exact h
def look1(L:Lst)(r:ResultVar):Option Value:=match r with|.tmp t=>(lkp t L).map SV.den|.cell _ _=>none
def xC(rs:Array ResultVar)(L:Lst):Option Value :=
 match rs.toList with
 | []=>some (.tuple #[])
 | [r]=>look1 L r
 | [r1,r2]=>match look1 L r1,look1 L r2 with|some a,some b=>some (.tuple #[a,b])|_,_=>none
 | [r1,r2,r3]=>match look1 L r1,look1 L r2,look1 L r3 with|some a,some b,some c=>some (.tuple #[a,b,c])|_,_,_=>none
 | _=>none
def A9J(rs:Array ResultVar)(R:Value->World->Prop):Post:=fun e L w=>match e with|.normal|.ret=>∃ v,xC rs L=some v/\R v w|_=>False
theorem Ls{a:Act}{L:Lst}(h:sG a L){r:ResultVar}{v:Value}(hv:look1 L r=some v):∃ t,r=.tmp t/\a.tmps.getD t undef=v:=by
 cases r with
 | tmp t =>
  simp only[look1,Option.map_eq_some_iff] at hv
  obtain⟨s,hs,rfl⟩:=hv
  exact⟨t,rfl,h t s hs⟩
 | cell x y=>simp[look1] at hv
theorem sH{P:Program}{fn:Func}{a:Act}{L:Lst}{v:Value}{w:World}(h:sG a L)(hv:xC fn.results L=some v):(results fn a.tmps).run P w=.ok v w:=by
 have hs:fn.results=fn.results.toList.toArray:=zat
 unfold xC at hv
 generalize fn.results.toList=rs at hs hv
 match rs,hs,hv with
 | [],hs,hv=>obtain rfl:=Option.some.inj hv;exact results_none hs _ _ _
 | [r],hs,hv =>
  obtain⟨t,rfl,ht⟩:=Ls h hv
  rw[results_tmp hs,ht]
 | [r1,r2],hs,hv =>
  simp only at hv
  split at hv
  ·rename_i x y h1 h2
   obtain⟨t,rfl,ht⟩:=Ls h h1
   obtain⟨u,rfl,hu⟩:=Ls h h2
   obtain rfl:=Option.some.inj hv
   grind[results_tmp2]
  ·cases hv
 | [r1,r2,r3],hs,hv =>
  simp only at hv
  split at hv
  ·rename_i x y z h1 h2 h3
   obtain⟨t,rfl,ht⟩:=Ls h h1
   obtain⟨u,rfl,hu⟩:=Ls h h2
   obtain⟨s,rfl,hs'⟩:=Ls h h3
   obtain rfl:=Option.some.inj hv
   grind[results_tmp3]
  ·cases hv
 | _::_::_::_::_,hs,hv=>cases hv
def A68(k:Nat):List SV->Lst
 | []=>[]
 | v::r=>(k,v)::A68 (k+1) r
theorem A1h(vs:List SV):∀(k t:Nat) (s:SV),lkp t (A68 k vs)=some s->k<=t/\vs[t-k]?=some s:=by
 induction vs with
 | nil=>intro k t s h;cases h
 | cons v r ih =>
  intro k t s h
  rw[A68,lkp_cons] at h
  by_cases e:t=k
  ·simp_all
  grind
theorem jb{P:Program}{f:FuncId}{fn:Func}{c:Code}{n:Nat}{rs:Array ResultVar}(ss:List SV){w:World}{R:Value->World->Prop}
  (hf:P.funcs[f]?=some fn) (hb:fn.body=some c) (hn:fn.ntmps=n) (hrs:fn.results=rs) (hlen:Nat.ble ss.length n=true) (h:FW P n c (A9J rs R) (A68 0 ss) w):Calls P f (ss.map SV.den).toArray w (zW R):=by
 subst hn
 subst hrs
 have hlen:ss.length<=fn.ntmps:=zaL
 refine calls_of_wp hf hb ?_
 have hsz:((ss.map SV.den).toArray++Array.replicate (fn.ntmps-(ss.map SV.den).toArray.size) undef).size=fn.ntmps:=zaD
 refine wp_mono (h _ hsz rfl ?_) ?_
 ·intro t s hs
  obtain⟨_,hv⟩:=A1h _ _ _ _ hs
  simp only[Nat.sub_zero] at hv
  have hlt:t<ss.length:=(List.getElem?_eq_some_iff.1 hv).1
  simp_all[Array.getElem?_append_left]
 ·rintro e a w' ⟨i,j,L,k,q⟩
  cases e with
  | normal|ret=>obtain⟨v,hv,hr⟩:=q;exact⟨j,v,sH k hv,hr⟩
  | exit id|goto l|panic ch|outgrown=>exact q.elim
def ADH(P:Program)(fn:Func)(R:Value->World->Prop):Post:=fun e L w=>match e with|.normal|.ret=>∃ v,(∀ a:Act,sG a L->(results fn a.tmps).run P w=.ok v w)/\R v w|_=>False
section
variable {P:Program}{n:Nat}{Q:Post}{L:Lst}{w:World}{next:Lst->World->Prop}{id id':Nat}
theorem Gi(h:next L w):thn next Q .normal L w:=h
theorem Gj(h:Q (.exit id) L w):thn next Q (.exit id) L w:=h
theorem Gl(h:Q .ret L w):thn next Q .ret L w:=h
theorem Gm(h:Q .normal L w):blk id Q .normal L w:=h
theorem Gn(h:Q .normal L w):blk id Q (.exit id) L w:=by simp_all[blk]
theorem Gp(hne:Nat.beq id' id=false)(h:Q (.exit id') L w):blk id Q (.exit id') L w:=by
 have:id'≠id:=fun e=>zaL
 simp_all[blk]
theorem Gq(h:Q .ret L w):blk id Q .ret L w:=h
theorem A69{rs:Array ResultVar}{R:Value->World->Prop}{v:Value}(hv:xC rs L=some v)(h:R v w):A9J rs R .ret L w:=⟨v,hv,h⟩
end
end Go.Eng
namespace Go.Eng
open Go Go.RowKit
section
variable {P:Program}{L:Lst}{w:World}{ty:TypeId}{K:SV->World->Prop}
theorem Jl{op:Op}{s:SV}{w':World} (h:∀ e,Val e L->(execOp e ⟨none,op,ty, "", #[],none⟩).run P w=.ok (.value s.den) w') (k:K s w'):OP P L op ty w K:=by
 intro e he
 unfold ja
 grind
theorem G6{x:Operand}{s:SV}(hx:RD L x=some s)(k:K s w):OP P L (.move x) ty w K :=
 Jl (fun e he=>by simp[execOp,he x s hx]) k
theorem Iq{x:Operand}{s:SV}(hx:RD L x=some s)(k:K s w):OP P L (.assign x) ty w K :=
 Jl (fun e he=>by simp[execOp,he x s hx]) k
theorem jc(op:BinOp)(t:TypeId)(x y:Operand)(yt:TypeId)(e:Operand->Value){k k':IntKind}{a b:Int}(ha:e x=.int k a)(hb:e y=.int k' b):
  (execOp e ⟨none,.binOp op t x y yt,ty, "", #[],none⟩).run P w=((binOp op t (.int k a) (.int k' b)).run P w).andThen fun v w'=>.ok (.value v) w':=by
 have hg:(eqGuard op t x y (.int k a) (.int k' b)).run P w=.ok () w:=by
  simp_all[eqGuard]
 simp only[execOp,ha,hb,Sem.run_bind,hg,Result.andThen_ok]
 simp_all
theorem A1i{op:BinOp}{t yt:TypeId}{x y:Operand}{k k':IntKind}{a b:Int}{s sx sy:SV}(hx:RD L x=some sx)(hy:RD L y=some sy)(ex:sx.den=.int k a)(ey:sy.den=.int k' b)
  (h:(binOp op t (.int k a) (.int k' b)).run P w=.ok s.den w) (hk:K s w):OP P L (.binOp op t x y yt) ty w K :=
 Jl (fun e he=>by rw[jc op t x y yt e ((he x _ hx).trans ex) ((he y _ hy).trans ey),h];rfl) hk
section i64
variable {t yt:TypeId}{x y:Operand}{a b:Int}(hx:RD L x=some (.v (.int .i64 a)))(hy:RD L y=some (.v (.int .i64 b)))
include hx hy
theorem A9K(hb : -9223372036854775808<=a+b/\a+b<=9223372036854775807)(hk:K (.v (.int .i64 (a+b))) w):OP P L (.binOp .add t x y yt) ty w K :=
 A1i hx hy rfl rfl (by simp[binOp,Op.intArith,IntWalk.i64_in _ hb,SV.den]) hk
end i64
theorem jd(a b:Nat)(ha:a<9223372036854775808)(hb:b<9223372036854775808):bits .or .i64 (a:Int) (b:Int)=((a|||b:Nat):Int):=by
 have h:a|||b<2^63:=Nat.or_lt_two_pow zaa zaa
 show IntKind.i64.wrap (((BitVec.ofInt 64 (a:Int)|||BitVec.ofInt 64 (b:Int)).toNat:Nat):Int)=_
 grind[IntWalk.i64_in]
def WW(op:BinOp)(a b:Int):Bool:=match op with
 | .eql=>a==b
 | .neq=>a != b
 | .lss=>decide (a<b)
 | .leq=>decide (a<=b)
 | .gtr=>decide (a>b)
 | _=>decide (a>=b)
def Vl:BinOp->Bool|.eql|.neq|.lss|.leq|.gtr|.geq=>true|_=>false
def SV.num:SV->Option (IntKind×Int)
 | .v (.int k n)=>some (k,n)
 | .u8 b=>some (.u8,(b.toNat:Int))
 | .u32 b=>some (.u32,(b.toNat:Int))
 | .u64 b=>some (.u64,(b.toNat:Int))
 | _=>none
theorem SV.num_den{s:SV}{k:IntKind}{n:Int}(h:s.num=some (k,n)):s.den=.int k n:=by
 cases s with
 | v x=>cases x<;>simp_all[SV.num,SV.den]
 | u8 b|u32 b|u64 b=>simp only[SV.num,Option.some.injEq,Prod.mk.injEq] at h;obtain⟨rfl,rfl⟩:=h;rfl
theorem KW{op:BinOp}(ho:Vl op=true)(t:TypeId)(k:IntKind)(a b:Int):(binOp op t (.int k a) (.int k b)).run P w=.ok (SV.v (.bool (WW op a b))).den w:=by
 cases op<;>first|(cases ho;done)|(simp[binOp,Op.intCmp,WW,SV.den];done)|(simp only[binOp,ne_eq,not_true_eq_false,if_false,Op.intCmp,WW,SV.den];rfl)
theorem S9{op:BinOp}{t yt:TypeId}{x y:Operand}{sx sy:SV}{k:IntKind}{a b:Int}(ho:Vl op=true)(hx:RD L x=some sx)(hy:RD L y=some sy)(ex:sx.num=some (k,a))(ey:sy.num=some (k,b))
  (hk:K (.v (.bool (WW op a b))) w):OP P L (.binOp op t x y yt) ty w K :=
 A1i hx hy (SV.num_den ex) (SV.num_den ey) (KW ho t k a b) hk
theorem wrap_u8(n:Nat):IntKind.u8.wrap (n:Int)=((UInt8.ofNat n).toNat:Int):=by
 simp[IntKind.wrap_u8]
theorem wrap_u32(n:Nat):IntKind.u32.wrap (n:Int)=((UInt32.ofNat n).toNat:Int):=by
 simp[IntKind.wrap_u32]
theorem wrap_u64(n:Nat):IntKind.u64.wrap (n:Int)=((UInt64.ofNat n).toNat:Int):=by
 simp[IntKind.wrap,IntKind.bits,IntKind.signed]
def A1j:BinOp->UInt8->UInt8->UInt8
 | .add,a,b=>a+b|.sub,a,b=>a-b|.mul,a,b=>a*b|.and,a,b=>a&&&b|.or,a,b=>a|||b|.xor,a,b=>a^^^b|_,a,_=>a
def je:BinOp->UInt32->UInt32->UInt32
 | .add,a,b=>a+b|.sub,a,b=>a-b|.mul,a,b=>a*b|.and,a,b=>a&&&b|.or,a,b=>a|||b|.xor,a,b=>a^^^b|_,a,_=>a
def TG:BinOp->UInt64->UInt64->UInt64
 | .add,a,b=>a+b|.sub,a,b=>a-b|.mul,a,b=>a*b|.and,a,b=>a&&&b|.or,a,b=>a|||b|.xor,a,b=>a^^^b|_,a,_=>a
def TJ:BinOp->Bool|.add|.sub|.mul|.and|.or|.xor=>true|_=>false
theorem XO(m a b:Nat)(hb:b<=m)(hm:0<m):((a:Int)-b)%m=((m-b+a)%m:Nat):=by
 rw[Int.natCast_emod,Int.natCast_add,Int.natCast_sub hb,show((m:Int)-b+a)=(a-b)+m from by omega,Int.add_emod_right]
theorem A1k{op:BinOp}(ho:TJ op=true)(t:TypeId)(a b:UInt8):(binOp op t (byteV a) (byteV b)).run P w=.ok (byteV (A1j op a b)) w:=by
 have ha:=a.toNat_lt
 have hb:=b.toNat_lt
 cases op<;>first|cases ho|skip
 ·simp only[byteV,binOp,Op.intArith,A1j,ne_eq,not_true_eq_false,if_false,Sem.run_pure]
  rw[<-Int.natCast_add,wrap_u8,<-UInt8.ofNat_toNat (x:=a+b),UInt8.toNat_add];simp
 ·simp only[byteV,binOp,Op.intArith,A1j,ne_eq,not_true_eq_false,if_false,Sem.run_pure]
  rw[IntKind.wrap_u8,UInt8.toNat_sub,<-XO 256 _ _ zaa zaa];rfl
 ·simp only[byteV,binOp,Op.intArith,A1j,ne_eq,not_true_eq_false,if_false,Sem.run_pure]
  rw[<-Int.natCast_mul,wrap_u8,UInt8.toNat_mul];simp
 ·show Result.ok (Value.int .u8 (IntKind.u8.wrap (((BitVec.ofInt 8 (a.toNat:Int)&&&BitVec.ofInt 8 (b.toNat:Int)).toNat:Nat):Int))) w=.ok (.int .u8 ((a&&&b).toNat:Int)) w
  rw[wrap_u8];simp
 ·show Result.ok (Value.int .u8 (IntKind.u8.wrap (((BitVec.ofInt 8 (a.toNat:Int)|||BitVec.ofInt 8 (b.toNat:Int)).toNat:Nat):Int))) w=.ok (.int .u8 ((a|||b).toNat:Int)) w
  rw[wrap_u8];simp
 ·show Result.ok (Value.int .u8 (IntKind.u8.wrap (((BitVec.ofInt 8 (a.toNat:Int)^^^BitVec.ofInt 8 (b.toNat:Int)).toNat:Nat):Int))) w=.ok (.int .u8 ((a^^^b).toNat:Int)) w
  rw[wrap_u8];simp
theorem zX{op:BinOp}(ho:TJ op=true)(t:TypeId)(a b:UInt32):(binOp op t (wordV a) (wordV b)).run P w=.ok (wordV (je op a b)) w:=by
 have ha:=a.toNat_lt
 have hb:=b.toNat_lt
 cases op<;>first|cases ho|skip
 ·simp only[wordV,binOp,Op.intArith,je,ne_eq,not_true_eq_false,if_false,Sem.run_pure]
  rw[<-Int.natCast_add,wrap_u32,UInt32.toNat_add];simp
 ·simp only[wordV,binOp,Op.intArith,je,ne_eq,not_true_eq_false,if_false,Sem.run_pure]
  rw[IntKind.wrap_u32,UInt32.toNat_sub,<-XO 4294967296 _ _ zaa zaa];rfl
 ·simp only[wordV,binOp,Op.intArith,je,ne_eq,not_true_eq_false,if_false,Sem.run_pure]
  rw[<-Int.natCast_mul,wrap_u32,UInt32.toNat_mul];simp
 ·show Result.ok (Value.int .u32 (IntKind.u32.wrap (((BitVec.ofInt 32 (a.toNat:Int)&&&BitVec.ofInt 32 (b.toNat:Int)).toNat:Nat):Int))) w=.ok (.int .u32 ((a&&&b).toNat:Int)) w
  rw[wrap_u32];simp
 ·show Result.ok (Value.int .u32 (IntKind.u32.wrap (((BitVec.ofInt 32 (a.toNat:Int)|||BitVec.ofInt 32 (b.toNat:Int)).toNat:Nat):Int))) w=.ok (.int .u32 ((a|||b).toNat:Int)) w
  rw[wrap_u32];simp
 ·show Result.ok (Value.int .u32 (IntKind.u32.wrap (((BitVec.ofInt 32 (a.toNat:Int)^^^BitVec.ofInt 32 (b.toNat:Int)).toNat:Nat):Int))) w=.ok (.int .u32 ((a^^^b).toNat:Int)) w
  rw[wrap_u32];simp
theorem zY{op:BinOp}(ho:TJ op=true)(t:TypeId)(a b:UInt64):(binOp op t (IL a) (IL b)).run P w=.ok (IL (TG op a b)) w:=by
 have ha:=a.toNat_lt
 have hb:=b.toNat_lt
 cases op<;>first|cases ho|skip
 ·simp only[IL,binOp,Op.intArith,TG,ne_eq,not_true_eq_false,if_false,Sem.run_pure]
  rw[<-Int.natCast_add,wrap_u64,UInt64.toNat_add];simp
 ·simp only[IL,binOp,Op.intArith,TG,ne_eq,not_true_eq_false,if_false,Sem.run_pure]
  rw[show IntKind.u64.wrap ((a.toNat:Int)-b.toNat)=((a.toNat:Int)-b.toNat)%(18446744073709551616:Nat) from by simp[IntKind.wrap,IntKind.bits,IntKind.signed],UInt64.toNat_sub,<-XO 18446744073709551616 _ _ zaa zaa]
 ·simp only[IL,binOp,Op.intArith,TG,ne_eq,not_true_eq_false,if_false,Sem.run_pure]
  rw[<-Int.natCast_mul,wrap_u64,UInt64.toNat_mul];simp
 ·show Result.ok (Value.int .u64 (IntKind.u64.wrap (((BitVec.ofInt 64 (a.toNat:Int)&&&BitVec.ofInt 64 (b.toNat:Int)).toNat:Nat):Int))) w=.ok (.int .u64 ((a&&&b).toNat:Int)) w
  rw[wrap_u64];simp
 ·show Result.ok (Value.int .u64 (IntKind.u64.wrap (((BitVec.ofInt 64 (a.toNat:Int)|||BitVec.ofInt 64 (b.toNat:Int)).toNat:Nat):Int))) w=.ok (.int .u64 ((a|||b).toNat:Int)) w
  rw[wrap_u64];simp
 ·show Result.ok (Value.int .u64 (IntKind.u64.wrap (((BitVec.ofInt 64 (a.toNat:Int)^^^BitVec.ofInt 64 (b.toNat:Int)).toNat:Nat):Int))) w=.ok (.int .u64 ((a^^^b).toNat:Int)) w
  rw[wrap_u64];simp
theorem zZ{e:Operand->Value}{t ty:TypeId}{x:Operand}{a:UInt32}{w:World}(hx:e x=wordV a):(execOp e ⟨none,.unOp .xor t x,ty, "", #[],none⟩).run P w=.ok (.value (wordV (~~~a))) w:=by
 rw[show execOp e ⟨none,.unOp .xor t x,ty, "", #[],none⟩=(do pure (.value (<-Op.unary .xor (e x)))) from rfl,hx]
 have h1:Op.unary .xor (wordV a)=pure (.int .u32 (IntKind.u32.wrap (((BitVec.ofInt 32 4294967295^^^BitVec.ofInt 32 (a.toNat:Int)).toNat:Nat):Int))):=rfl
 rw[h1,wrap_u32,show BitVec.ofInt 32 4294967295=BitVec.allOnes 32 from by decide,BitVec.allOnes_xor]
 have:=a.toNat_lt
 simp[wordV]
 omega
section shifts
variable {t yt:TypeId}{x y:Operand}
end shifts
theorem jf(src dst:TypeId)(k k':IntKind)(a:Int){d:TypeDesc}(hs:P.underlying src=some d)(hd:P.underlying dst=some (.int k')):
  (convert src dst (.int k a)).run P w=.ok (.int k' (k'.wrap a)) w:=by
 unfold convert
 simp only[Sem.run_bind,run_underlying hs,run_underlying hd,Result.andThen_ok]
 rfl
section conv
variable {src dst:TypeId}{x:Operand}{d:TypeDesc}
theorem di{k k':IntKind}{a:Int}{sx s:SV}(hs:P.underlying src=some d)(hd:P.underlying dst=some (.int k'))(hx:RD L x=some sx)(ex:sx.num=some (k,a))(es:s.den=.int k' (k'.wrap a))(hk:K s w):OP P L (.convert src dst x) ty w K :=
 Jl (fun e he=>by
  have h1:execOp e ⟨none,.convert src dst x,ty, "", #[],none⟩=(do pure (.value (<-convert src dst (e x)))):=rfl
  rw[h1,he x _ hx,SV.num_den ex,es]
  simp_all[jf]) hk
theorem Vm(a:Int):IntKind.u8.wrap a=((UInt8.ofInt a).toNat:Int):=by
 rw[IntKind.wrap_u8];simp[UInt8.ofInt];omega
theorem TK(a:Int):IntKind.u32.wrap a=((UInt32.ofInt a).toNat:Int):=by
 rw[IntKind.wrap_u32];simp[UInt32.ofInt];omega
theorem OJ(a:Int):IntKind.u64.wrap a=((UInt64.ofInt a).toNat:Int):=by
 simp[IntKind.wrap,IntKind.bits,IntKind.signed,UInt64.ofInt];omega
theorem A9L{a:Int}(hs:P.underlying src=some d)(hd:P.underlying dst=some (.int .u64))(hx:RD L x=some (.v (.int .i64 a)))(hk:K (.u64 (UInt64.ofInt a)) w):OP P L (.convert src dst x) ty w K :=
 di hs hd hx rfl (by rw[OJ];rfl) hk
theorem A9M{a:Int}(hs:P.underlying src=some d)(hd:P.underlying dst=some (.int .u64))(hx:RD L x=some (.v (.int .i64 a)))(hb:0<=a/\a<=9223372036854775807)(hk:K (.v (.int .u64 a)) w):OP P L (.convert src dst x) ty w K :=
 di hs hd hx rfl (by rw[IntWalk.u64_in _ zaa];rfl) hk
end conv
end
end Go.Eng
namespace Go.Eng
open Go Go.RowKit
abbrev Ext(w w':World):Prop:=Below w.heap.size w w'
theorem Ext.refl(w:World):Ext w w:=Below.refl _ _
theorem Ext.trans{a b c:World}(h:Ext a b)(k:Ext b c):Ext a c:=Below.trans h (Below.mono k h.size)
theorem Ext.alloc(w:World)(o:Obj):Ext w (w.alloc o):=(Below.refl _ _).alloc (Nat.le_refl _) o
theorem Ext.drew(w:World):Ext w w.drew:=(Below.refl _ _).drew
theorem Ext.grown{w0 w w':World}{r:Option Nat}(h:Ext w0 w)(hg:w.grownBy w' r)(hr:∀ k,r=some k->w0.heap.size<=k):Ext w0 w':=Below.grown h hg h.size hr
theorem grownBy.trans{a b c:World}{r:Option Nat}(h:a.grownBy b r)(k:b.grownBy c r):a.grownBy c r :=
 ⟨k.os.trans h.os,k.tape.trans h.tape,k.output.trans h.output,Nat.le_trans h.size k.size,fun i hi hr=>(k.block i (Nat.lt_of_lt_of_le hi h.size) hr).trans (h.block i hi hr)⟩
theorem grownBy.ext{a b c:World}{r:Option Nat}(h:a.grownBy b r)(k:Ext b c):a.grownBy c r :=
 ⟨k.os.trans h.os,k.tape.trans h.tape,k.output.trans h.output,Nat.le_trans h.size k.size,fun i hi hr=>(k.block i (Nat.lt_of_lt_of_le hi h.size)).trans (h.block i hi hr)⟩
theorem grownBy.of_ext{a b:World}(k:Ext a b)(r:Option Nat):a.grownBy b r :=
 ⟨k.os,k.tape,k.output,k.size,fun i hi _=>k.block i hi⟩
theorem add_add(p:Addr)(i j:Nat):(p.add i).add j=p.add (i+j):=by
 grind[Addr.add]
theorem add_block(p:Addr)(i:Nat):(p.add i).block=p.block:=by grind[Addr.add]
def Cs(w:World)(p:Addr)(cells:List Value):Prop:=∀ j u,cells[j]?=some u->w.cell? (p.add j)=some u
theorem TL{w w':World}{p:Addr}{u:Value}(h:w.cell? p=some u)(he:Ext w w'):w'.cell? p=some u :=
 (he.cell (World.block_lt_of_cell? w p h)).trans h
theorem cell_grown{w w':World}{p:Addr}{u:Value}{r:Option Nat}(h:w.cell? p=some u)(hg:w.grownBy w' r)(hne:r≠some p.block):w'.cell? p=some u :=
 hg.cell h (fun e=>hne e.symm)
theorem Cs.ext{w w':World}{p:Addr}{c:List Value}(h:Cs w p c)(he:Ext w w'):Cs w' p c:=fun j u hu=>TL (h j u hu) he
theorem Cs.grown{w w':World}{p:Addr}{c:List Value}{r:Option Nat}(h:Cs w p c)(hg:w.grownBy w' r)(hne:r≠some p.block):Cs w' p c :=
 fun j u hu=>cell_grown (h j u hu) hg (by grind[add_block])
theorem Cs.drop{w:World}{p:Addr}{c:List Value}(h:Cs w p c)(k:Nat):Cs w (p.add k) (c.drop k):=fun j u hu=>by
 rw[add_add];exact h _ u zaL
theorem Cs.take{w:World}{p:Addr}{c:List Value}(h:Cs w p c)(k:Nat):Cs w p (c.take k):=fun j u hu=>by
 rw[List.getElem?_take] at hu
 split at hu
 ·exact h j u hu
 ·cases hu
def Sl(w:World)(sz:Nat)(v:Value)(cells:List Value)(n:Nat):Prop :=
 ∃ a cap,v=.slice a n cap/\cells.length=n*sz/\n<=cap/\cap<=maxLen/\(a=none->n=0/\cap=0)/\∀ p,a=some p->Cs w p cells
def A8U(v:Value):Prop:=∃ a n,v=.slice a n n
theorem Sl.ext{w w':World}{sz n:Nat}{v:Value}{c:List Value}(h:Sl w sz v c n)(he:Ext w w'):Sl w' sz v c n:=by
 obtain⟨a,cap,h1,h2,h3,h4,h5,h6⟩:=h
 exact⟨a,cap,h1,h2,h3,h4,h5,fun p hp=>(h6 p hp).ext he⟩
theorem Sl.grown{w w':World}{sz n:Nat}{v:Value}{c:List Value}{r:Option Nat}(h:Sl w sz v c n)(hg:w.grownBy w' r)(hne:∀ g,v.ownBlock=some g->r≠some g):Sl w' sz v c n:=by
 obtain⟨a,cap,h1,h2,h3,h4,h5,h6⟩:=h
 refine⟨a,cap,h1,h2,h3,h4,h5,fun p hp=>(h6 p hp).grown hg ?_⟩
 subst hp;subst h1
 exact hne p.block rfl
theorem Sl.len{w:World}{sz n:Nat}{v:Value}{c:List Value}(h:Sl w sz v c n):c.length=n*sz:=by obtain⟨_,_,_,h,_⟩:=h;exact h
theorem Sl.max{w:World}{sz n:Nat}{v:Value}{c:List Value}(h:Sl w sz v c n):n<=maxLen:=by obtain⟨_,_,_,_,h,h',_⟩:=h;omega
theorem Sl.nil(w:World)(sz:Nat):Sl w sz (.slice none 0 0) [] 0:=⟨none,0,rfl,by simp,Nat.le_refl _,by simp[maxLen],fun _=>⟨rfl,rfl⟩,fun p hp=>by cases hp⟩
theorem Sl.of_own{w:World}{base e sz n:Nat}{v:Value}{c:List Value}(h:w.ownsRow base e sz v n c):Sl w sz v c n:=by
 have hl:=h.1
 rcases h.2 with⟨rfl,rfl⟩|⟨g,cap,cur,rfl,hb,hh,hn,hm,hs,ht⟩
 ·simp_all[Sl.nil]
 ·exact⟨some ⟨g,0,none⟩,cap,rfl,hl,hn,hm,(fun h=>by cases h),fun p hp=>by obtain rfl:=Option.some.inj hp;exact fun j u hu=>h.cells rfl j u hu⟩
abbrev Bytes(w:World)(v:Value)(l:List UInt8):Prop:=Sl w 1 v (l.map byteV) l.length
structure SliceT (P:Program) (t e:TypeId) (z:Value) (sz bytes:Nat):Prop where
 ht:P.underlying t=some (.slice e)
 hi:(P.info? e).map (fun i=>(i.zero,i.size,i.bytes))=some (some z,sz,bytes)
 hzs:z.cells.size=sz
 hsz:0<sz
section
variable {P:Program}{L:Lst}{w:World}{ty:TypeId}{K:SV->World->Prop}{t e sz bytes:Nat}{z:Value}
theorem SliceT.run_size(T:SliceT P t e z sz bytes)(w:World):(sizeOf e).run P w=.ok sz w:=by
 obtain⟨i,h1,h2,h3,h4⟩:=info_parts T.hi
 simp[sizeOf,typeInfo,h1,h3]
theorem FD(ρ:Operand->Value)(b:Builtin)(args:Array Operand)(ats:Array TypeId){v:Value}{w':World}
  (h:(builtin b ats ty (args.map fun|.const _=>true|_=>false) (args.map ρ)).run P w=.ok (.value v) w') :
  (execOp ρ ⟨none,.call {callee:=.builtin b,args:=args,argTypes:=ats},ty, "", #[],none⟩).run P w=.ok (.value v) w':=by
 have h1:execOp ρ ⟨none,.call {callee:=.builtin b,args:=args,argTypes:=ats},ty, "", #[],none⟩=(do let d<-resolve ρ {callee:=.builtin b,args:=args,argTypes:=ats} ty;invoke d.target d.args):=rfl
 grind[resolve,invoke]
theorem A1l{x:Operand}{v:Value}{c:List Value}{n:Nat}(ht:P.underlying t=some (.slice e))(hx:RD L x=some (.v v))(hv:Sl w sz v c n)(hk:K (.v (.int .i64 (n:Int))) w):
  OP P L (.call {callee:=.builtin .len,args := #[x],argTypes := #[t]}) ty w K :=
 Jl (fun ρ he=>FD ρ _ _ _ (by
  obtain⟨a,cap,rfl,_⟩:=hv
  have h1:ρ x=.slice a n cap:=he x _ hx
  simp[builtin,Builtin.len_,h1,run_underlying ht,goInt,SV.den])) hk
end
end Go.Eng
namespace Go.Eng
open Go Go.RowKit
section
variable {P:Program}{L:Lst}{w:World}{ty:TypeId}{K:SV->World->Prop}{t e sz bytes:Nat}{z:Value}
theorem A9N{a:Option Addr}{n cap lo hi mx sz:Nat}{c:List Value}(hl:c.length=n*sz)(h3:n<=cap)(h4:cap<=maxLen)(h5:a=none->n=0/\cap=0)(h6:∀ p,a=some p->Cs w p c)
  (b1:lo<=hi) (b2:hi<=n) (b3:hi<=mx) (b4:mx<=cap) :
  Sl w sz (.slice (if mx=lo then a else a.map (·.add (lo*sz))) (hi-lo) (mx-lo)) ((c.drop (lo*sz)).take ((hi-lo)*sz)) (hi-lo):=by
 refine⟨_,_,rfl,?_,by omega,by omega,?_,?_⟩
 ·rw[List.length_take,List.length_drop,hl]
  have h1:hi*sz<=n*sz:=Nat.mul_le_mul_right _ b2
  rw[Nat.sub_mul];omega
 ·intro h
  split at h
  ·have:=h5 h;omega
  ·cases a with
   | none=>have:=h5 rfl;omega
   | some p=>simp at h
 ·intro p hp
  split at hp
  ·have:hi-lo=0:=zaa
   rw[this];simp[Cs]
  ·cases a with
   | none=>simp at hp
   | some q =>
    simp only[Option.map_some,Option.some.injEq] at hp
    subst hp
    exact((h6 q rfl).drop _).take _
theorem dm(T:SliceT P t e z sz bytes){a:Option Addr}{n cap:Nat}(lo hi mx:Option Value)(l h m:Nat)
  (hb:(Instr.sliceBounds true n cap lo hi mx).run P w=.ok (l,h,m) w) :
  (Instr.sliceAt t (.slice a n cap) lo hi mx).run P w=.ok (.slice (if m=l then a else a.map (·.add (l*sz))) (h-l) (m-l)) w:=by
 simp only[Instr.sliceAt,Sem.run_bind,run_underlying T.ht,Result.andThen_ok,Instr.slice,hb,T.run_size,Sem.run_pure]
theorem Ic(k:IntKind)(i:Int)(y:Nat)(code:BoundsCode)(h0:0<=i)(h1:i<=y):(Instr.sliceBound (.int k i) y code).run P w=.ok i.toNat w:=by
 simp[Instr.sliceBound,asIntOf,h0,h1]
section
variable {x l h m:Operand}{v:Value}{n:Nat}{c:List Value}{il ih im:Int}
end
def OL(d:TypeDesc):Bool:=match d with|.struct _|.array _ _=>false|_=>true
theorem WX{d:TypeDesc}(ht:P.underlying t=some d)(hd:OL d=true){p:Addr}{u:Value}(hc:w.cell? p=some u):(loadVar t p).run P w=.ok u w:=by
 have h1:(isAgg t).run P w=.ok false w:=by
  simp only[isAgg,Sem.run_bind,run_underlying ht,Result.andThen_ok]
  cases d<;>first|(cases hd;done)|rfl
 simp[loadVar,h1,hc]
theorem A9O{x:Operand}{v:Value}{l:List UInt8}{src dst:TypeId}(hs:P.underlying src=some (.slice e))(he:P.underlying e=some (.int .u8))(hd:P.underlying dst=some .string)(hx:RD L x=some (.v v))(hv:Bytes w v l)
  (hk:K (.v (.string ⟨l.toArray⟩)) w):OP P L (.convert src dst x) ty w K:=by
 obtain⟨a,cap,rfl,hl,h3,h4,h5,h6⟩:=hv
 refine Jl (fun ρ hρ=>?_) hk
 have h1:execOp ρ ⟨none,.convert src dst x,ty, "", #[],none⟩=(do pure (.value (<-convert src dst (ρ x)))):=rfl
 rw[h1,hρ x _ hx]
 have hconv:(Conv.bytesToString (.slice a l.length cap)).run P w=.ok (.string ⟨l.toArray⟩) w:=by
  cases a with
  | none =>
   have:l=[]:=List.eq_nil_of_length_eq_zero (h5 rfl).1
   subst this
   rfl
  | some p =>
   have hcs:=h6 p rfl
   have hload:(loadCells p l.length).run P w=.ok (l.map byteV).toArray w:=by
    have:=run_loadCells_list (P:=P) (w:=w) p (l.map byteV) hcs
    simp_all
   have hm:(l.map byteV)=(l.map fun b=>(b.toNat:Int)).map (Value.int .u8):=by simp[byteV]
   rw[hm] at hload
   rw[run_bytesToString w p _ cap _ hload,foldl_push_bytes]
   congr 2
   have:(List.map (fun n:Int=>UInt8.ofNat n.toNat) (l.map fun b=>(b.toNat:Int)))=l:=by
    simp_all[List.map_congr_left]
   simp_all
 simp only[Sem.run_bind,convert,run_underlying hs,run_underlying hd,run_underlying he,Result.andThen_ok,SV.den,hconv,Sem.run_pure]
end
end Go.Eng
namespace Go.Eng
open Go Go.RowKit
variable {w:World}{i j:Nat}
inductive Sp where
 | rig (s:SV)
 | flx (R:Value->World->Prop)
def Sp.ok:Sp->Value->World->Prop
 | .rig s,v,_=>v=s.den
 | .flx R,v,w=>R v w
structure Rl where
 r:World->World->Prop
 refl:∀ w,r w w
 trans:∀ {a b c},r a b->r b c->r a c
 drew:∀ w,r w {w with drawn:=w.drawn+1}
abbrev ADI:Rl:=⟨Ext,Ext.refl,fun h k=>h.trans k,Ext.drew⟩
def Sp.stableX(X:Rl)(R:Sp):Prop:=∀ v w w',R.ok v w->X.r w w'->R.ok v w'
variable {X:Rl}
theorem Sp.stable_rig(s:SV):Sp.stableX X (.rig s):=fun _ _ _ h _=>h
def dn(acc:List Nat)(o:Oper):Nat:=o.after.foldl (fun s e=>if Region.binds .any e then s|||2^e.on|||acc.getD (acc.length-1-e.on) 0 else s) 0
def masks:List Oper->List Nat->List Nat
 | [],acc=>acc
 | o::r,acc=>masks r (dn acc o::acc)
inductive Anc (ops:Array Oper):Nat->Nat->Prop
 | step {j i:Nat} {o:Oper} {e:Edge}:ops[j]?=some o->e∈o.after->Region.binds .any e=true->e.on=i->Anc ops j i
 | more {j i:Nat} {o:Oper} {e:Edge}:ops[j]?=some o->e∈o.after->Region.binds .any e=true->Anc ops e.on i->Anc ops j i
theorem zf(f:Nat->Edge->Nat)(S:Edge->Nat->Prop)(hf:∀ s e i,(f s e).testBit i=true->s.testBit i=true\/S e i):
  ∀(l:List Edge) (s i:Nat),(l.foldl f s).testBit i=true->s.testBit i=true\/∃ e∈l,S e i:=by
 intro l
 induction l with
 | nil=>intro s i h;exact .inl h
 | cons e r ih =>
  intro s i h
  rw[List.foldl_cons] at h
  rcases ih _ _ h with h|⟨e',he',h⟩
  ·rcases hf _ _ _ h with h|h
   ·exact .inl h
   ·exact .inr ⟨e,by simp,h⟩
  ·exact .inr ⟨e',by simp[he'],h⟩
def dw(ops:Array Oper)(acc:List Nat):Prop:=∀ j i,j<acc.length->(acc.getD (acc.length-1-j) 0).testBit i=true->Anc ops j i
theorem jg(ops:Array Oper):∀(l:List Oper) (acc:List Nat),(∀ k,l[k]?=ops[acc.length+k]?)->(∀ j (o:Oper),ops[j]?=some o->∀ e∈o.after,Region.binds .any e=true->e.on<j)->dw ops acc->dw ops (masks l acc):=by
 intro l
 induction l with
 | nil=>intro acc _ _ h;exact h
 | cons o r ih =>
  intro acc hl hon h
  refine ih (dn acc o::acc) (fun k=>?_) hon ?_
  ·have:=hl (k+1)
   grind
  ·intro j i hj hb
   have ho:ops[acc.length]?=some o:=by have:=hl 0;simp_all
   simp only[List.length_cons] at hj hb
   by_cases hja:j=acc.length
   ·subst hja
    have hb':(dn acc o).testBit i=true:=zaU
    unfold dn at hb'
    rw[<-Array.foldl_toList] at hb'
    have:=zf (fun s e=>if Region.binds .any e then s|||2^e.on|||acc.getD (acc.length-1-e.on) 0 else s)
     (fun e i=>Region.binds .any e=true/\(e.on=i\/(acc.getD (acc.length-1-e.on) 0).testBit i=true)) (by
      grind) o.after.toList 0 i hb'
    rcases this with hz|⟨e,he,hbd,h1|h1⟩
    ·simp at hz
    ·exact .step ho (Array.mem_toList_iff.1 he) hbd h1
    ·have hlt:=hon _ o ho e (Array.mem_toList_iff.1 he) hbd
     exact .more ho (Array.mem_toList_iff.1 he) hbd (h e.on i hlt h1)
   ·refine h j i zaa ?_
    grind
def zg(ms:List Nat)(j i:Nat):Bool:=(ms.getD (ms.length-1-j) 0).testBit i
def allB(n:Nat)(f:Nat->Bool):Bool:=Nat.rec true (fun k ih=>f k&&ih) n
theorem Ir{n:Nat}{f:Nat->Bool}(h:allB n f=true):∀ i,i<n->f i=true:=by
 induction n with
 | zero=>omega
 | succ k ih =>
  have h':(f k&&allB k f)=true:=h
  grind
def En(ops:Array Oper)(i:Nat):Option Nat:=(ops[i]?).bind (·.dst)
def sJ(n k:Nat)(ops:Array Oper):Bool :=
 let ms:=masks ops.toList []
 (Nat.ble k ops.size&&allB ops.size fun j=>match ops[j]? with
  | none=>false
  | some o=>o.after.toList.all (fun e => !Region.binds .any e||Nat.blt e.on j)&&(match o.dst with|some d=>Nat.blt d n|none=>Nat.ble k j)&&(match o.op with|.select .. => false|_=>true)) &&
 allB ops.size fun j=>match ops[j]? with
  | none=>false
  | some o =>
   (if Nat.ble k j then allB j fun i=>zg ms j i else true) &&
   (allB ops.size fun i=>Nat.beq i j||(match En ops i with
    | none=>true
    | some d=>(Nat.ble k i||Nat.ble k j||En ops j != some d)&&(!(o.looksAt ops).contains d||(bif Nat.blt i j then zg ms j i else zg ms i j))))
section
variable {P:Program}{n k:Nat}{ops:Array Oper}{w0:World}
structure DrawOK (n k:Nat) (ops:Array Oper):Prop where
 hk:k<=ops.size
 edge:∀(j:Nat) (o:Oper),ops[j]?=some o->∀ e∈o.after,Region.binds .any e=true->e.on<j
 dstn:∀(j:Nat) (o:Oper) (d:Nat),ops[j]?=some o->o.dst=some d->d<n
 dsts:∀(j:Nat) (o:Oper),ops[j]?=some o->j<k->∃ d,o.dst=some d
 sel:∀(j:Nat) (o:Oper),ops[j]?=some o->∀ cs b,o.op≠.select cs b
 late:∀ j i:Nat,k<=j->j<ops.size->i<j->Anc ops j i
 uniq:∀ i j d:Nat,i≠j->i<k->j<k->En ops i=some d->En ops j≠some d
 look:∀(i j d:Nat) (o:Oper),i≠j->ops[j]?=some o->En ops i=some d->d∈o.looksAt ops->i<ops.size->(i<j/\Anc ops j i)\/(j<i/\Anc ops i j)
theorem jh(h:sJ n k ops=true):DrawOK n k ops:=by
 simp only[sJ,Bool.and_eq_true] at h
 obtain⟨⟨hk,h1⟩,h2⟩:=h
 have h1:=Ir h1
 have h2:=Ir h2
 have hk:k<=ops.size:=by simpa using hk
 have hlt:∀ j (o:Oper),ops[j]?=some o->j<ops.size:=fun j o ho=>(Array.getElem?_eq_some_iff.1 ho).1
 have edge:∀ j (o:Oper),ops[j]?=some o->∀ e∈o.after,Region.binds .any e=true->e.on<j:=by
  intro j o ho e he hbd
  have:=h1 j (hlt j o ho)
  rw[ho] at this
  simp only[Bool.and_eq_true,List.all_eq_true] at this
  have h3:=this.1.1 e (Array.mem_toList_iff.2 he)
  simp_all
 have hm:dw ops (masks ops.toList []):=jg ops _ _ zat edge (fun j i hj=>by simp at hj)
 have hml:(masks ops.toList []).length=ops.size:=by
  have:∀(l:List Oper) acc,(masks l acc).length=l.length+acc.length:=by
   intro l
   induction l with
   | nil|cons o r ih=>grind[masks]
  grind
 have hanc:∀ j i,j<ops.size->zg (masks ops.toList []) j i=true->Anc ops j i:=fun j i hj hb=>hm j i zaa hb
 refine⟨hk,edge,?_,?_,?_,?_,?_,?_⟩
 ·intro j o d ho hd
  have:=h1 j (hlt j o ho)
  rw[ho] at this
  simp_all
 ·intro j o ho hj
  have:=h1 j (hlt j o ho)
  rw[ho] at this
  simp only[Bool.and_eq_true] at this
  cases hd:o.dst with
  | some d=>simp_all
  | none=>have h3:=this.1.2;rw[hd] at h3;simp at h3;omega
 ·grind
 ·intro j i hkj hj hij
  have:=h2 j hj
  have ho:ops[j]?=some ops[j]:=Array.getElem?_eq_getElem hj
  rw[ho] at this
  simp only[Bool.and_eq_true] at this
  have h3:=this.1
  rw[if_pos (by simpa using hkj)] at h3
  grind[Ir]
 ·intro i j d hij hi hj hdi hdj
  have:=h2 j zaa
  have ho:ops[j]?=some ops[j]:=Array.getElem?_eq_getElem zaa
  rw[ho] at this
  simp only[Bool.and_eq_true] at this
  have h3:=Ir this.2 i zaa
  simp only[Bool.or_eq_true,hdi,Bool.and_eq_true] at h3
  rcases h3 with h3|h3
  ·simp_all
  ·rcases h3.1 with(h4|h4)|h4
   ·simp at h4;omega
   ·simp at h4;omega
   simp_all
 ·intro i j d o hij ho hdi hd hi
  have:=h2 j (hlt j o ho)
  rw[ho] at this
  simp only[Bool.and_eq_true] at this
  have h3:=Ir this.2 i hi
  simp only[Bool.or_eq_true,hdi,Bool.and_eq_true] at h3
  rcases h3 with h3|h3
  ·simp_all
  grind[Nat.blt_eq]
def XP(ops:Array Oper)(L:Lst)(Rs:Nat->Sp)(j:Nat)(lk:List Nat)(a:Act)(w:World):Prop :=
 ∀ t∈lk,(∀ i,i<j->En ops i=some t->(Rs i).ok (a.tmps.getD t undef) w)/\((∀ i,i<j->En ops i≠some t)->∀ s,lkp t L=some s->a.tmps.getD t undef=s.den)
def Vo(X:Rl)(P:Program)(n:Nat)(ops:Array Oper)(L:Lst)(w0:World)(Rs:Nat->Sp)(j:Nat):Prop :=
 ∀ o,ops[j]?=some o->∀(a:Act) (w:World),a.tmps.size=n->X.r w0 w->XP ops L Rs j (o.looksAt ops) a w ->
  (Region.wanted o (yielded ops a.tmps)=true->ja P a.eval o.op o.type w fun v w'=>X.r w w'/\(Rs j).ok v w') /\
  (Region.wanted o (yielded ops a.tmps)=false->(Rs j).ok undef w)
def FN(listed:Array Bool)(i:Nat):Prop:=listed.getD i false=true
structure Inv (X:Rl) (n k:Nat) (ops:Array Oper) (L:Lst) (w0:World) (Rs:Nat->Sp) (listed:Array Bool) (a:Act) (w:World):Prop where
 len:listed.size=ops.size
 size:a.tmps.size=n
 defers:a.defers=[]
 ext:X.r w0 w
 early:∀ j,k<=j->¬FN listed j
 closed:∀ j (o:Oper),ops[j]?=some o->FN listed j->∀ e∈o.after,Region.binds .any e=true->FN listed e.on
 res:∀ i d,FN listed i->En ops i=some d->(Rs i).ok (a.tmps.getD d undef) w
 old:∀ t s,lkp t L=some s->(∀ i,FN listed i->En ops i≠some t)->a.tmps.getD t undef=s.den
theorem Anc.listed{listed:Array Bool}(hc:∀ j (o:Oper),ops[j]?=some o->FN listed j->∀ e∈o.after,Region.binds .any e=true->FN listed e.on)
  {j i:Nat} (h:Anc ops j i) (hj:FN listed j):FN listed i:=by
 induction h with
 | step ho he hb hi|more ho he hb _ ih=>grind
theorem Anc.ready{listed:Array Bool}(hc:∀ j (o:Oper),ops[j]?=some o->FN listed j->∀ e∈o.after,Region.binds .any e=true->FN listed e.on)(h:Anc ops j i)(hj:∀ o,ops[j]?=some o->∀ e∈o.after,Region.binds .any e=true->FN listed e.on):FN listed i:=by
 cases h with
 | step ho he hb hi=>grind
 | more ho he hb h=>exact h.listed hc (hj _ ho _ he hb)
theorem XQ{listed:Array Bool}(hi:i<listed.size):FN (listed.setIfInBounds i true) j↔j=i\/FN listed j:=by
 unfold FN
 by_cases h:i=j
 ·subst h;simp[hi]
 ·rw[getD_set_ne false h];simp[Ne.symm h]
theorem XR(hd:DrawOK n k ops){Q:Exit->Act->World->Prop}:∀(fuel m:Nat) (listed:Array Bool) (a:Act) (w:World),k<=m->m+fuel=ops.size->listed.size=ops.size->(∀ i,i<ops.size->(FN listed i↔i<m)) ->
  wpList P ops Q (ops.toList.drop m) a w->wpAny P .any ops Q fuel listed a w:=by
 intro fuel
 induction fuel with
 | zero =>
  intro m listed a w hkm hm hl hL h
  have hr:Region.ready .any ops listed=[]:=by
   simp_all[Region.ready,FN]
  refine⟨hr,?_⟩
  rw[List.drop_of_length_le zaD] at h
  exact h
 | succ fuel ih =>
  intro m listed a w hkm hm hl hL h
  have hmlt:m<ops.size:=zaa
  have ho:ops[m]?=some ops[m]:=Array.getElem?_eq_getElem hmlt
  have hunl:∀ i,i<ops.size->(listed.getD i true=false↔¬FN listed i):=by
   grind[FN]
  have hmr:m∈Region.ready .any ops listed:=by
   rw[mem_ready]
   refine⟨(hunl m hmlt).2 zaL,_,ho,fun e he hb=>?_⟩
   have:=hd.edge m _ ho e he hb
   grind
  refine⟨fun h0=>zaL,fun i hi=>?_⟩
  have hi':=mem_ready.1 hi
  obtain⟨h0,o,hoi,hall⟩:=hi'
  have hilt:=(Array.getElem?_eq_some_iff.1 hoi).1
  have him:¬i<m:=zaL
  have hc:∀ j (o:Oper),ops[j]?=some o->FN listed j->∀ e∈o.after,Region.binds .any e=true->FN listed e.on:=by
   intro j o hj hjl e he hb
   have h1:=hd.edge j o hj e he hb
   grind
  have hiem:i=m:=by
   by_cases e:i=m
   ·exact e
   ·have ha:=hd.late i m zaa hilt zaa
    have:=ha.ready hc (fun o' ho' e he hb=>by grind)
    simp_all
  subst hiem
  have hdrop:ops.toList.drop i=ops[i]::ops.toList.drop (i+1):=by
   simp_all[List.drop_eq_getElem_cons]
  rw[hdrop] at h
  unfold wpOp
  rw[ho]
  simp only[wpList] at h
  have hnext:∀ a w,wpList P ops Q (ops.toList.drop (i+1)) a w->wpAny P .any ops Q fuel (listed.setIfInBounds i true) a w:=fun a w h =>
   ih (i+1) _ a w zaa zaa (by simp[hl]) (fun j hj=>by grind[XQ]) h
  show if _ then _ else _
  split
  ·rename_i hw
   rw[if_pos hw] at h
   grind[Oper.wp_mono]
  simp_all
def unl(listed:Array Bool)(N:Nat):Nat:=((List.range N).filter fun i => !listed.getD i false).length
theorem xE{listed:Array Bool}{N:Nat}(hi:i<listed.size)(hN:i<N)(h:¬FN listed i):unl (listed.setIfInBounds i true) N+1=unl listed N:=by
 unfold unl
 induction N with
 | zero=>omega
 | succ N ih =>
  rw[List.range_succ,List.filter_append,List.filter_append,List.length_append,List.length_append]
  by_cases e:i=N
  ·subst e
   have h1:((List.range i).filter fun j => !(listed.setIfInBounds i true).getD j false)=((List.range i).filter fun j => !listed.getD j false):=by
    apply List.filter_congr
    intro j hj
    have:j<i:=zaU
    rw[getD_set_ne false zaa]
   simp_all[FN]
  ·have:=ih zaa
   have h1:(listed.setIfInBounds i true).getD N false=listed.getD N false:=getD_set_ne false e
   grind
theorem XT{listed:Array Bool}{N:Nat}:unl listed N=0↔∀ i,i<N->FN listed i:=by
 simp_all[unl,FN]
theorem Ur{listed:Array Bool}{m:Nat}(N:Nat)(h:∀ i,i<N->(FN listed i↔i<m)):unl listed N=N-m:=by
 unfold unl
 induction N with
 | zero=>simp
 | succ N ih =>
  rw[List.range_succ,List.filter_append,List.length_append,ih fun i hi=>h i zaa]
  have:=h N zaa
  by_cases hN:N<m
  ·have:listed.getD N false=true:=this.2 hN
   grind
  ·have:listed.getD N false=false:=(Bool.not_eq_true _).mp fun e=>hN (this.1 e)
   grind
theorem sK(hd:DrawOK n k ops){L:Lst}{Rs:Nat->Sp}(hst:∀ i,i<k->Sp.stableX X (Rs i))(hob:∀ j,j<k->Vo X P n ops L w0 Rs j){Q:Exit->Act->World->Prop}
  (hfin:∀(a:Act) (w:World),a.tmps.size=n->a.defers=[]->X.r w0 w->(∀ i d,i<k->En ops i=some d->(Rs i).ok (a.tmps.getD d undef) w)->(∀ t s,lkp t L=some s->(∀ i,i<k->En ops i≠some t)->a.tmps.getD t undef=s.den) ->
   wpList P ops Q (ops.toList.drop k) a w) :
  ∀(fuel:Nat) (listed:Array Bool) (a:Act) (w:World),Inv X n k ops L w0 Rs listed a w->unl listed ops.size=fuel->wpAny P .any ops Q fuel listed a w:=by
 intro fuel
 induction fuel with
 | zero =>
  intro listed a w hI hf
  have hall:=XT.1 hf
  refine XR hd 0 ops.size listed a w hd.hk zaa hI.len (fun i hi=>⟨fun _=>hi,fun _=>hall i hi⟩) ?_
  have:k=ops.size:=by
   have:=hd.hk
   rcases Nat.lt_or_ge k ops.size with h|h
   ·exact absurd (hall k h) (hI.early k (Nat.le_refl _))
   ·omega
  rw[<-this]
  exact hfin a w hI.size hI.defers hI.ext (fun i d hi hdi=>hI.res i d (hall i zaa) hdi) (fun t s hs hno=>hI.old t s hs fun i hi=>by
   rcases Nat.lt_or_ge i k with h|h
   ·exact hno i h
   ·exact absurd hi (hI.early i h))
 | succ fuel ih =>
  intro listed a w hI hf
  by_cases hall:∀ i,i<k->FN listed i
  ·have hL:∀ i,i<ops.size->(FN listed i↔i<k):=fun i hi=>⟨fun h=>by
    rcases Nat.lt_or_ge i k with h'|h'
    ·exact h'
    ·exact absurd h (hI.early i h'),hall i⟩
   have:=Ur ops.size hL
   refine XR hd (fuel+1) k listed a w (Nat.le_refl _) zaa hI.len hL ?_
   exact hfin a w hI.size hI.defers hI.ext (fun i d hi hdi=>hI.res i d (hall i hi) hdi) (fun t s hs hno=>hI.old t s hs fun i hi=>by
    rcases Nat.lt_or_ge i k with h|h
    ·exact hno i h
    ·exact absurd hi (hI.early i h))
  ·have hunl:∀ i,i<ops.size->(listed.getD i true=false↔¬FN listed i):=by
    intro i hi
    have:=hI.len
    simp_all[FN]
   refine⟨fun h0=>?_,fun i hi=>?_⟩
   ·exfalso
    have hex:∃ i,i<k/\¬FN listed i:=by
     simp_all
    obtain⟨i,⟨hik,hin⟩,hmin⟩:=exists_least (p:=fun i=>i<k/\¬FN listed i) hex
    have hil:i<ops.size:=Nat.lt_of_lt_of_le hik hd.hk
    have ho:ops[i]?=some ops[i]:=Array.getElem?_eq_getElem hil
    have:i∈Region.ready .any ops listed:=by
     rw[mem_ready]
     refine⟨(hunl i hil).2 hin,_,ho,fun e he hb=>?_⟩
     have hlt:=hd.edge i _ ho e he hb
     grind
    simp_all
   ·have hi':=mem_ready.1 hi
    obtain⟨h0,o,ho,hedge⟩:=hi'
    have hilt:=(Array.getElem?_eq_some_iff.1 ho).1
    have hin:¬FN listed i:=(hunl i hilt).1 h0
    have hrd:∀ o',ops[i]?=some o'->∀ e∈o'.after,Region.binds .any e=true->FN listed e.on:=fun o' ho' e he hb=>by
     rw[ho] at ho';obtain rfl:=Option.some.inj ho';exact hedge e he hb
    have hik:i<k:=by
     refine Classical.byContradiction fun hn=>hall fun j hj=>?_
     exact(hd.late i j zaa hilt zaa).ready hI.closed hrd
    have hlook:XP ops L Rs i (o.looksAt ops) a w:=by
     intro t ht
     refine⟨fun j hj hdj=>?_,fun hno s hs=>hI.old t s hs fun j hj hdj=>?_⟩
     ·have hjl:j<ops.size:=zaa
      rcases hd.look j i t o zaa ho hdj ht hjl with⟨_,ha⟩|⟨h,_⟩
      ·exact hI.res j t (ha.ready hI.closed hrd) hdj
      ·omega
     ·have hjl:j<ops.size:=by
       grind[En]
      have hne:j≠i:=fun e=>hin (e▸hj)
      rcases hd.look j i t o hne ho hdj ht hjl with⟨h,_⟩|⟨_,ha⟩
      ·simp_all
      ·exact hin (ha.listed hI.closed hj)
    obtain⟨hyes,hnot⟩:=hob i hik o ho a w hI.size hI.ext hlook
    obtain⟨d,hdst⟩:=hd.dsts i o ho hik
    have hdo:En ops i=some d:=by grind[En]
    have hdn:=hd.dstn i o d ho hdst
    have next:∀(v:Value) (w':World),X.r w w'->(Rs i).ok v w'->wpAny P .any ops Q fuel (listed.setIfInBounds i true) (a.put o.dst v) w':=by
     intro v w' hx hv
     have hls:∀ j,FN (listed.setIfInBounds i true) j↔j=i\/FN listed j:=fun j=>XQ zaU
     have hgo:∀ t,t≠d->(a.put o.dst v).tmps.getD t undef=a.tmps.getD t undef:=fun t ht=>by rw[hdst];exact PM _ _ _ _ ht
     have hgs:(a.put o.dst v).tmps.getD d undef=v:=by rw[hdst];exact NM _ _ _ (by rw[hI.size];exact hdn)
     refine ih _ _ _ ⟨by simp[hI.len],by rw[PN];exact hI.size,by rw[put_defers];exact hI.defers,X.trans hI.ext hx,?_,?_,?_,?_⟩ (by grind[xE])
     ·intro j hj h
      rcases(hls j).1 h with rfl|h
      ·omega
      ·exact hI.early j hj h
     ·intro j o' ho' h e he hb
      refine(hls _).2 ?_
      rcases(hls j).1 h with rfl|h
      ·simp_all
      ·exact .inr (hI.closed j o' ho' h e he hb)
     ·intro j d' h hdj
      rcases(hls j).1 h with rfl|h
      ·simp_all
      ·have hjk:j<k:=by
        rcases Nat.lt_or_ge j k with h'|h'
        ·exact h'
        ·exact absurd h (hI.early j h')
       have hne:j≠i:=fun e=>hin (e▸h)
       have:d'≠d:=fun e=>hd.uniq j i d' hne hjk hik hdj (e▸hdo)
       rw[hgo d' this]
       exact hst j hjk _ _ _ (hI.res j d' h hdj) hx
     ·intro t s hs hno
      have h1:t≠d:=fun e=>hno i ((hls i).2 (.inl rfl)) (e▸hdo)
      rw[hgo t h1]
      exact hI.old t s hs fun j hj=>hno j ((hls j).2 (.inr hj))
    grind[wpOp,I7,Gz,X.refl]
abbrev Flx:=List (Nat×(Value->World->Prop))
def Vp(lk:List Nat)(w:World)(kk:Lst->Prop):Flx->Lst->Prop
 | [],L=>kk L
 | (t,R)::r,L=>bif lk.contains t then ∀ v,R v w->Vp lk w kk r ((t,.v v)::L) else Vp lk w kk r L
def eF(w:World)(kk:Lst->Prop):Flx->Lst->Prop
 | [],L=>kk L
 | (t,R)::r,L=>∀ v,R v w->eF w kk r ((t,.v v)::L)
def OPd(X:Rl)(P:Program)(ops:Array Oper)(o:Oper)(w:World)(R:Sp)(L:Lst):Prop :=
 match o.guard with
 | none=>OP P L o.op o.type w fun s w'=>X.r w w'/\R.ok s.den w'
 | some (j,want)=>∃ d b,En ops j=some d/\lkp d L=some (.v (.bool b))/\(b=want->OP P L o.op o.type w fun s w'=>X.r w w'/\R.ok s.den w')/\(b = !want->R.ok undef w)
def DRX(X:Rl)(P:Program)(ops:Array Oper)(w0:World)(fin:Lst->World->Prop):List Oper->Lst->Flx->Prop
 | [],L,F=>∀ w,X.r w0 w->eF w (fun L'=>fin L' w) F L
 | o::r,L,F=>∃ R:Sp,Sp.stableX X R/\(∀ w,X.r w0 w->Vp (o.looksAt ops) w (OPd X P ops o w R) F L) /\
   (match o.dst,R with
    | some d,.rig s=>DRX X P ops w0 fin r ((d,s)::L) F
    | some d,.flx R=>DRX X P ops w0 fin r L ((d,R)::F)
    | none,_=>False)
def sN(L:Lst)(F:Flx)(t:Nat)(v:Value)(w:World):Prop :=
 (∀ R,(t,R)∈F->R v w)/\((∀ R,(t,R)∉F)->∀ s,lkp t L=some s->v=s.den)
theorem sO{lk:List Nat}{kk:Lst->Prop}(val:Nat->Value):∀(F:Flx) (L:Lst),Vp lk w kk F L->(∀ t R,(t,R)∈F->t∈lk->R (val t) w) ->
  ∃ L',kk L'/\∀ t,t∈lk->((∀ s,lkp t L'=some s->s.den=val t)\/((∀ R,(t,R)∉F)/\lkp t L'=lkp t L)):=by
 intro F
 induction F with
 | nil=>intro L h _;exact⟨L,h,fun t _=>.inr ⟨fun R=>by simp,rfl⟩⟩
 | cons p r ih =>
  intro L h hv
  obtain⟨t,R⟩:=p
  unfold Vp at h
  cases hc:lk.contains t with
  | true =>
   rw[hc] at h
   have ht:t∈lk:=zaU
   obtain⟨L',hk,hL'⟩:=ih _ (h (val t) (hv t R zat ht)) fun t' R' h1 h2=>hv t' R' (by simp[h1]) h2
   refine⟨L',hk,fun u hu=>?_⟩
   rcases hL' u hu with h1|⟨h1,h2⟩
   ·exact .inl h1
   ·rw[lkp_cons] at h2
    by_cases e:u=t
    ·subst e
     rw[if_pos rfl] at h2
     exact .inl fun s hs=>by rw[h2] at hs;obtain rfl:=Option.some.inj hs;rfl
    simp_all
  | false =>
   grind
theorem eG{kk:Lst->Prop}(val:Nat->Value):∀(F:Flx) (L:Lst),eF w kk F L->(∀ t R,(t,R)∈F->R (val t) w) ->
  ∃ L',kk L'/\∀ t,((∀ s,lkp t L'=some s->s.den=val t)\/((∀ R,(t,R)∉F)/\lkp t L'=lkp t L)):=by
 intro F
 induction F with
 | nil=>intro L h _;exact⟨L,h,fun t=>.inr ⟨fun R=>by simp,rfl⟩⟩
 | cons p r ih =>
  intro L h hv
  obtain⟨t,R⟩:=p
  obtain⟨L',hk,hL'⟩:=ih _ (h (val t) (hv t R zat)) fun t' R' h1=>hv t' R' (by simp[h1])
  refine⟨L',hk,fun u=>?_⟩
  rcases hL' u with h1|⟨h1,h2⟩
  ·exact .inl h1
  ·rw[lkp_cons] at h2
   by_cases e:u=t
   ·subst e
    rw[if_pos rfl] at h2
    exact .inl fun s hs=>by rw[h2] at hs;obtain rfl:=Option.some.inj hs;rfl
   simp_all
theorem Zj{o:Oper}{a:Act}{L':Lst}{K:Value->World->Prop}(hs:∀ cs b,o.op≠.select cs b)(hL:∀ t,t∈o.looksAt ops->∀ s,lkp t L'=some s->a.tmps.getD t undef=s.den)(h:OP P L' o.op o.type w fun s w'=>K s.den w'):ja P a.eval o.op o.type w K:=by
 let e:Operand->Value:=fun x=>match x with
  | .tmp t=>if t∈o.looksAt ops then a.tmps.getD t undef else match lkp t L' with|some s=>s.den|none=>undef
  | .const v=>v
  | .global g=>.pointer (some ⟨g,0,none⟩)
  | .func f=>.func (.func f) #[] #[]
 have he:Val e L':=by
  intro x s hx
  cases x with
  | tmp t =>
   have hx':lkp t L'=some s:=hx
   grind
  | const c=>grind[RD,SV.den_of]
  | global g|func g=>simp only[RD,Option.some.injEq] at hx;subst hx;rfl
 have hop:=Gz (h e he) (K':=K) fun v w ⟨s,hs,k⟩=>hs▸k
 have hcg:execOp e ⟨none,o.op,o.type, "", #[],none⟩=execOp a.eval ⟨none,o.op,o.type, "", #[],none⟩:=by
  refine execOp_congr ⟨none,o.op,o.type, "", #[],none⟩ hs fun x hx=>?_
  cases x with
  | tmp t =>
   have:t∈o.looksAt ops:=List.mem_append_left _ (List.mem_filterMap.2 ⟨.tmp t,by grind,rfl⟩)
   show(if t∈o.looksAt ops then a.tmps.getD t undef else _)=a.tmps.getD t undef
   simp_all
  | const c|global g|func g=>rfl
 simp_all[ja]
theorem XP.congr{L:Lst}{Rs Rs':Nat->Sp}{lk:List Nat}{a:Act}(h:∀ i,i<j->Rs' i=Rs i)(hl:XP ops L Rs' j lk a w):XP ops L Rs j lk a w :=
 fun t ht=>⟨fun i hi hd=>h i hi▸(hl t ht).1 i hi hd,(hl t ht).2⟩
theorem Vo.congr{L:Lst}{Rs Rs':Nat->Sp}{j:Nat}(h:∀ i,i<=j->Rs' i=Rs i)(ho:Vo X P n ops L w0 Rs j):Vo X P n ops L w0 Rs' j:=by
 intro o hoj a w h1 h2 h3
 rw[h j (Nat.le_refl _)]
 exact ho o hoj a w h1 h2 (h3.congr fun i hi=>h i zaa)
theorem zh(hd:DrawOK n k ops){L0:Lst}{fin:Lst->World->Prop}:∀(l:List Oper) (j:Nat) (L:Lst) (F:Flx) (Rs:Nat->Sp),j+l.length=k->(∀ i,i<l.length->l[i]?=ops[j+i]?) ->
  (∀ t v w,(∀ i,i<j->En ops i=some t->(Rs i).ok v w)->((∀ i,i<j->En ops i≠some t)->∀ s,lkp t L0=some s->v=s.den)->sN L F t v w) ->
  (∀ t R,(t,R)∈F->∃ i,i<j/\En ops i=some t) ->
  (∀ i,i<j->Sp.stableX X (Rs i)/\Vo X P n ops L0 w0 Rs i)->DRX X P ops w0 fin l L F ->
  ∃ Rs':Nat->Sp,(∀ i,i<k->Sp.stableX X (Rs' i)/\Vo X P n ops L0 w0 Rs' i) /\
   ∀(a:Act) (w:World),X.r w0 w->(∀ i d,i<k->En ops i=some d->(Rs' i).ok (a.tmps.getD d undef) w)->(∀ t s,lkp t L0=some s->(∀ i,i<k->En ops i≠some t)->a.tmps.getD t undef=s.den) ->
    ∃ L',fin L' w/\sG a L':=by
 intro l
 induction l with
 | nil =>
  intro j L F Rs hj hl hS hF hob h
  simp only[List.length_nil,Nat.add_zero] at hj
  subst hj
  refine⟨Rs,hob,fun a w hw hres hold=>?_⟩
  have hslot:=fun t=>hS t (a.tmps.getD t undef) w (fun i hi hdi=>hres i t hi hdi) (fun hno s hs=>hold t s hs hno)
  obtain⟨L',hk,hL'⟩:=eG (fun t=>a.tmps.getD t undef) F L (h w hw) fun t R hm=>(hslot t).1 R hm
  refine⟨L',hk,fun t s hs=>?_⟩
  rcases hL' t with h1|⟨h1,h2⟩
  ·simp_all
  ·exact(hslot t).2 h1 s (h2▸hs)
 | cons o r ih =>
  intro j L F Rs hj hl hS hF hob h
  simp only[List.length_cons] at hj
  obtain⟨R,hR,hop,hrest⟩:=h
  have ho:ops[j]?=some o:=by have:=hl 0 zat;grind
  obtain⟨d,hdst⟩:=hd.dsts j o ho zaa
  have hdo:En ops j=some d:=by grind[En]
  rw[hdst] at hrest
  let Rs':Nat->Sp:=fun i=>if i=j then R else Rs i
  have e1:∀ i,i<j->Rs' i=Rs i:=fun i hi=>if_neg zaa
  have e2:Rs' j=R:=if_pos rfl
  have hnoF:∀ R',(d,R')∉F:=fun R' hm=>by
   obtain⟨i,hi,hdi⟩:=hF d R' hm
   exact hd.uniq i j d zaa zaa zaa hdi hdo
  have hnew:Vo X P n ops L0 w0 Rs' j:=by
   intro o' ho' a w hsz hw hlook
   rw[ho] at ho';obtain rfl:=Option.some.inj ho'
   have hlook:=hlook.congr (Rs:=Rs) e1
   have hslot:∀ t,t∈o.looksAt ops->sN L F t (a.tmps.getD t undef) w:=fun t ht=>hS t _ w (hlook t ht).1 (hlook t ht).2
   obtain⟨L',hk,hL'⟩:=sO (fun t=>a.tmps.getD t undef) F L (hop w hw) fun t R' hm ht=>(hslot t ht).1 R' hm
   have hval:∀ t,t∈o.looksAt ops->∀ s,lkp t L'=some s->a.tmps.getD t undef=s.den:=fun t ht s hs=>by
    rcases hL' t ht with h1|⟨h1,h2⟩
    ·grind
    ·exact(hslot t ht).2 h1 s (h2▸hs)
   rw[e2]
   unfold OPd at hk
   cases hg:o.guard with
   | none =>
    rw[hg] at hk
    have hw':Region.wanted o (yielded ops a.tmps)=true:=by simp[Region.wanted,hg]
    exact⟨fun _=>Zj (hd.sel j o ho) hval hk,fun h=>by grind⟩
   | some p =>
    obtain⟨g,want⟩:=p
    rw[hg] at hk
    obtain⟨d',b,hd',hb,hy,hn⟩:=hk
    have hlk:d'∈o.looksAt ops:=by
     refine List.mem_append_right _ ?_
     have:(ops[g]?).bind (·.dst)=some d':=hd'
     grind
    have hvb:=hval d' hlk _ hb
    have hgl:∃ og,ops[g]?=some og/\og.dst=some d':=by
     have:(ops[g]?).bind (·.dst)=some d':=hd'
     grind
    obtain⟨og,hog,hogd⟩:=hgl
    have hdn':=hd.dstn g og d' hog hogd
    have hyield:yielded ops a.tmps g=some b:=by
     simp only[yielded,hog,Option.bind_some,hogd]
     rw[Array.getD_eq_getD_getElem?] at hvb
     have hlt:d'<a.tmps.size:=zaa
     simp only[hlt,Array.getElem?_eq_getElem,Option.getD_some] at hvb ⊢
     rw[hvb];rfl
    have hwd:Region.wanted o (yielded ops a.tmps)=(b==want):=by
     grind[Region.wanted]
    refine⟨fun h=>Zj (hd.sel j o ho) hval (hy zaU),fun h=>hn ?_⟩
    rw[hwd] at h
    cases b<;>cases want<;>simp_all
  have hob':∀ i,i<j+1->Sp.stableX X (Rs' i)/\Vo X P n ops L0 w0 Rs' i:=fun i hi=>by
   by_cases hij:i=j
   ·grind
   ·have:=hob i zaa
    exact⟨e1 i zaa▸this.1,this.2.congr fun i' hi'=>e1 i' zaa⟩
  have hl':∀ i,i<r.length->r[i]?=ops[j+1+i]?:=fun i hi=>by
   have:=hl (i+1) zaD
   grind
  have hSne:∀ t v w,t≠d->(∀ i,i<j+1->En ops i=some t->(Rs' i).ok v w)->((∀ i,i<j+1->En ops i≠some t)->∀ s,lkp t L0=some s->v=s.den)->sN L F t v w:=fun t v w ht h1 h2 =>
   hS t v w (fun i hi hdi=>e1 i hi▸h1 i zaa hdi) (fun hno=>h2 fun i hi=>by
    grind)
  cases R with
  | rig s =>
   refine ih (j+1) ((d,s)::L) F Rs' zaa hl' ?_ (fun t R' hm=>by grind) hob' hrest
   intro t v w h1 h2
   by_cases ht:t=d
   ·subst ht
    have hv:=h1 j zaa hdo
    rw[e2] at hv
    refine⟨fun R' hm=>absurd hm (hnoF R'),fun _ s' hs'=>?_⟩
    rw[lkp_cons,if_pos rfl] at hs'
    obtain rfl:=Option.some.inj hs'
    exact hv
   ·have:=hSne t v w ht h1 h2
    exact⟨this.1,fun hn s' hs'=>this.2 hn s' (by rwa [lkp_cons,if_neg ht] at hs')⟩
  | flx R =>
   refine ih (j+1) L ((d,R)::F) Rs' zaa hl' ?_ (fun t R' hm=>by
    grind) hob' hrest
   intro t v w h1 h2
   by_cases ht:t=d
   ·subst ht
    have hv:=h1 j zaa hdo
    rw[e2] at hv
    refine⟨fun R' hm=>?_,fun hn=>absurd (List.mem_cons_self) (hn R)⟩
    rcases List.mem_cons.1 hm with h|h
    ·cases h;exact hv
    grind
   ·have:=hSne t v w ht h1 h2
    exact⟨fun R' hm=>by
     rcases List.mem_cons.1 hm with h|h
     ·grind
     ·exact this.1 R' h,fun hn=>this.2 fun R' hm=>hn R' (by simp[hm])⟩
theorem A1m(X:Rl){id:Nat}{l:List Oper}{Q:Post}{L:Lst}{w:World}(hm:P.follows .mixedOrders=true)(k:Nat)(hd:sJ n k l.toArray=true)
  (h:DRX X P l.toArray w (fun L' w'=>RL P n l.toArray Q (l.drop k) L' w') (l.take k) L []):FW P n (.region id l.toArray true) Q L w:=by
 intro a h1 h2 h3
 have hdk:=jh hd
 have hlen:(l.take k).length=k:=by have:=hdk.hk;simp_all
 obtain⟨Rs,hob,hfin⟩:=zh (n:=n) (w0:=w) hdk (L0:=L) (l.take k) 0 L [] (fun _=>.rig (.v undef)) zaa (fun i hi=>by simp_all) (fun t v w _ h2=>⟨(fun R hm=>by cases hm),fun _=>h2 fun i hi=>by omega⟩)
  (fun t R hm=>by cases hm) (fun i hi=>by omega) h
 refine wp_region_any hm ?_
 have hI:Inv X n k l.toArray L w Rs (Array.replicate l.toArray.size false) a {w with drawn:=w.drawn+1}:=by
  have hno:∀ j,¬FN (Array.replicate l.toArray.size false) j:=fun j h=>by
   unfold FN at h
   simp only[Array.getD_eq_getD_getElem?,Array.getElem?_replicate] at h
   grind
  exact⟨by simp,h1,h2,X.drew w,fun j _=>hno j,fun j o _ h=>absurd h (hno j),fun i d h=>absurd h (hno i),fun t s hs _=>h3 t s hs⟩
 have hu:unl (Array.replicate l.toArray.size false) l.toArray.size=l.toArray.size:=by
  have:=Ur (listed:=Array.replicate l.toArray.size false) (m:=0) l.toArray.size (fun i hi=>by
   simp_all[FN])
  omega
 refine sK hdk (fun i hi=>(hob i hi).1) (fun j hj=>(hob j hj).2) ?_ _ _ a _ hI hu
 intro a' w' h1' h2' hx hres hold
 obtain⟨L',hL',hA⟩:=hfin a' w' hx hres hold
 have:=hL' a' h1' h2' hA
 omega
abbrev DR(P:Program)(ops:Array Oper)(w0:World)(fin:Lst->World->Prop)(l:List Oper)(L:Lst)(F:Flx):Prop:=DRX ADI P ops w0 fin l L F
end
end Go.Eng
namespace Go.Eng
open Go Go.RowKit
variable {f:FuncId}
def Un(w:World)(b:Nat)(cells:List Value):Prop:=∃ T,w.heap[b]?=some (.cells cells.toArray T (0,0))
theorem Un.lt{w:World}{b:Nat}{c:List Value}(h:Un w b c):b<w.heap.size:=by
 obtain⟨T,h⟩:=h;grind
theorem Un.ext{w w':World}{b:Nat}{c:List Value}(h:Un w b c)(he:Ext w w'):Un w' b c:=by
 have hl:=h.lt
 obtain⟨T,h⟩:=h;exact⟨T,by rw[he.block b hl];exact h⟩
theorem Un.grown{w w':World}{b:Nat}{c:List Value}{r:Option Nat}(h:Un w b c)(hg:w.grownBy w' r)(hne:r≠some b):Un w' b c:=by
 have hl:=h.lt
 obtain⟨T,h⟩:=h;exact⟨T,by rw[hg.block b hl (fun e=>hne e.symm)];exact h⟩
theorem Un.cell{w:World}{b:Nat}{c:List Value}(h:Un w b c){j:Nat}{u:Value}(hu:c[j]?=some u):w.cell? ⟨b,j,none⟩=some u:=by
 obtain⟨T,h⟩:=h;simp[World.cell?,h,hu]
theorem Un.frozen{w:World}{b:Nat}{c:List Value}(h:Un w b c)(j:Nat):w.frozen? ⟨b,j,none⟩=false:=by
 obtain⟨T,h⟩:=h;simp[World.frozen?,h]
theorem Un.cs{w:World}{b:Nat}{c:List Value}(h:Un w b c)(j:Nat):Cs w ⟨b,j,none⟩ (c.drop j):=fun i u hu=>by
 rw[Addr.add_lit];exact h.cell zaL
theorem Un.set{w:World}{b:Nat}{c:List Value}(h:Un w b c)(j:Nat)(u:Value):Un (w.setCell ⟨b,j,none⟩ u) b (c.set j u):=by
 obtain⟨T,h⟩:=h
 refine⟨T,?_⟩
 simp_all[World.setCell,Array.getElem?_modify]
theorem Un.setRow{w:World}{b:Nat}{c c':List Value}(h:Un w b c):Un (w.setRow b c'.toArray) b c':=by
 obtain⟨T,h⟩:=h;exact⟨T,setRow_heap w b _ _ T _ h⟩
theorem GL(w:World)(b:Nat)(c:Array Value):w.grownBy (w.setRow b c) (some b):=by
 refine⟨rfl,rfl,rfl,by simp_all,fun k hk hne=>?_⟩
 simp only[World.setRow,Array.getElem?_modify]
 grind
theorem Un.sl{w:World}{b:Nat}{c:List Value}{sz n:Nat}(h:Un w b c)(hl:c.length=n*sz)(hm:n<=maxLen):Sl w sz (.slice (some ⟨b,0,none⟩) n n) c n :=
 ⟨_,n,rfl,hl,Nat.le_refl _,hm,(fun h=>by cases h),fun p hp=>by obtain rfl:=Option.some.inj hp;have:=h.cs 0;simp_all⟩
section
variable {P:Program}{L:Lst}{w:World}{ty:TypeId}{K:SV->World->Prop}{t e:Nat}
structure ArrT (P:Program) (t n e:Nat):Prop where
 ht:P.underlying t=some (.array n e)
 h1:(P.info? e).map (·.size)=some 1
theorem TM(h:(P.info? e).map (·.size)=some 1)(w:World):(sizeOf e).run P w=.ok 1 w:=by
 obtain⟨i,hi,hs⟩:=Option.map_eq_some_iff.1 h
 simp[sizeOf,typeInfo,hi,hs]
theorem sQ{x:Operand}{vs:Array Value}{i:Nat}{u:Value}(hx:RD L x=some (.v (.tuple vs)))(hu:vs[i]?=some u)(hk:K (.v u) w):OP P L (.extract x i) ty w K :=
 Jl (fun ρ he=>by
  have h1:execOp ρ ⟨none,.extract x i,ty, "", #[],none⟩=(do pure (.value (<-Instr.extract (ρ x) i))):=rfl
  rw[h1,he x _ hx]
  simp[Instr.extract,SV.den,hu]) hk
def evs(L:Lst):List Operand->Option (List SV)
 | []=>some []
 | x::r=>match RD L x,evs L r with|some s,some ss=>some (s::ss)|_,_=>none
theorem xG{ρ:Operand->Value}(he:Val ρ L):∀(xs:List Operand) (ss:List SV),evs L xs=some ss->xs.map ρ=ss.map SV.den:=by
 intro xs
 induction xs with
 | nil=>simp_all[evs]
 | cons x r ih =>
  intro ss h
  simp only[evs] at h
  split at h
  ·rename_i s ss' h1 h2
   obtain rfl:=Option.some.inj h
   rw[List.map_cons,List.map_cons,ih _ h2,he x s h1]
  ·cases h
def Ent(P:Program)(f:FuncId):Prop:=∀ args w,(callFunc f args).run P w=.ok (.enter f args) w
theorem Ent.mk{fn:Func}{c:Code}(hf:P.funcs[f]?=some fn) (hn:(fn.name == "runtime.NumGoroutine")=false) (hb:fn.body=some c):Ent P f:=by
 intro args w
 simp_all[callFunc]
theorem A1n{fx:Operand}{xs:Array Operand}{ats:Array TypeId}{first cap:Array Value}{ss:List SV}{R:Value->World->Prop}(hen:Ent P f)(hf:RD L fx=some (.v (.func (.func f) first cap)))(ha:evs L xs.toList=some ss)(hc:Calls P f (first++(ss.map SV.den).toArray++cap) w (zW R))(hk:∀ v w',R v w'->K (.v v) w'):OP P L (.call {callee:=.value fx,args:=xs,argTypes:=ats}) ty w K:=by
 intro ρ he
 unfold ja
 have h1:execOp ρ ⟨none,.call {callee:=.value fx,args:=xs,argTypes:=ats},ty, "", #[],none⟩=(do let d<-resolve ρ {callee:=.value fx,args:=xs,argTypes:=ats} ty;invoke d.target d.args):=rfl
 have hargs:xs.map ρ=(ss.map SV.den).toArray:=by
  grind[xG,Array.toList_map]
 have hr:(execOp ρ ⟨none,.call {callee:=.value fx,args:=xs,argTypes:=ats},ty, "", #[],none⟩).run P w=.ok (.enter f (first++(ss.map SV.den).toArray++cap)) w:=by
  rw[h1]
  simp only[resolve,he fx _ hf,SV.den,Deferred.ofValue,Sem.run_bind,Sem.run_pure,Result.andThen_ok,invoke,hargs,hen _ w]
 rw[hr]
 refine hc.mono fun e w' h=>?_
 cases e with
 | returned v=>exact⟨.v v,rfl,hk v w' h⟩
 | panicked ch|outgrown=>exact h
theorem A6A{xs:Array Operand}{ats:Array TypeId}{ss:List SV}{R:Value->World->Prop}(hen:Ent P f)(ha:evs L xs.toList=some ss)(hc:Calls P f (ss.map SV.den).toArray w (zW R))(hk:∀ v w',R v w'->K (.v v) w'):OP P L (.call {callee:=.value (.func f),args:=xs,argTypes:=ats}) ty w K :=
 A1n hen rfl ha zaU hk
end
section
variable {P:Program}{ops:Array Oper}{w0:World}{fin:Lst->World->Prop}{d:Nat}{op:Op}{ty:TypeId}{pos:String}{af:Array Edge}{r:List Oper}{L:Lst}{F:Flx}
def Zk(lk:List Nat):Flx->Bool
 | []=>true
 | (t,_)::r => !lk.contains t&&Zk lk r
theorem SA{lk:List Nat}{w:World}{kk:Lst->Prop}:∀ {F:Flx} {L:Lst},Zk lk F=true->kk L->Vp lk w kk F L:=by
 intro F
 induction F with
 | nil=>intro L _ h;exact h
 | cons p r ih =>
  simp_all[Zk,Vp]
def lks(op:Op):List Nat:=(op.operands.toList.filterMap fun|.tmp t=>some t|_=>none)++[]
theorem dr{s:SV}(hf:Zk (lks op) F=true)(h:∀ w,Ext w0 w->OP P L op ty w fun s' w'=>Ext w w'/\s'.den=s.den)(hr:DR P ops w0 fin r ((d,s)::L) F):DR P ops w0 fin (⟨some d,op,ty,pos,af,none⟩::r) L F :=
 ⟨.rig s,Sp.stable_rig s,fun w he=>SA hf (h w he),hr⟩
end
end Go.Eng
namespace Go.Eng
open Go Go.RowKit
abbrev Own{α:Type}(f:α->Value)(e base:Nat)(w:World)(v:Value)(l:List α):Prop:=w.ownsRow base e 1 v l.length (l.map f)
abbrev A1o{α:Type}(f:α->Value)(w:World)(v:Value)(l:List α):Prop:=Sl w 1 v (l.map f) l.length
theorem Own.hold{α:Type}{f:α->Value}{e base:Nat}{w:World}{v:Value}{l:List α}(h:Own f e base w v l):A1o f w v l:=Sl.of_own h
theorem Own.ext{α:Type}{f:α->Value}{e base:Nat}{w w':World}{v:Value}{l:List α}(h:Own f e base w v l)(he:Ext w w'):Own f e base w' v l :=
 h.kept (grownBy.of_ext he none) zaU
theorem Own.grown{α:Type}{f:α->Value}{e base:Nat}{w w':World}{v:Value}{l:List α}{r:Option Nat}(h:Own f e base w v l)(hg:w.grownBy w' r)(hne:∀ g,v.ownBlock=some g->r≠some g):Own f e base w' v l :=
 h.kept hg (by
  cases hv:v.ownBlock with
  | none=>grind
  | some g=>grind)
theorem Own.nil{α:Type}(f:α->Value)(e base:Nat)(w:World):Own f e base w (.slice none 0 0) ([]:List α):=World.ownsRow_nil w base e 1
theorem Own.lt{α:Type}{f:α->Value}{e base:Nat}{w:World}{v:Value}{l:List α}(h:Own f e base w v l){g:Nat}(hg:v.ownBlock=some g):base<=g/\g<w.heap.size:=World.ownsRow.lt h g hg
theorem A1o.nil{α:Type}(f:α->Value)(w:World):A1o f w (.slice none 0 0) ([]:List α):=Sl.nil w 1
theorem A1o.one{α:Type}{f:α->Value}(h1:∀ a,(f a).oneCell'=true)(l:List α):∀ c∈l.map f,c.oneCell'=true:=by
 simp_all
section
variable {P:Program}{L:Lst}{w:World}{ty:TypeId}{K:SV->World->Prop}{t e bytes:Nat}{z:Value}{α:Type}{f:α->Value}
section cuts
variable {x l h m:Operand}{v:Value}{q:List α}{il ih im:Int}
end cuts
end
abbrev ABC(w:World)(b:Nat)(ws:List UInt32):Prop:=Un w b (ws.map wordV)
theorem ABC.at{w w':World}{b:Nat}{ws:List UInt32}(h:ABC w b ws)(he:Ext w w')(j:Nat)(hj:j<ws.length):w'.cell? ⟨b,0+j,none⟩=some (wordV (ws.getD j 0)):=by
 refine(h.ext he).cell ?_
 simp_all
section
variable {P:Program}{L:Lst}{w:World}{ty:TypeId}{K:SV->World->Prop}{t:Nat}
end
theorem XU{α:Type}(l:List α)(n:Nat)(z x:α)(h:0<n):(l++List.replicate n z).set l.length x=(l++[x])++List.replicate (n-1) z:=by
 rw[List.set_append_right _ _ (Nat.le_refl _),Nat.sub_self]
 obtain⟨m,rfl⟩:∃ m,n=m+1:=⟨n-1,by omega⟩
 grind
end Go.Eng
namespace Go.Eng
variable (h:List UInt32)(l b:List UInt8)(s:List UInt32)(t i:Nat)
def zi(x:UInt32)(s:Nat):UInt32:=(x<<<UInt32.ofNat s)|||(x>>>UInt32.ofNat (32-s))
def Oq(x:UInt32)(s:Nat):UInt32:=(x>>>UInt32.ofNat s)|||(x<<<UInt32.ofNat (32-s))
theorem KX(x:UInt32)(s t:Nat)(h:s+t=32):zi x s=Oq x t:=by
 grind[zi,Oq]
def be32(l:List UInt8)(k:Nat):UInt32 :=
 (l.getD k 0).toUInt32<<<24|||(l.getD (k+1) 0).toUInt32<<<16|||(l.getD (k+2) 0).toUInt32<<<8|||(l.getD (k+3) 0).toUInt32
def zerosN(n:Nat):Nat:=(119-n%64)%64
def A6B(n:UInt64):List UInt8:=(List.range 8).map fun m=>(n>>>UInt64.ofNat (56-8*m)).toUInt8
def PG(l:List UInt8):List UInt8:=l++[128]++List.replicate (zerosN l.length) 0++A6B (UInt64.ofInt (l.length:Int)*8)
theorem ji:(PG l).length=64*((l.length+72)/64):=by
 simp[PG,A6B,zerosN];omega
def JP:List UInt32:=[
  0x428a2f98,0x71374491,0xb5c0fbcf,0xe9b5dba5,0x3956c25b,0x59f111f1,0x923f82a4,0xab1c5ed5,
  0xd807aa98,0x12835b01,0x243185be,0x550c7dc3,0x72be5d74,0x80deb1fe,0x9bdc06a7,0xc19bf174,
  0xe49b69c1,0xefbe4786,0x0fc19dc6,0x240ca1cc,0x2de92c6f,0x4a7484aa,0x5cb0a9dc,0x76f988da,
  0x983e5152,0xa831c66d,0xb00327c8,0xbf597fc7,0xc6e00bf3,0xd5a79147,0x06ca6351,0x14292967,
  0x27b70a85,0x2e1b2138,0x4d2c6dfc,0x53380d13,0x650a7354,0x766a0abb,0x81c2c92e,0x92722c85,
  0xa2bfe8a1,0xa81a664b,0xc24b8b70,0xc76c51a3,0xd192e819,0xd6990624,0xf40e3585,0x106aa070,
  0x19a4c116,0x1e376c08,0x2748774c,0x34b0bcb5,0x391c0cb3,0x4ed8aa4a,0x5b9cca4f,0x682e6ff3,
  0x748f82ee,0x78a5636f,0x84c87814,0x8cc70208,0x90befffa,0xa4506ceb,0xbef9a3f7,0xc67178f2]
def h256:List UInt32:=[0x6a09e667,0xbb67ae85,0x3c6ef372,0xa54ff53a,0x510e527f,0x9b05688c,0x1f83d9ab,0x5be0cd19]
def h1:List UInt32:=[0x67452301,0xefcdab89,0x98badcfe,0x10325476,0xc3d2e1f0]
def sg0(x:UInt32):UInt32:=Oq x 7^^^Oq x 18^^^x>>>3
def sg1(x:UInt32):UInt32:=Oq x 17^^^Oq x 19^^^x>>>10
def OM(b:List UInt8)(ws:List UInt32)(t:Nat):UInt32 :=
 if t<16 then be32 b (4*t) else sg1 (ws.getD (t-2) 0)+ws.getD (t-7) 0+sg0 (ws.getD (t-15) 0)+ws.getD (t-16) 0
def Ey(b:List UInt8):Nat->List UInt32
 | 0=>[]
 | t+1=>Ey b t++[OM b (Ey b t) t]
theorem OO:(Ey b t).length=t:=by
 induction t with
 | zero=>rfl
 | succ t ih=>simp[Ey,ih]
def eP(k w:UInt32)(s:List UInt32):List UInt32 :=
 let a:=s.getD 0 0
 let e:=s.getD 4 0
 let t1:=s.getD 7 0+(Oq e 6^^^Oq e 11^^^Oq e 25)+(e&&&s.getD 5 0 ^^^ ~~~e&&&s.getD 6 0)+k+w
 let t2:=(Oq a 2^^^Oq a 13^^^Oq a 22)+(a&&&s.getD 1 0^^^a&&&s.getD 2 0^^^s.getD 1 0&&&s.getD 2 0)
 [t1+t2,s.getD 0 0,s.getD 1 0,s.getD 2 0,s.getD 3 0+t1,s.getD 4 0,s.getD 5 0,s.getD 6 0]
def OQ(ws s:List UInt32):Nat->List UInt32
 | 0=>s
 | t+1=>eP (JP.getD t 0) (ws.getD t 0) (OQ ws s t)
theorem jk(ws s:List UInt32)(hs:s.length=8)(t:Nat):(OQ ws s t).length=8:=by
 cases t with
 | zero=>exact hs
 | succ t=>rfl
def TN(h s:List UInt32)(i:Nat):List UInt32:=(List.zipWith (· + ·) (h.take i) (s.take i))++h.drop i
theorem A1p(hl:h.length=s.length)(hi:i<=h.length):(TN h s i).length=h.length:=by
 simp[TN];omega
theorem jl(hl:h.length=s.length)(hi:i<h.length):(TN h s i).getD i 0=h.getD i 0:=by
 have h1:(List.zipWith (· + ·) (h.take i) (s.take i)).length=i:=zaD
 simp_all[TN,List.getElem?_append_right]
theorem A1q(hl:h.length=s.length)(hi:i<h.length):(TN h s i).set i (h.getD i 0+s.getD i 0)=TN h s (i+1):=by
 have h1:(List.zipWith (· + ·) (h.take i) (s.take i)).length=i:=zaD
 have hs:i<s.length:=zaa
 unfold TN
 rw[List.set_append_right _ _ zaa,h1,Nat.sub_self,List.drop_eq_getElem_cons hi,List.set_cons_zero,List.take_succ_eq_append_getElem hi,List.take_succ_eq_append_getElem hs,
  List.zipWith_append zaD]
 simp_all
def Em(h:List UInt32)(b:List UInt8):List UInt32:=TN h (OQ (Ey b 64) h 64) 8
def jm(b:List UInt8)(ws:List UInt32)(t:Nat):UInt32 :=
 if t<16 then be32 b (4*t) else zi (ws.getD (t-3) 0^^^ws.getD (t-8) 0^^^ws.getD (t-14) 0^^^ws.getD (t-16) 0) 1
def Nh(b:List UInt8):Nat->List UInt32
 | 0=>[]
 | t+1=>Nh b t++[jm b (Nh b t) t]
theorem jo:(Nh b t).length=t:=by
 induction t with
 | zero=>rfl
 | succ t ih=>simp[Nh,ih]
def f1(t:Nat)(b c d:UInt32):UInt32 :=
 if t<20 then b&&&c ^^^ ~~~b&&&d else if t<40 then b^^^c^^^d else if t<60 then b&&&c^^^b&&&d^^^c&&&d else b^^^c^^^d
def k1(t:Nat):UInt32:=if t<20 then 0x5a827999 else if t<40 then 0x6ed9eba1 else if t<60 then 0x8f1bbcdc else 0xca62c1d6
structure S5 where
 a:UInt32
 b:UInt32
 c:UInt32
 d:UInt32
 e:UInt32
def WY(t:Nat)(w:UInt32)(s:S5):S5:=⟨zi s.a 5+f1 t s.b s.c s.d+s.e+k1 t+w,s.a,zi s.b 30,s.c,s.d⟩
def jq(ws:List UInt32)(s:S5):Nat->S5
 | 0=>s
 | t+1=>WY t (ws.getD t 0) (jq ws s t)
def Lc(h:List UInt32)(b:List UInt8):List UInt32 :=
 let s:=jq (Nh b 80) ⟨h.getD 0 0,h.getD 1 0,h.getD 2 0,h.getD 3 0,h.getD 4 0⟩ 80
 [h.getD 0 0+s.a,h.getD 1 0+s.b,h.getD 2 0+s.c,h.getD 3 0+s.d,h.getD 4 0+s.e]
def He(f:List UInt32->List UInt8->List UInt32):Nat->List UInt32->List UInt8->List UInt32
 | 0,h,_=>h
 | n+1,h,p=>He f n (f h (p.take 64)) (p.drop 64)
def wb(w:UInt32):List UInt8:=[(w>>>24).toUInt8,(w>>>16).toUInt8,(w>>>8).toUInt8,w.toUInt8]
def IM(ws:List UInt32):List UInt8:=ws.flatMap wb
def sha256(l:List UInt8):List UInt8:=IM (He Em ((PG l).length/64) h256 (PG l))
def sha1(l:List UInt8):List UInt8:=IM (He Lc ((PG l).length/64) h1 (PG l))
theorem Ku(hh:h.length=8):(Em h b).length=8:=by
 have:=jk (Ey b 64) h hh 64
 grind[Em,TN]
theorem Us:(Lc h b).length=5:=rfl
theorem MH{f:List UInt32->List UInt8->List UInt32}{m:Nat}(hf:∀ h b,h.length=m->(f h b).length=m):∀(n:Nat) (h:List UInt32) (p:List UInt8),h.length=m->(He f n h p).length=m:=by
 intro n
 induction n with
 | zero=>intro h p hh;exact hh
 | succ n ih=>intro h p hh;exact ih _ _ (hf _ _ hh)
theorem Vq(ws:List UInt32):(IM ws).length=4*ws.length:=by
 induction ws with
 | nil=>rfl
 | cons w r ih=>grind[IM,List.length_cons,wb]
theorem A7:(sha256 l).length=32:=by
 rw[sha256,Vq,MH (m:=8) Ku _ _ _ rfl]
theorem XV:(sha1 l).length=20:=by
 rw[sha1,Vq,MH (m:=5) (fun h b _=>Us h b) _ _ _ rfl]
def ABD(alg:Int)(l:List UInt8):List UInt8:=if alg=0 then sha1 l else if alg=1 then sha256 l else []
end Go.Eng
namespace Go.Eng
open Go
section
variable {P:Program}{L:Lst}{w:World}{ty:TypeId}{K:SV->World->Prop}{t:TypeId}
theorem A1r{c a b:Operand}{s:SV}(hc:RD L c=some (.v (.bool false)))(hb:RD L b=some s)(hk:K s w):OP P L (.pick c a b) ty w K :=
 Jl (fun e he=>by simp[execOp,he c _ hc,he b _ hb,SV.den,asBool]) hk
end
section
variable {P:Program}{n:Nat}{L:Lst}{w:World}{ops:Array Oper}{Q:Post}{rest:List Oper}
theorem ABE{d d' j:Nat}{want:Bool}{op:Op}{ty:TypeId}{pos:String}{af:Array Edge}(hj:(ops[j]?).bind (·.dst)=some d')(hb:lkp d' L=some (.v (.bool want)))
  (hy:OP P L op ty w fun s w'=>RL P n ops Q rest ((d,s)::L) w') (hd:Nat.blt d n=true) (hd':Nat.blt d' n=true) :
  RL P n ops Q (⟨some d,op,ty,pos,af,some (j,want)⟩::rest) L w:=stg hj hb (fun _=>hy) (fun h=>by grind) hd hd'
end
theorem jr(w:World)(g k n:Nat)(a:Addr):(w.freeze ⟨g,k,none⟩ n).cell? a=w.cell? a:=by
 unfold World.freeze
 split
 ·rfl
 ·simp only[World.cell?,Array.getElem?_modify]
  grind
theorem XW(w:World)(g k n:Nat):w.grownBy (w.freeze ⟨g,k,none⟩ n) (some g):=by
 unfold World.freeze
 split
 ·exact⟨rfl,rfl,rfl,Nat.le_refl _,fun _ _ _=>rfl⟩
 ·refine⟨rfl,rfl,rfl,by simp,fun i hi hne=>?_⟩
  grind
end Go.Eng
namespace Go.Eng
open Go
variable (n:Nat)
def sS(l:List UInt8):List UInt8:=wb (UInt32.ofInt (l.length:Int))
def fieldsB(ls:List (List UInt8)):List UInt8:=ls.flatMap fun l=>sS l++l
def Az(tag:Int)(ls:List (List UInt8)):List UInt8:=UInt8.ofInt tag::fieldsB ls
theorem Hu(l:List UInt8):(sS l).length=4:=rfl
theorem eQ(ls:List (List UInt8))(i:Nat)(l:List UInt8)(h:ls[i]?=some l):fieldsB (ls.take (i+1))=fieldsB (ls.take i)++sS l++l:=by
 grind[List.take_succ_eq_append_getElem,fieldsB]
theorem sU(h:n<4294967296):(UInt32.ofInt (n:Int)).toNat=n:=by
 simp[UInt32.ofInt];omega
theorem A1s(x:UInt32):wb x=[UInt8.ofNat (x.toNat/16777216),UInt8.ofNat (x.toNat/65536),UInt8.ofNat (x.toNat/256),UInt8.ofNat x.toNat]:=by
 have h24:((24:UInt32).toNat%32)=24:=rfl
 have h16:((16:UInt32).toNat%32)=16:=rfl
 have h8:((8:UInt32).toNat%32)=8:=rfl
 grind[wb,UInt8.toNat_inj,UInt32.toNat_toUInt8,UInt32.toNat_shiftRight,Nat.shiftRight_eq_div_pow,UInt8.toNat_ofNat']
theorem eU:UInt8.ofInt (n:Int)=UInt8.ofNat n:=by
 apply UInt8.toNat_inj.1
 simp[UInt8.ofInt]
 omega
theorem ADJ(h:n<4294967296):[UInt8.ofInt ((n:Int)/2^24),UInt8.ofInt ((n:Int)/2^16),UInt8.ofInt ((n:Int)/2^8),UInt8.ofInt (n:Int)]=wb (UInt32.ofInt (n:Int)):=by
 grind[A1s,sU,eU]
abbrev ADK(w:World)(v:Value)(vs:List Value):Prop:=A1o (fun x:Value=>x) w v vs
structure Rw (w:World) (vs:List Value) (ls:List (List UInt8)):Prop where
 len:vs.length=ls.length
 row:∀(i:Nat) (u:Value) (l:List UInt8),vs[i]?=some u->ls[i]?=some l->Bytes w u l
theorem Rw.ext{w w':World}{vs:List Value}{ls:List (List UInt8)}(h:Rw w vs ls)(he:Ext w w'):Rw w' vs ls:=⟨h.len,fun i u l h1 h2=>(h.row i u l h1 h2).ext he⟩
theorem Rw.at{w:World}{vs:List Value}{ls:List (List UInt8)}(h:Rw w vs ls)(i:Nat)(hi:i<ls.length):∃ u,vs[i]?=some u/\Bytes w u (ls.getD i []):=by
 have hv:i<vs.length:=by rw[h.len];exact hi
 refine⟨vs[i],List.getElem?_eq_getElem hv,h.row i _ _ (List.getElem?_eq_getElem hv) ?_⟩
 simp_all
def Mat(w:World)(v:Value)(ls:List (List UInt8)):Prop:=∃ vs,ADK w v vs/\Rw w vs ls
theorem Mat.ext{w w':World}{v:Value}{ls:List (List UInt8)}(h:Mat w v ls)(he:Ext w w'):Mat w' v ls:=by
 obtain⟨vs,h1,h2⟩:=h;exact⟨vs,h1.ext he,h2.ext he⟩
end Go.Eng
namespace Go.Eng
open Go
section
variable {P:Program}{ops:Array Oper}{w0:World}{fin:Lst->World->Prop}{d:Nat}{op:Op}{ty:TypeId}{pos:String}{af:Array Edge}{r:List Oper}{L:Lst}{F:Flx}
end
end Go.Eng
namespace Go
def ND(n:Nat)(fz:Nat×Nat):Prop:=n<=fz.1\/fz.2=0
theorem ND.no{w:World}{g n o:Nat}{cur:Array Value}{e:TypeId}{fz:Nat×Nat}(h:ND n fz)(hg:w.heap[g]?=some (.cells cur e fz))(ho:o<n):w.frozen? ⟨g,o,none⟩=false:=by
 grind[ND,World.frozen?]
def World.ownsG(w:World)(base:Nat)(e:TypeId)(size:Nat)(v:Value)(n:Nat)(xs:List Value):Prop :=
 xs.length=n*size/\((v=.slice none 0 0/\n=0) \/
  ∃ g cap cur fz,v=.slice (some ⟨g,0,none⟩) n cap/\base<=g/\w.heap[g]?=some (.cells cur e fz)/\n<=cap/\cap<=maxLen/\cur.size=cap*size/\cur.toList.take (n*size)=xs/\ND cur.size fz)
theorem World.ownsRow.G{w:World}{base:Nat}{e:TypeId}{size:Nat}{v:Value}{n:Nat}{xs:List Value}(h:w.ownsRow base e size v n xs):w.ownsG base e size v n xs:=by
 refine⟨h.1,?_⟩
 rcases h.2 with hn|⟨g,cap,cur,h1,h2,h3,h4,h5,h6,h7⟩
 ·exact .inl hn
 ·exact .inr ⟨g,cap,cur,(0,0),h1,h2,h3,h4,h5,h6,h7,.inr rfl⟩
theorem World.ownsG_nil(w:World)(base:Nat)(e:TypeId)(size:Nat):w.ownsG base e size (.slice none 0 0) 0 []:=(World.ownsRow_nil w base e size).G
theorem World.ownsG.cells{w:World}{base:Nat}{e:TypeId}{size:Nat}{v:Value}{n:Nat}{xs:List Value}(h:w.ownsG base e size v n xs){g:Nat}(hg:v.ownBlock=some g):∀ j u,xs[j]?=some u->w.cell? ((⟨g,0,none⟩:Addr).add j)=some u:=by
 intro j u hu
 rcases h.2 with⟨rfl,_⟩|⟨g',cap,cur,fz,rfl,_,hgg,_,_,_,ht,_⟩
 ·cases hg
 ·simp only[Value.ownBlock,Option.some.injEq] at hg
  subst hg
  rw[<-ht] at hu
  have hj:=(List.getElem?_eq_some_iff.1 hu).1
  rw[List.getElem?_take_of_lt zaU] at hu
  simp_all[Addr.add_lit,World.cell?]
theorem World.alloc_old_G(w:World)(o:Obj)(k:Nat)(hk:k<w.heap.size):(w.drew.alloc o).heap[k]?=w.heap[k]?:=heap_alloc_old w.drew o hk
section
variable {P:Program}
theorem Es(g o:Nat)(t:TypeId)(fz:Nat×Nat):∀(vs:List Value) (i:Nat) (cur:Array Value) (w:World),w.heap[g]?=some (.cells cur t fz)->ND cur.size fz->o+i+vs.length<=cur.size->(∀ v∈vs,v.oneCell'=true) ->
  (storeCells ⟨g,o,none⟩ vs i).run P w=.ok () (w.setRow g (cur.toList.take (o+i)++vs++cur.toList.drop (o+i+vs.length)).toArray)
 | [],i,cur,w,hg,_,_,_=>by
  simp only[storeCells,List.append_nil,List.length_nil,Nat.add_zero,List.take_append_drop,Array.toArray_toList]
  rw[setRow_self w g cur t fz hg]
  rfl
 | v::rest,i,cur,w,hg,hfz,hl,h1=>by
  have hi:o+i<cur.size:=zaU
  have hadd:(⟨g,o,none⟩:Addr).add i=⟨g,o+i,none⟩:=by simp_all[Addr.add]
  have hcell:w.cell? ⟨g,o+i,none⟩=some cur[o+i]:=by simp[World.cell?,hg,hi]
  have hfro:w.frozen? ⟨g,o+i,none⟩=false:=hfz.no hg hi
  have hst:(store ((⟨g,o,none⟩:Addr).add i) v).run P w=.ok () (w.setRow g (cur.setIfInBounds (o+i) v)):=by
   grind[run_store,setCell_eq_setRow]
  have ih:=Es g o t fz rest (i+1) (cur.setIfInBounds (o+i) v) (w.setRow g (cur.setIfInBounds (o+i) v)) (setRow_heap w g cur _ t _ hg) zaU zaU (fun x hx=>h1 x (by simp[hx]))
  simp only[storeCells,Sem.run_bind,hst,Result.andThen_ok,ih,setRow_setRow]
  congr 3
  have e:=list_seg_step cur.toList (o+i) v rest zaa
  simp_all[Nat.add_assoc]
variable (w:World)
theorem TP(t ty e:TypeId)(i:TypeInfo)(ht:P.underlying t=some (.slice e))(hi:P.info? e=some i)
  (g n cap:Nat) (cur:Array Value) (fz:Nat×Nat) (hg:w.heap[g]?=some (.cells cur e fz)) (hfz:ND cur.size fz)
  (a:Addr) (m c:Nat) (news:List Value) (hl:news.length=m*i.size) (hnews:∀ j u,news[j]?=some u->w.cell? (a.add j)=some u) (h1:∀ u∈news,u.oneCell'=true)
  (hroom:n+m<=cap) (hfit:n*i.size+news.length<=cur.size) :
  (Builtin.append_ #[t,t] ty #[.slice (some ⟨g,0,none⟩) n cap,.slice (some a) m c]).run P w =
   .ok (.slice (some ⟨g,0,none⟩) (n+m) cap) (w.setRow g (cur.toList.take (n*i.size)++news++cur.toList.drop (n*i.size+news.length)).toArray):=by
 have hf:=run_firstCells_some (P:=P) w i.size m a m c news hl hnews
 have hst:=Es (P:=P) g (n*i.size) e fz news 0 cur w hg hfz zaa h1
 simp only[Nat.add_zero] at hst
 simp[Builtin.append_,run_underlying ht,sizeOf,typeInfo,hi,Builtin.lenOf,hroom,hf,Addr.add_lit,hst]
theorem TQ(base:Nat)(t ty e:TypeId)(i:TypeInfo)(size:Nat)(ht:P.underlying t=some (.slice e))(hi:P.info? e=some i)
  (v:Value) (n:Nat) (xs:List Value) (hown:w.ownsG base e size v n xs):(Builtin.append_ #[t,t] ty #[v,.slice none 0 0]).run P w=.ok v w:=by
 rcases hown.2 with⟨rfl,rfl⟩|⟨g,cap,cur,fz,rfl,_,_,hnc,_⟩
 ·simp[Builtin.append_,run_underlying ht,sizeOf,typeInfo,hi,Builtin.lenOf,Builtin.firstCells]
 ·simp[Builtin.append_,run_underlying ht,sizeOf,typeInfo,hi,Builtin.lenOf,Builtin.firstCells,hnc,storeCells]
theorem SB(dT sT ty elem:TypeId)(g o dLen dCap:Nat)(a:Addr)(sLen sCap:Nat)(cur:Array Value)(t:TypeId)(fz:Nat×Nat)(cs:List Value)
  (hu:P.underlying dT=some (.slice elem)) (hs:(P.info? elem).map (·.size)=some 1)
  (hg:w.heap[g]?=some (.cells cur t fz)) (hfz:ND cur.size fz) (hn:cs.length=Nat.min sLen dLen)
  (hsrc:∀ j v,cs[j]?=some v->w.cell? (a.add j)=some v) (hfit:o+cs.length<=cur.size) (h1:∀ v∈cs,v.oneCell'=true) :
  (Builtin.copy_ #[dT,sT] ty #[.slice (some ⟨g,o,none⟩) dLen dCap,.slice (some a) sLen sCap]).run P w =
   .ok (goInt cs.length) (w.setRow g (cur.toList.take o++cs++cur.toList.drop (o+cs.length)).toArray):=by
 have hl:=run_loadCells_list (P:=P) w a cs hsrc
 have hst:=Es (P:=P) g o t fz cs 0 cur w hg hfz zaa h1
 cases hq:P.info? elem with
 | none=>grind
 | some i =>
  simp_all[Builtin.copy_,run_underlying,Builtin.lenOf,Builtin.firstCells,sizeOf,typeInfo]
theorem TR(base:Nat)(t ty e:TypeId)(i:TypeInfo)(z:Value)(size bytes:Nat)(ht:P.underlying t=some (.slice e))(hi:P.info? e=some i)(hz:i.zero=some z)
  (hsize:i.size=size) (hby:i.bytes=bytes) (hzs:z.cells.size=size) (hsz:0<size)
  (v:Value) (n:Nat) (xs:List Value) (hown:w.ownsG base e size v n xs)
  (a:Addr) (m c:Nat) (news:List Value) (hl:news.length=m*size) (hnews:∀ j u,news[j]?=some u->w.cell? (a.add j)=some u) (h1:∀ u∈news,u.oneCell'=true)
  (h63:n+m<=maxLen) (hbytes:(n+m)*bytes<=140737488355328) (hbase:base<=w.heap.size) :
  ∃ v' w',(Builtin.append_ #[t,t] ty #[v,.slice (some a) m c]).run P w=.ok v' w'/\w'.ownsG base e size v' (n+m) (xs++news)/\w.grownBy w' v.ownBlock /\
   (v'=.slice none 0 0↔v=.slice none 0 0/\m=0):=by
 rcases hown.2 with⟨rfl,rfl⟩|⟨g,cap,cur,fz,rfl,hbg,hg,hnc,hcm,hcs,htake,hfz⟩
 ·have hx:xs=[]:=List.eq_nil_of_length_eq_zero (by simpa using hown.1)
  subst hx
  obtain⟨v',w',h2,h3,h4⟩:=run_append_own (P:=P) w base t ty e i z size bytes ht hi hz hsize hby hzs hsz _ 0 [] (World.ownsRow_nil w base e size) a m c news hl hnews h1 h63 hbytes hbase
  exact⟨v',w',h2,h3.G,h4⟩
 ·subst hsize
  subst hby
  have hlen:(xs++news).length=(n+m)*i.size:=by rw[List.length_append,hown.1,hl,Nat.add_mul]
  by_cases hroom:n+m<=cap
  ·have hfit:n*i.size+news.length<=cur.size:=by rw[hl,hcs,<-Nat.add_mul];exact Nat.mul_le_mul_right _ hroom
   have hf:=run_firstCells_some (P:=P) w i.size m a m c news hl hnews
   have hst:=Es (P:=P) g (n*i.size) e fz news 0 cur w hg hfz (by simpa using hfit) h1
   simp only[Nat.add_zero] at hst
   have hr:(Builtin.append_ #[t,t] ty #[.slice (some ⟨g,0,none⟩) n cap,.slice (some a) m c]).run P w =
     .ok (.slice (some ⟨g,0,none⟩) (n+m) cap) (w.setRow g (cur.toList.take (n*i.size)++news++cur.toList.drop (n*i.size+news.length)).toArray):=by
    simp[Builtin.append_,run_underlying ht,sizeOf,typeInfo,hi,Builtin.lenOf,hroom,hf,Addr.add_lit,hst]
   refine⟨_,_,hr,⟨hlen,.inr ⟨g,cap,_,fz,rfl,hbg,setRow_heap w g cur _ e _ hg,hroom,hcm,?_,?_,?_⟩⟩,⟨rfl,rfl,rfl,by simp,fun k _ hk=>setRow_other w g k _ (fun e=>hk (by simp[Value.ownBlock,e]))⟩,by simp⟩
   ·simp only[List.size_toArray,List.length_append,List.length_take,List.length_drop,Array.length_toList]
    omega
   ·rw[htake,<-hlen]
    exact List.take_left
   ·have:(cur.toList.take (n*i.size)++news++cur.toList.drop (n*i.size+news.length)).toArray.size=cur.size:=by
     simp only[List.size_toArray,List.length_append,List.length_take,List.length_drop,Array.length_toList]
     omega
    rw[this];exact hfz
  ·have holds:∀ j u,xs[j]?=some u->w.cell? ((⟨g,0,none⟩:Addr).add j)=some u:=hown.cells (g:=g) rfl
   have hr:=run_append_grow (P:=P) w t ty e i z ht hi hz ⟨g,0,none⟩ n cap xs hown.1 holds a m c news hl hnews zaa (by simp only[maxLen] at h63;omega) (growslice_fits zaa hbytes)
   have hge:=grownCap_ge w (n+m) cap e
   have hcm':grownCap w (n+m) cap e<=maxLen:=grownCap_le_maxLen w (n+m) cap e h63
   refine⟨_,_,hr,⟨hlen,.inr ⟨w.heap.size,_,_,(0,0),rfl,hbase,heap_alloc_new w.drew _,hge,hcm',?_,?_,.inr rfl⟩⟩,⟨rfl,rfl,rfl,by simp,fun k hk _=>World.alloc_old_G w _ k hk⟩,by simp⟩
   ·simp only[Array.size_append,List.size_toArray,size_zeroCells,hzs,hown.1,hl,<-Nat.add_mul]
    congr 1
    omega
   ·simp only[Array.toList_append,List.append_assoc]
    rw[<-List.append_assoc,<-hlen]
    exact List.take_left
open Lib in
theorem SC(t u ty e:TypeId)(i:TypeInfo)(z:Value)(ht:P.underlying t=some (.slice e))(hu:P.underlying u=some .string)(hi:P.info? e=some i)(hz:i.zero=some z)(s:ByteArray)(h0:0<s.size)
  (h63:(s.size:Int)<=9223372036854775807) (hfit:Builtin.nextslicecap s.size 0*i.bytes<=281474976710656) :
  (Builtin.append_ #[t,u] ty #[.slice none 0 0,.string s]).run P w =
   .ok (.slice (some ⟨w.heap.size,0,none⟩) s.size (grownCap w s.size 0 e)) (w.drew.alloc (.cells ((strCells s).toArray++Builtin.zeroCells z.cells (grownCap w s.size 0 e-s.size)) e)):=by
 have hn:¬(s.size=0):=zaa
 have h63':¬(9223372036854775807<(s.size:Int)):=zaa
 have h48':¬(281474976710656<Builtin.nextslicecap s.size 0*i.bytes):=zaa
 have hf:=run_firstCells_string (P:=P) w.drew i.size s
 have hfn:(Builtin.firstCells i.size 0 (.slice none 0 0)).run P w.drew=.ok #[] w.drew:=by simp[Builtin.firstCells]
 simp[Builtin.append_,run_underlying ht,run_underlying hu,sizeOf,typeInfo,zeroValue,hi,hz,Builtin.lenOf,hn,h63',h48',Question.forced,hf,hfn,newRow,grownCap]
open Lib in
theorem Ut(t u ty e:TypeId)(i:TypeInfo)(z:Value)(ht:P.underlying t=some (.slice e))(hu:P.underlying u=some .string)(hi:P.info? e=some i)(hz:i.zero=some z)
  (hsize:i.size=1) (hby:i.bytes=1) (hzs:z.cells.size=1)
  (v:Value) (n:Nat) (xs:List Value) (hown:w.ownsG 0 e 1 v n xs) (s:ByteArray) (hbytes:n+s.size<=140737488355328) :
  ∃ v' w',(Builtin.append_ #[t,u] ty #[v,.string s]).run P w=.ok v' w'/\w'.ownsG 0 e 1 v' (n+s.size) (xs++strCells s)/\w.grownBy w' v.ownBlock/\(∀ b,v'.ownBlock=some b->w.heap.size<=b\/v.ownBlock=some b):=by
 have h63:n+s.size<=maxLen:=by unfold maxLen;omega
 have hxl:xs.length=n:=by simpa using hown.1
 have hlen:(xs++strCells s).length=(n+s.size)*1:=by rw[List.length_append,hxl,strCells_length,Nat.mul_one]
 rcases hown.2 with⟨rfl,rfl⟩|⟨g,cap,cur,fz,rfl,hbg,hg,hnc,hcm,hcs,htake,hfz⟩
 ·have hx:xs=[]:=List.eq_nil_of_length_eq_zero hxl
  subst hx
  by_cases h0:s.size=0
  ·have hs0:strCells s=[]:=List.eq_nil_of_length_eq_zero (by rw[strCells_length];exact h0)
   refine⟨.slice none 0 0,w,?_,by rw[h0,hs0];exact World.ownsG_nil w 0 e 1,⟨rfl,rfl,rfl,Nat.le_refl _,fun _ _ _=>rfl⟩,fun b hb=>by cases hb⟩
   have hf:(Builtin.firstCells i.size s.size (.string s)).run P w=.ok (strCells s).toArray w:=run_firstCells_string (P:=P) w i.size s
   rw[hs0] at hf
   simp[Builtin.append_,run_underlying ht,run_underlying hu,sizeOf,typeInfo,hi,Builtin.lenOf,h0,Builtin.firstCells]
  ·have hr:=SC (P:=P) w t u ty e i z ht hu hi hz s zaa zaa zbl
   have hge:=grownCap_ge w s.size 0 e
   refine⟨_,_,hr,⟨by simpa using hlen,.inr ⟨w.heap.size,_,_,(0,0),by rw[Nat.zero_add],Nat.zero_le _,heap_alloc_new w.drew _,by rw[Nat.zero_add];exact hge,grownCap_le_maxLen w s.size 0 e zaa,?_,?_,.inr rfl⟩⟩,⟨rfl,rfl,rfl,by simp,fun k hk _=>World.alloc_old_G w _ k hk⟩,fun b hb=>?_⟩
   ·simp only[Array.size_append,List.size_toArray,size_zeroCells,hzs,strCells_length];omega
   ·simp only[Array.toList_append,Nat.zero_add,Nat.mul_one,List.nil_append]
    rw[<-strCells_length s];exact List.take_left
   ·simp only[Value.ownBlock,Option.some.injEq] at hb;omega
 ·by_cases hroom:n+s.size<=cap
  ·have hcs':cur.size=cap:=by simpa using hcs
   have hf:=run_firstCells_string (P:=P) w 1 s
   have hst:=Es (P:=P) g n e fz (strCells s) 0 cur w hg hfz (by simp only[strCells_length];omega) (strCells_oneCell s)
   simp only[Nat.add_zero,strCells_length] at hst
   have hr:(Builtin.append_ #[t,u] ty #[.slice (some ⟨g,0,none⟩) n cap,.string s]).run P w =
     .ok (.slice (some ⟨g,0,none⟩) (n+s.size) cap) (w.setRow g (cur.toList.take n++strCells s++cur.toList.drop (n+s.size)).toArray):=by
    simp[Builtin.append_,run_underlying ht,run_underlying hu,sizeOf,typeInfo,hi,hsize,Builtin.lenOf,hroom,hf,Addr.add_lit,hst]
   refine⟨_,_,hr,⟨hlen,.inr ⟨g,cap,_,fz,rfl,hbg,setRow_heap w g cur _ e _ hg,hroom,hcm,?_,?_,?_⟩⟩,⟨rfl,rfl,rfl,by simp,fun k _ hk=>setRow_other w g k _ (fun e=>hk (by simp[Value.ownBlock,e]))⟩,fun b hb=>.inr hb⟩
   ·simp only[List.size_toArray,List.length_append,List.length_take,List.length_drop,Array.length_toList,strCells_length];omega
   ·have ht':cur.toList.take n=xs:=by simpa using htake
    rw[ht',<-hlen]
    exact List.take_left
   ·refine cast (congrArg (fun n=>ND n fz) ?_) hfz
    simp only[List.size_toArray,List.length_append,List.length_take,List.length_drop,Array.length_toList,strCells_length];omega
  ·have holds:∀ j u,xs[j]?=some u->w.cell? ((⟨g,0,none⟩:Addr).add j)=some u:=hown.cells (g:=g) rfl
   have hr:=run_append_grow_string (P:=P) w t u ty e i z ht hu hi hz ⟨g,0,none⟩ n cap xs (by rw[hsize];simpa using hxl) holds s zaa zaa zbl
   have hge:=grownCap_ge w (n+s.size) cap e
   refine⟨_,_,hr,⟨hlen,.inr ⟨w.heap.size,_,_,(0,0),rfl,Nat.zero_le _,heap_alloc_new w.drew _,hge,grownCap_le_maxLen w (n+s.size) cap e h63,?_,?_,.inr rfl⟩⟩,⟨rfl,rfl,rfl,by simp,fun k hk _=>World.alloc_old_G w _ k hk⟩,fun b hb=>?_⟩
   ·simp only[Array.size_append,List.size_toArray,size_zeroCells,hzs,hxl,strCells_length];omega
   ·simp only[Array.toList_append,List.append_assoc]
    rw[<-List.append_assoc,<-hlen]
    exact List.take_left
   ·simp only[Value.ownBlock,Option.some.injEq] at hb;omega
open Lib in
theorem TS(t u ty e:TypeId)(i:TypeInfo)(z:Value)(ku kn:IntKind)(ht:P.underlying t=some (.slice e))(hu:P.underlying u=some (.int ku))(hi:P.info? e=some i)(hz:i.zero=some z)
  (hsize:i.size=1) (hby:i.bytes=1) (hzs:z.cells = #[.int .u8 0])
  (v:Value) (n:Nat) (xs:List Value) (hown:w.ownsG 0 e 1 v n xs) (k:Nat) (hbytes:n+k<=140737488355328) :
  ∃ v' w',(Builtin.append_ #[t,u] ty #[v,.int kn k]).run P w=.ok v' w'/\w'.ownsG 0 e 1 v' (n+k) (xs++List.replicate k (.int .u8 0))/\w.grownBy w' v.ownBlock/\(∀ b,v'.ownBlock=some b->w.heap.size<=b\/v.ownBlock=some b):=by
 have h63:n+k<=maxLen:=by unfold maxLen;omega
 have hxl:xs.length=n:=by simpa using hown.1
 have hzs1:z.cells.size=1:=by rw[hzs];rfl
 have hzc:∀ k,(Builtin.zeroCells z.cells k).toList=List.replicate k (.int .u8 0):=fun k=>by
  rw[Builtin.zeroCells,hzs]
  apply List.ext_getElem
  ·simp
  ·intro q h1 h2
   simp[Nat.mod_one]
 have hzsz:∀ k,(Builtin.zeroCells z.cells k).size=k:=fun k=>by rw[size_zeroCells,hzs1,Nat.mul_one]
 have hlen:(xs++List.replicate k (Value.int .u8 0)).length=(n+k)*1:=by rw[List.length_append,hxl,List.length_replicate,Nat.mul_one]
 have hw:IntKind.i64.wrap (k:Int)=k:=by rw[IntKind.wrap_i64];omega
 have h48i:¬(281474976710656<(k:Int)*(i.bytes:Int)):=by rw[hby];omega
 have hneg:¬((k:Int)<0):=zaa
 rcases hown.2 with⟨rfl,rfl⟩|⟨g,cap,cur,fz,rfl,hbg,hg,hnc,hcm,hcs,htake,hfz⟩
 ·have hx:xs=[]:=List.eq_nil_of_length_eq_zero hxl
  subst hx
  by_cases h0:k=0
  ·subst h0
   refine⟨.slice none 0 0,w,?_,World.ownsG_nil w 0 e 1,⟨rfl,rfl,rfl,Nat.le_refl _,fun _ _ _=>rfl⟩,fun b hb=>by cases hb⟩
   have hw0:IntKind.i64.wrap (0:Int)=0:=zaj
   simp[Builtin.append_,run_underlying ht,run_underlying hu,sizeOf,typeInfo,hi,asInt,asIntOf,hw0]
  ·have hr:=run_append_nil_zeros (P:=P) w t u ty e i z kn ku ht hu hi hz k zaa zaa zaa (by rw[hby];omega)
   have hge:=grownCap_ge w k 0 e
   refine⟨_,_,hr,⟨by simpa using hlen,.inr ⟨w.heap.size,_,_,(0,0),by rw[Nat.zero_add],Nat.zero_le _,heap_alloc_new w.drew _,by rw[Nat.zero_add];exact hge,grownCap_le_maxLen w k 0 e zaa,?_,?_,.inr rfl⟩⟩,⟨rfl,rfl,rfl,by simp,fun k hk _=>World.alloc_old_G w _ k hk⟩,fun b hb=>?_⟩
   ·simp only[Array.size_append,hzsz];omega
   ·simp only[Array.toList_append,Nat.zero_add,Nat.mul_one,List.nil_append,hzc]
    exact List.take_left' zat
   ·simp only[Value.ownBlock,Option.some.injEq] at hb;omega
 ·by_cases hroom:n+k<=cap
  ·have hcs':cur.size=cap:=by simpa using hcs
   have hst:=Es (P:=P) g n e fz (List.replicate k (Value.int .u8 0)) 0 cur w hg hfz (by simp only[List.length_replicate];omega) (fun u hu=>by rw[List.eq_of_mem_replicate hu];rfl)
   simp only[Nat.add_zero,List.length_replicate] at hst
   have hr:(Builtin.append_ #[t,u] ty #[.slice (some ⟨g,0,none⟩) n cap,.int kn k]).run P w =
     .ok (.slice (some ⟨g,0,none⟩) (n+k) cap) (w.setRow g (cur.toList.take n++List.replicate k (Value.int .u8 0)++cur.toList.drop (n+k)).toArray):=by
    by_cases hk0:k=0
    ·subst hk0
     have hw0:IntKind.i64.wrap (0:Int)=0:=zaj
     simp at hst
     simp[Builtin.append_,run_underlying ht,run_underlying hu,sizeOf,typeInfo,hi,hsize,asInt,asIntOf,hw0,hnc,Addr.add_lit,hst]
    ·have hz2:=hzc k
     simp[Builtin.append_,run_underlying ht,run_underlying hu,sizeOf,typeInfo,zeroValue,hi,hz,hsize,asInt,asIntOf,hw,hneg,h48i,hk0,hroom,hz2,Addr.add_lit,hst]
   refine⟨_,_,hr,⟨hlen,.inr ⟨g,cap,_,fz,rfl,hbg,setRow_heap w g cur _ e _ hg,hroom,hcm,?_,?_,?_⟩⟩,⟨rfl,rfl,rfl,by simp,fun k _ hk=>setRow_other w g k _ (fun e=>hk (by simp[Value.ownBlock,e]))⟩,fun b hb=>.inr hb⟩
   ·simp only[List.size_toArray,List.length_append,List.length_take,List.length_drop,Array.length_toList,List.length_replicate];omega
   ·have ht':cur.toList.take n=xs:=by simpa using htake
    rw[ht',<-hlen]
    exact List.take_left
   ·refine cast (congrArg (fun n=>ND n fz) ?_) hfz
    simp only[List.size_toArray,List.length_append,List.length_take,List.length_drop,Array.length_toList,List.length_replicate];omega
  ·have holds:∀ j u,xs[j]?=some u->w.cell? ((⟨g,0,none⟩:Addr).add j)=some u:=hown.cells (g:=g) rfl
   have hold:(Builtin.firstCells i.size n (.slice (some ⟨g,0,none⟩) n cap)).run P w.drew=.ok xs.toArray w.drew:=by
    exact run_firstCells_some (P:=P) w.drew i.size n ⟨g,0,none⟩ n cap xs (by rw[hsize];omega) (fun j u hu=>by simpa using holds j u hu)
   have hr:=run_append_grow_zeros (P:=P) w t u ty e i z kn ku ht hu hi hz (some ⟨g,0,none⟩) n cap xs hold k zaa zaa zaa zaa (by rw[hby];omega) zbl
   have hge:=grownCap_ge w (n+k) cap e
   refine⟨_,_,hr,⟨hlen,.inr ⟨w.heap.size,_,_,(0,0),rfl,Nat.zero_le _,heap_alloc_new w.drew _,hge,grownCap_le_maxLen w (n+k) cap e h63,?_,?_,.inr rfl⟩⟩,⟨rfl,rfl,rfl,by simp,fun k hk _=>World.alloc_old_G w _ k hk⟩,fun b hb=>?_⟩
   ·simp only[Array.size_append,List.size_toArray,hzsz,hxl];omega
   ·simp only[Array.toList_append,hzc]
    rw[<-hlen]
    exact List.take_left
   ·simp only[Value.ownBlock,Option.some.injEq] at hb;omega
theorem A9P(src dst e:TypeId)(s:ByteArray)(hs:P.underlying src=some .string)(hd:P.underlying dst=some (.slice e))(he:P.underlying e=some (.int .u8))(hm:s.size<=maxLen):
  ∃ v w',(convert src dst (.string s)).run P w=.ok v w'/\w'.ownsG w.heap.size e 1 v s.size (s.data.toList.map fun b=>Value.int .u8 b.toNat)/\w.grownBy w' none/\v.ownBlock=some w.heap.size:=by
 have hr:=run_bytes_of_string (P:=P) w src dst e s hs hd he
 have hge:=grownCap_ge w s.size 0 e
 have hcs:(bytesRow s (grownCap w s.size 0 e)).size=grownCap w s.size 0 e*1:=by
  simp only[bytesRow,Array.size_append,Array.size_map,Array.size_replicate]
  simp_all
 refine⟨_,_,hr,⟨by simp,.inr ⟨w.heap.size,_,_,_,rfl,Nat.le_refl _,heap_alloc_new w.drew _,hge,grownCap_le_maxLen w s.size 0 e hm,hcs,?_,.inl (Nat.le_refl _)⟩⟩,⟨rfl,rfl,rfl,by simp,fun k hk _=>World.alloc_old_G w _ k hk⟩,rfl⟩
 simp_all[bytesRow]
end
theorem _root_.Go.Eng.Sl.of_ownG{w:World}{base e sz n:Nat}{v:Value}{c:List Value}(h:w.ownsG base e sz v n c):Go.Eng.Sl w sz v c n:=by
 have hl:=h.1
 rcases h.2 with⟨rfl,rfl⟩|⟨g,cap,cur,fz,rfl,hb,hh,hn,hm,hs,ht⟩
 ·simp_all[Go.Eng.Sl.nil]
 ·exact⟨some ⟨g,0,none⟩,cap,rfl,hl,hn,hm,(fun h=>by cases h),fun p hp=>by obtain rfl:=Option.some.inj hp;exact fun j u hu=>h.cells rfl j u hu⟩
end Go
namespace Go.Ax
open Go Go.RowKit Go.Eng
variable {a:Act}{w w':World}{sz:Nat}{v:Value}(t d:Nat)
structure Stp (O:Nat->Prop) (w w':World):Prop where
 os:w'.os=w.os
 tape:w'.tape=w.tape
 output:w'.output=w.output
 size:w.heap.size<=w'.heap.size
 block:∀ k,k<w.heap.size->¬O k->w'.heap[k]?=w.heap[k]?
theorem Stp.refl(O:Nat->Prop)(w:World):Stp O w w:=⟨rfl,rfl,rfl,Nat.le_refl _,fun _ _ _=>rfl⟩
theorem Stp.trans{O:Nat->Prop}{a b c:World}(h:Stp O a b)(k:Stp O b c):Stp O a c :=
 ⟨k.os.trans h.os,k.tape.trans h.tape,k.output.trans h.output,Nat.le_trans h.size k.size,fun i hi hn=>(k.block i (Nat.lt_of_lt_of_le hi h.size) hn).trans (h.block i hi hn)⟩
theorem Stp.then{O O1 O2:Nat->Prop}{a b c:World}(h:Stp O1 a b)(k:Stp O2 b c)(h1:∀ i,i<a.heap.size->O1 i->O i)(h2:∀ i,i<a.heap.size->O2 i->O i):Stp O a c :=
 ⟨k.os.trans h.os,k.tape.trans h.tape,k.output.trans h.output,Nat.le_trans h.size k.size,fun i hi hn=>(k.block i (Nat.lt_of_lt_of_le hi h.size) (fun e=>hn (h2 i hi e))).trans (h.block i hi (fun e=>hn (h1 i hi e)))⟩
theorem Stp.mono{O O':Nat->Prop}{a b:World}(h:Stp O a b)(k:∀ i,i<a.heap.size->O i->O' i):Stp O' a b :=
 ⟨h.os,h.tape,h.output,h.size,fun i hi hn=>h.block i hi (fun e=>hn (k i hi e))⟩
abbrev No:Nat->Prop:=fun _=>False
theorem Stp.of_ext(h:Ext w w')(O:Nat->Prop):Stp O w w':=⟨h.os,h.tape,h.output,h.size,fun i hi _=>h.block i hi⟩
theorem Stp.ext(h:Stp No w w'):Ext w w':=⟨h.os,h.tape,h.output,h.size,fun i hi=>h.block i hi id⟩
theorem Stp.of_grown{r:Option Nat}(h:w.grownBy w' r):Stp (fun b=>r=some b) w w':=⟨h.os,h.tape,h.output,h.size,fun i hi hn=>h.block i hi (fun e=>hn e.symm)⟩
inductive Ty where
 | bool|i64|u8|u32|u64|str|unit
 | pair (a b:Ty)
 | sl (e:Ty)
 deriving DecidableEq
@[reducible] def El:Ty->Type
 | .bool=>Bool|.i64=>Int|.u8=>UInt8|.u32=>UInt32|.u64=>UInt64|.str=>List UInt8|.unit=>Unit
 | .pair a b=>El a×El b
 | .sl e=>List (El e)
def Ty.n:Ty->Nat
 | .unit=>0
 | .pair a b=>a.n+b.n
 | _=>1
def Ec{α β:Type}(R:α->β->Prop):List α->List β->Prop
 | [],[]=>True
 | a::l,b::m=>R a b/\Ec R l m
 | _,_=>False
theorem Ec.len{α β:Type}{R:α->β->Prop}:∀ {l:List α} {m:List β},Ec R l m->m.length=l.length
 | [],[],_=>rfl
 | a::l,b::m,h=>by simp[Ec.len h.2]
 | [],b::m,h|a::l,[],h=>h.elim
theorem Ec.mono{α β:Type}{R R':α->β->Prop}(hR:∀ a b,R a b->R' a b):∀ {l:List α} {m:List β},Ec R l m->Ec R' l m
 | [],[],_=>trivial
 | a::l,b::m,h=>⟨hR _ _ h.1,Ec.mono hR h.2⟩
 | [],b::m,h|a::l,[],h=>h.elim
theorem Ec.get{α β:Type}{R:α->β->Prop}:∀ {l:List α} {m:List β} {i:Nat} {a:α},Ec R l m->l[i]?=some a->∃ b,m[i]?=some b/\R a b
 | [],[],i,a,_,h=>zbq
 | x::l,y::m,0,a,h,hi=>⟨y,rfl,by simp at hi;exact hi▸h.1⟩
 | x::l,y::m,i+1,a,h,hi=>by
  obtain⟨b,h1,h2⟩:=Ec.get h.2 (i:=i) (a:=a) zaU
  simp_all
 | [],b::m,_,_,h,_|a::l,[],_,_,h,_=>h.elim
theorem Ec.app{α β:Type}{R:α->β->Prop}:∀ {l l':List α} {m m':List β},Ec R l m->Ec R l' m'->Ec R (l++l') (m++m')
 | [],_,[],_,_,h=>h
 | a::l,_,b::m,_,h,h'=>⟨h.1,Ec.app h.2 h'⟩
 | [],_,b::m,_,h,_|a::l,_,[],_,h,_=>h.elim
theorem Ec.take{α β:Type}{R:α->β->Prop}:∀ {l:List α} {m:List β} (n:Nat),Ec R l m->Ec R (l.take n) (m.take n)
 | _,_,0,_|[],[],n+1,_=>by simp[Ec]
 | a::l,b::m,n+1,h=>by simp only[List.take_succ_cons];exact⟨h.1,Ec.take n h.2⟩
 | [],b::m,_+1,h|a::l,[],_+1,h=>h.elim
theorem Ec.drop{α β:Type}{R:α->β->Prop}:∀ {l:List α} {m:List β} (n:Nat),Ec R l m->Ec R (l.drop n) (m.drop n)
 | l,m,0,h=>za8
 | [],[],n+1,_=>by simp[Ec]
 | a::l,b::m,n+1,h=>by simpa using Ec.drop n h.2
 | [],b::m,_+1,h|a::l,[],_+1,h=>h.elim
def CR:(t:Ty)->El t->List Value->World->Prop
 | .bool,x,us,_=>us=[.bool x]
 | .i64,x,us,_=>us=[.int .i64 x]
 | .u8,x,us,_=>us=[byteV x]
 | .u32,x,us,_=>us=[wordV x]
 | .u64,x,us,_=>us=[IL x]
 | .str,x,us,_=>us=[.string ⟨x.toArray⟩]
 | .unit,_,us,_=>us=[]
 | .pair a b,x,us,w=>∃ u1 u2,us=u1++u2/\CR a x.1 u1 w/\CR b x.2 u2 w
 | .sl e,l,us,w=>∃ v cs,us=[v]/\Ec (fun x c=>CR e x c w) l cs/\Sl w e.n v cs.flatten l.length
def Rd(t:Ty)(l:List (El t))(v:Value)(w:World):Prop:=∃ cs,Ec (fun x c=>CR t x c w) l cs/\Sl w t.n v cs.flatten l.length
theorem CR.len{w:World}:∀ {t:Ty} {x:El t} {us:List Value},CR t x us w->us.length=t.n
 | .bool,x,us,h|.i64,x,us,h|.u8,x,us,h|.u32,x,us,h|.u64,x,us,h|.str,x,us,h|.unit,x,us,h=>by simp only[CR] at h;subst h;rfl
 | .pair a b,x,us,h=>by
  simp only[CR] at h
  obtain⟨u1,u2,rfl,h1,h2⟩:=h
  rw[List.length_append,CR.len h1,CR.len h2];rfl
 | .sl e,x,us,h=>by simp only[CR] at h;obtain⟨v,cs,rfl,_⟩:=h;rfl
theorem Sl.one{n:Nat}{c:List Value}(h:Sl w sz v c n):v.oneCell'=true:=by
 obtain⟨a,cap,rfl,_⟩:=h;rfl
theorem CR.one{w:World}:∀ {t:Ty} {x:El t} {us:List Value},CR t x us w->∀ u∈us,u.oneCell'=true
 | .bool,x,us,h|.i64,x,us,h=>by simp_all[CR,Value.oneCell']
 | .u8,x,us,h=>by simp_all[CR,Value.oneCell',byteV]
 | .u32,x,us,h=>by simp_all[CR,Value.oneCell',wordV]
 | .u64,x,us,h=>by simp_all[CR,Value.oneCell',IL]
 | .str,x,us,h=>by simp_all[CR,Value.oneCell']
 | .unit,x,us,h=>by simp_all[CR]
 | .pair a b,x,us,h=>by
  simp only[CR] at h
  obtain⟨u1,u2,rfl,h1,h2⟩:=h
  intro u hu
  rcases List.mem_append.1 hu with h|h
  ·exact CR.one h1 u h
  ·exact CR.one h2 u h
 | .sl e,x,us,h=>by
  simp only[CR] at h;obtain⟨v,cs,rfl,h1,h2⟩:=h
  grind[Sl.one]
inductive AV where
 | un
 | b (x:Bool)|i (x:Int)|u8 (x:UInt8)|u32 (x:UInt32)|u64 (x:UInt64)|str (l:List UInt8)
 | sl (t:Ty) (l:List (El t))
 | st (t:Ty) (l:List (El t))
 | sn (t:Ty) (l:List (El t))   -- a slice that is not nil
 | nil
 | nm (k:Nat)
 | pa (k off:Nat)
 | pe (k:Nat) (i:Int) (sz off:Nat)
 | vs (k sz:Nat) (lo hi:Int)   -- the part lo..hi of the row k, as a slice
 | gp (g:Nat)   -- the address of a package variable
 | pt (l:List AV)
 | agg (l:List AV)
 | tup (l:List AV)
 | fn (f:Nat) (a b:List AV)
def flat:(t:Ty)->El t->List AV
 | .bool,x=>[.b x]
 | .i64,x=>[.i x]
 | .u8,x=>[.u8 x]
 | .u32,x=>[.u32 x]
 | .u64,x=>[.u64 x]
 | .str,x=>[.str x]
 | .unit,_=>[]
 | .pair a b,x=>flat a x.1++flat b x.2
 | .sl e,l=>[.sl e l]
def flatL(t:Ty):List (El t)->List AV
 | []=>[]
 | x::l=>flat t x++flatL t l
theorem Nj:∀(t:Ty) (x:El t),(flat t x).length=t.n
 | .bool,_|.i64,_|.u8,_|.u32,_|.u64,_|.str,_|.unit,_|.sl _,_=>rfl
 | .pair a b,x=>by rw[flat,List.length_append,Nj a,Nj b];rfl
theorem Zl(t:Ty):∀(l:List (El t)),(flatL t l).length=l.length*t.n
 | []=>by simp[flatL]
 | x::l=>by rw[flatL,List.length_append,Nj,Zl t l,List.length_cons,Nat.add_mul];omega
theorem Ja(t:Ty):∀(l m:List (El t)),flatL t (l++m)=flatL t l++flatL t m
 | [],m=>rfl
 | x::l,m=>by rw[List.cons_append,flatL,flatL,Ja t l m,List.append_assoc]
structure Cx where
 N:Nat->Prop
 ν:Nat->Value
 O:Nat->Prop
 w:World
def blk:Value->Option Nat
 | .pointer (some p)|.slice (some p) _ _=>some p.block
 | _=>none
mutual
def Rep(c:Cx):AV->Value->Prop
 | .un,_=>True
 | .b x,u=>u=.bool x
 | .i x,u=>u=.int .i64 x
 | .u8 x,u=>u=byteV x
 | .u32 x,u=>u=wordV x
 | .u64 x,u=>u=IL x
 | .str x,u=>u=.string ⟨x.toArray⟩
 | .sl t l,u=>∀ w',Stp c.O c.w w'->Rd t l u w'
 | .st t l,u=>A8U u/\∀ w',Stp c.O c.w w'->Rd t l u w'
 | .sn t l,u=>(∃ p n k,u=.slice (some p) n k)/\∀ w',Stp c.O c.w w'->Rd t l u w'
 | .nil,u=>u=.slice none 0 0
 | .nm k,u=>c.N k/\u=c.ν k/\u.oneCell'=true
 | .pa k off,u=>c.N k/\∃ b,blk (c.ν k)=some b/\u=.pointer (some ⟨b,off,none⟩)
 | .pe k i sz off,u=>c.N k/\∃ b,blk (c.ν k)=some b/\u=.pointer (some ⟨b,i.toNat*sz+off,none⟩)
 | .vs k sz lo hi,u=>c.N k/\∃ a n cap,c.ν k=.slice a n cap/\(0<=lo/\lo<=hi/\hi<=(n:Int)/\n<=cap)/\u=.slice (if cap=lo.toNat then a else a.map (·.add (lo.toNat*sz))) (hi.toNat-lo.toNat) (cap-lo.toNat)
 | .gp g,u=>u=.pointer (some ⟨g,0,none⟩)
 | .pt l,u=>∃ p us,u=.pointer (some p)/\Af c l us/\(∀ x∈us,x.oneCell'=true)/\∀ w',Stp c.O c.w w'->Cs w' p us
 | .agg l,u=>∃ us,u=.agg us.toArray/\Af c l us/\∀ x∈us,x.oneCell'=true
 | .tup l,u=>∃ us,u=.tuple us.toArray/\Af c l us
 | .fn f l m,u=>∃ us vs,u=.func (.func f) us.toArray vs.toArray/\Af c l us/\Af c m vs
def Af(c:Cx):List AV->List Value->Prop
 | [],us=>us=[]
 | s::r,us=>∃ u t,us=u::t/\Rep c s u/\Af c r t
end
mutual
def PL(m:Nat):AV->Bool
 | .nm k|.pa k _|.pe k _ _ _|.vs k _ _ _=>Nat.blt k m
 | .pt l|.agg l|.tup l=>N7 m l
 | .fn _ l q=>N7 m l&&N7 m q
 | _=>true
def N7(m:Nat):List AV->Bool
 | []=>true
 | s::r=>PL m s&&N7 m r
end
theorem XX(m:Nat):∀(l r:List AV),N7 m (l++r)=(N7 m l&&N7 m r)
 | [],r=>by simp[N7]
 | s::l,r=>by simp only[List.cons_append,N7,XX m l r,Bool.and_assoc]
theorem XY(m:Nat):∀(t:Ty) (x:El t),N7 m (flat t x)=true
 | .bool,_|.i64,_|.u8,_|.u32,_|.u64,_|.str,_|.unit,_|.sl _,_=>rfl
 | .pair a b,x=>by rw[flat,XX,XY m a,XY m b];rfl
theorem Zm(m:Nat)(t:Ty):∀(l:List (El t)),N7 m (flatL t l)=true
 | []=>rfl
 | x::l=>by rw[flatL,XX,XY,Zm m t l];rfl
structure Cx.Le (m:Option Nat) (c c':Cx):Prop where
 nm:∀ k,(∀ q,m=some q->k<q)->c.N k->c'.N k/\c'.ν k=c.ν k
 st:∀ w'',Stp c'.O c'.w w''->Stp c.O c.w w''
def nq(m:Option Nat)(s:AV):Prop:=∀ q,m=some q->PL q s=true
def nqL(m:Option Nat)(s:List AV):Prop:=∀ q,m=some q->N7 q s=true
mutual
theorem Rep.le{m:Option Nat}{c c':Cx}(h:c.Le m c'):∀(s:AV) (u:Value),nq m s->Rep c s u->Rep c' s u
 | .un,u,_,hr=>zbz
 | .b _,u,_,hr|.i _,u,_,hr|.u8 _,u,_,hr|.u32 _,u,_,hr|.u64 _,u,_,hr|.str _,u,_,hr|.nil,u,_,hr|.gp _,u,_,hr=>by simpa only[Rep] using hr
 | .sl t l,u,_,hr=>by
  simp only[Rep] at hr ⊢
  exact fun w' hw=>hr w' (h.st w' hw)
 | .st t l,u,_,hr=>by
  simp only[Rep] at hr ⊢
  exact⟨hr.1,fun w' hw=>hr.2 w' (h.st w' hw)⟩
 | .sn t l,u,_,hr=>by
  simp only[Rep] at hr ⊢
  exact⟨hr.1,fun w' hw=>hr.2 w' (h.st w' hw)⟩
 | .nm k,u,hn,hr=>by
  simp only[Rep] at hr ⊢
  have:=h.nm k (fun q hq=>by have:=hn q hq;simpa [PL] using this) hr.1
  exact⟨this.1,by rw[this.2];exact hr.2.1,hr.2.2⟩
 | .pa k off,u,hn,hr=>by
  simp only[Rep] at hr ⊢
  have:=h.nm k (fun q hq=>by have:=hn q hq;simpa [PL] using this) hr.1
  exact⟨this.1,by rw[this.2];exact hr.2⟩
 | .pe k i sz off,u,hn,hr=>by
  simp only[Rep] at hr ⊢
  have:=h.nm k (fun q hq=>by have:=hn q hq;simpa [PL] using this) hr.1
  exact⟨this.1,by rw[this.2];exact hr.2⟩
 | .vs k sz lo hi,u,hn,hr=>by
  simp only[Rep] at hr ⊢
  have:=h.nm k (fun q hq=>by have:=hn q hq;simpa [PL] using this) hr.1
  exact⟨this.1,by rw[this.2];exact hr.2⟩
 | .tup l,u,hn,hr=>by
  simp only[Rep] at hr ⊢
  obtain⟨us,h1,h2⟩:=hr
  exact⟨us,h1,Af.le h l us (fun q hq=>by have:=hn q hq;simpa [PL] using this) h2⟩
 | .agg l,u,hn,hr=>by
  simp only[Rep] at hr ⊢
  obtain⟨us,h1,h2,h3⟩:=hr
  exact⟨us,h1,Af.le h l us (fun q hq=>by have:=hn q hq;simpa [PL] using this) h2,h3⟩
 | .fn f l p,u,hn,hr=>by
  simp only[Rep] at hr ⊢
  obtain⟨us,vs,h1,h2,h3⟩:=hr
  have hn':=fun q hq=>by have:=hn q hq;simpa only[PL,Bool.and_eq_true] using this
  exact⟨us,vs,h1,Af.le h l us (fun q hq=>(hn' q hq).1) h2,Af.le h p vs (fun q hq=>(hn' q hq).2) h3⟩
 | .pt l,u,hn,hr=>by
  simp only[Rep] at hr ⊢
  obtain⟨p,us,h1,h2,h3,h4⟩:=hr
  exact⟨p,us,h1,Af.le h l us (fun q hq=>by have:=hn q hq;simpa [PL] using this) h2,h3,fun w' hw=>h4 w' (h.st w' hw)⟩
theorem Af.le{m:Option Nat}{c c':Cx}(h:c.Le m c'):∀(s:List AV) (u:List Value),nqL m s->Af c s u->Af c' s u
 | [],u,_,hr=>by simpa only[Af] using hr
 | s::r,u,hn,hr=>by
  simp only[Af] at hr ⊢
  obtain⟨v,t,h1,h2,h3⟩:=hr
  have hn':=fun q hq=>by have:=hn q hq;simpa only[N7,Bool.and_eq_true] using this
  exact⟨v,t,h1,Rep.le h s v (fun q hq=>(hn' q hq).1) h2,Af.le h r t (fun q hq=>(hn' q hq).2) h3⟩
end
theorem GU(s:AV):nq none s:=fun q h=>za0
theorem Dc(s:List AV):nqL none s:=fun q h=>za0
theorem Af.get{c:Cx}:∀ {l:List AV} {us:List Value} {i:Nat} {s:AV},Af c l us->l[i]?=some s->∃ u,us[i]?=some u/\Rep c s u
 | [],us,i,s,h,hs=>by simp at hs
 | a::r,us,i,s,h,hs=>by
  simp only[Af] at h
  obtain⟨u,t,rfl,h1,h2⟩:=h
  cases i with
  | zero=>simp_all
  | succ i=>simp only[List.getElem?_cons_succ] at hs ⊢;exact h2.get hs
theorem Af.len{c:Cx}:∀ {l:List AV} {us:List Value},Af c l us->us.length=l.length
 | [],us,h=>by simp_all[Af]
 | a::r,us,h=>by
  simp only[Af] at h
  obtain⟨u,t,rfl,_,h2⟩:=h
  simp[h2.len]
theorem Af.app{c:Cx}:∀ {l m:List AV} {us vs:List Value},Af c l us->Af c m vs->Af c (l++m) (us++vs)
 | [],m,us,vs,h,k=>by simp_all[Af]
 | a::r,m,us,vs,h,k=>by
  simp only[Af] at h
  obtain⟨u,t,rfl,h1,h2⟩:=h
  simp only[List.cons_append,Af]
  exact⟨u,t++vs,rfl,h1,h2.app k⟩
theorem Af.split{c:Cx}:∀ {l m:List AV} {us:List Value},Af c (l++m) us->∃ u1 u2,us=u1++u2/\Af c l u1/\Af c m u2
 | [],m,us,h=>⟨[],us,rfl,by simp only[Af],h⟩
 | a::r,m,us,h=>by
  simp only[List.cons_append,Af] at h
  obtain⟨u,t,rfl,h1,h2⟩:=h
  obtain⟨u1,u2,rfl,h3,h4⟩:=Af.split h2
  exact⟨u::u1,u2,rfl,by simp only[Af];grind,h4⟩
theorem Af.drop{c:Cx}:∀ {l:List AV} {us:List Value} (n:Nat),Af c l us->Af c (l.drop n) (us.drop n)
 | l,us,0,h=>za8
 | [],us,n+1,h=>by simp_all[Af]
 | a::r,us,n+1,h=>by
  simp only[Af] at h
  obtain⟨u,t,rfl,h1,h2⟩:=h
  simpa using h2.drop n
theorem Af.take{c:Cx}:∀ {l:List AV} {us:List Value} (n:Nat),Af c l us->Af c (l.take n) (us.take n)
 | l,us,0,h=>by simp[Af]
 | [],us,n+1,h=>by simp_all[Af]
 | a::r,us,n+1,h=>by
  simp only[Af] at h
  obtain⟨u,t,rfl,h1,h2⟩:=h
  simp only[List.take_succ_cons,Af]
  exact⟨u,t.take n,rfl,h1,h2.take n⟩
theorem Af.one{c:Cx}{s:AV}{u:Value}(h:Rep c s u):Af c [s] [u]:=by simp only[Af];simp_all
theorem Af.un1{c:Cx}{s:AV}{us:List Value}(h:Af c [s] us):∃ u,us=[u]/\Rep c s u:=by
 simp only[Af] at h;simp_all
theorem CR.reps{c:Cx}:∀ {t:Ty} {x:El t} {us:List Value},(∀ w',Stp c.O c.w w'->CR t x us w')->Af c (flat t x) us
 | .bool,x,us,h|.i64,x,us,h|.u8,x,us,h|.u32,x,us,h|.u64,x,us,h|.str,x,us,h=>by have:=h _ (Stp.refl _ _);simp_all[CR,flat,Af,Rep]
 | .unit,x,us,h=>by have:=h _ (Stp.refl _ _);simp_all[CR,flat,Af]
 | .pair a b,x,us,h=>by
  have h0:=h _ (Stp.refl _ _)
  simp only[CR] at h0
  obtain⟨u1,u2,rfl,h1,h2⟩:=h0
  have key:∀ w',Stp c.O c.w w'->CR a x.1 u1 w'/\CR b x.2 u2 w':=fun w' hs=>by
   have h3:=h w' hs
   simp only[CR] at h3
   obtain⟨v1,v2,he,h4,h5⟩:=h3
   have:=List.append_inj he (by rw[CR.len h1,CR.len h4])
   simp_all
  simp only[flat]
  exact(CR.reps fun w' hs=>(key w' hs).1).app (CR.reps fun w' hs=>(key w' hs).2)
 | .sl e,l,us,h=>by
  have h0:=h _ (Stp.refl _ _)
  simp only[CR] at h0
  obtain⟨v,cs,rfl,h1,h2⟩:=h0
  simp only[flat]
  refine Af.one ?_
  simp only[Rep]
  intro w' hs
  have h3:=h w' hs
  simp only[CR] at h3
  obtain⟨v',cs',he,h4,h5⟩:=h3
  simp only[List.cons.injEq,and_true] at he
  subst he
  exact⟨cs',h4,h5⟩
theorem Af.cr{c:Cx}:∀ {t:Ty} {x:El t} {us:List Value},Af c (flat t x) us->∀ w',Stp c.O c.w w'->CR t x us w'
 | .bool,x,us,h,w',hs|.i64,x,us,h,w',hs|.u8,x,us,h,w',hs|.u32,x,us,h,w',hs|.u64,x,us,h,w',hs|.str,x,us,h,w',hs=>by simp only[flat,Af,Rep] at h;obtain⟨u,t,rfl,rfl,rfl⟩:=h;simp[CR]
 | .unit,x,us,h,w',hs=>by simp_all[flat,Af,CR]
 | .pair a b,x,us,h,w',hs=>by
  simp only[flat] at h
  obtain⟨u1,u2,rfl,h1,h2⟩:=h.split
  simp only[CR]
  exact⟨u1,u2,rfl,h1.cr w' hs,h2.cr w' hs⟩
 | .sl e,l,us,h,w',hs=>by
  simp only[flat,Af,Rep] at h
  obtain⟨u,t,rfl,h1,rfl⟩:=h
  obtain⟨cs,h2,h3⟩:=h1 w' hs
  simp only[CR]
  grind
theorem Af.flatL{c:Cx}{t:Ty}:∀ {l:List (El t)} {us:List Value},Af c (flatL t l) us->∃ cs,us=cs.flatten/\Ec (fun x m=>Af c (flat t x) m) l cs
 | [],us,h=>⟨[],by grind[Ax.flatL,Af],by simp[Ec]⟩
 | x::l,us,h=>by
  simp only[Ax.flatL] at h
  obtain⟨u1,u2,rfl,h1,h2⟩:=h.split
  obtain⟨cs,rfl,h3⟩:=Af.flatL h2
  exact⟨u1::cs,by simp,h1,h3⟩
theorem Af.of_flatL{c:Cx}{t:Ty}:∀ {l:List (El t)} {cs:List (List Value)},Ec (fun x m=>Af c (flat t x) m) l cs->Af c (Ax.flatL t l) cs.flatten
 | [],[],_=>by simp[Ax.flatL,Af]
 | x::l,u::cs,h=>by simp only[Ax.flatL,List.flatten_cons];exact h.1.app (Af.of_flatL h.2)
 | [],_::_,h|_::_,[],h=>h.elim
theorem XZ{c:Cx}{t:Ty}{x:El t}{us:List Value}(h:Af c (flat t x) us):∀ u∈us,u.oneCell'=true:=(h.cr c.w (Stp.refl _ _)).one
theorem Iu{c:Cx}{t:Ty}:∀ {l:List (El t)} {us:List Value},Af c (flatL t l) us->∀ u∈us,u.oneCell'=true
 | [],us,h=>by simp_all[Ax.flatL,Af]
 | x::l,us,h=>by
  simp only[Ax.flatL] at h
  obtain⟨u1,u2,rfl,h1,h2⟩:=h.split
  intro u hu
  rcases List.mem_append.1 hu with h|h
  ·exact XZ h1 u h
  ·exact Iu h2 u h
theorem A1t{base e n:Nat}{xs:List Value}{Q:Nat->Prop}(h:w.ownsG base e sz v n xs)(hs:Stp Q w w')(hb:∀ b,blk v=some b->¬Q b):w'.ownsG base e sz v n xs:=by
 refine⟨h.1,?_⟩
 rcases h.2 with h2|⟨g,cap,cur,fz,h1,h2,h3,h4⟩
 ·exact .inl h2
 ·refine .inr ⟨g,cap,cur,fz,h1,h2,?_,h4⟩
  have hlt:g<w.heap.size:=(Array.getElem?_eq_some_iff.1 h3).1
  rw[hs.block g hlt (hb g (by rw[h1];rfl))]
  exact h3
theorem TU{base e n:Nat}{xs:List Value}(h:w.ownsG base e sz v n xs):v.oneCell'=true:=by
 rcases h.2 with⟨rfl,_⟩|⟨g,cap,cur,fz,rfl,_⟩<;>rfl
inductive Rs where
 | var (cells:List AV)
 | row (e:Nat) (t:Ty) (l:List (El t))
 | rowA (e sz n:Nat) (cells:List AV)
def A9Q(c:Cx)(k:Nat)(cells:List AV):Prop:=∃ b us,c.ν k=.pointer (some ⟨b,0,none⟩)/\Un c.w b us/\Af c cells us/\∀ u∈us,u.oneCell'=true
def IC(c:Cx)(k:Nat)(e sz n:Nat)(cells:List AV):Prop:=∃ vs,c.w.ownsG 0 e sz (c.ν k) n vs/\Af c cells vs/\∀ u∈vs,u.oneCell'=true
def Holds(c:Cx)(k:Nat)(R:Rs):Prop:=match R with
 | .var cells=>A9Q c k cells
 | .row e t l=>IC c k e t.n l.length (flatL t l)
 | .rowA e sz n cells=>IC c k e sz n cells
def Rs.cells:Rs->List AV
 | .var cells=>cells
 | .row _ t l=>flatL t l
 | .rowA _ _ _ cells=>cells
abbrev LX:=List (Nat×AV)
abbrev HX:=List (Nat×Option Rs)
abbrev Fp:=List (Nat×Rs)
def JG(t:Nat):LX->Option AV
 | []=>none
 | (d,v)::L=>bif Nat.beq t d then some v else JG t L
def hlk(k:Nat):HX->Option Rs
 | []=>none
 | (d,v)::H=>bif Nat.beq k d then v else hlk k H
def Ez(k:Nat):Fp->Option Rs
 | []=>none
 | (d,v)::H=>bif Nat.beq k d then some v else Ez k H
def strOf(s:ByteArray):List UInt8:=s.data.toList
def AV.of:Value->AV
 | .bool y=>.b y
 | .int .i64 n=>.i n
 | .int .u8 (.ofNat n)=>bif Nat.blt n 256 then .u8 (UInt8.ofNat n) else .un
 | .int .u32 (.ofNat n)=>bif Nat.blt n 4294967296 then .u32 (UInt32.ofNat n) else .un
 | .int .u64 (.ofNat n)=>bif Nat.blt n 18446744073709551616 then .u64 (UInt64.ofNat n) else .un
 | .string s=>.str (strOf s)
 | .slice none 0 0=>.nil
 | _=>.un
theorem AV.of_rep(c:Cx)(v:Value):Rep c (AV.of v) v:=by
 unfold AV.of
 split
 ·simp only[Rep]
 ·simp only[Rep]
 ·rename_i n
  cases h:Nat.blt n 256
  ·simp only[cond_false,Rep]
  ·have hn:n<256:=zbk
   simp[Rep,byteV,Nat.mod_eq_of_lt hn]
 ·rename_i n
  cases h:Nat.blt n 4294967296
  ·simp only[cond_false,Rep]
  ·have hn:n<4294967296:=zbk
   simp[Rep,wordV,Nat.mod_eq_of_lt hn]
 ·rename_i n
  cases h:Nat.blt n 18446744073709551616
  ·simp only[cond_false,Rep]
  ·have hn:n<18446744073709551616:=zbk
   simp[Rep,IL,Nat.mod_eq_of_lt hn]
 ·simp only[Rep,strOf]
 ·simp only[Rep]
 ·simp only[Rep]
def FZ(L:LX):Operand->Option AV
 | .tmp t=>JG t L
 | .const c=>some (AV.of c)
 | .global g=>some (.gp g)
 | .func g=>some (.fn g [] [])
theorem Fq(v:AV)(L:LX):JG t ((d,v)::L)=if t=d then some v else JG t L:=by
 simp_all[JG]
theorem FO(v:Option Rs)(L:HX):hlk t ((d,v)::L)=if t=d then v else hlk t L:=by
 simp_all[hlk]
theorem DF(v:Rs)(L:Fp):Ez t ((d,v)::L)=if t=d then some v else Ez t L:=by
 simp_all[Ez]
@[simp] theorem AD8:Ez t []=none:=rfl
structure Gx where
 w0:World
 O0:Nat->Prop
 Oa:Nat->Prop
 n0:Nat
 ν0:Nat->Value
def FC(Oa:Nat->Prop)(hk:Nat->Option Rs)(ν:Nat->Value):Nat->Prop:=fun b=>Oa b\/∃ k R,hk k=some R/\blk (ν k)=some b
structure Sat (I:World->Prop) (n:Nat) (g:Gx) (N:Nat->Prop) (lk:Nat->Option AV) (hk:Nat->Option Rs) (a:Act) (w:World) (ν:Nat->Value):Prop where
 size:a.tmps.size=n
 defers:a.defers=[]
 stp:Stp g.O0 g.w0 w
 amb:∀ b,g.Oa b->b<g.w0.heap.size/\¬g.O0 b
 inv:∀ w',Stp (FC g.Oa hk ν) w w'->I w'
 pin:∀ k,k<g.n0->N k/\ν k=g.ν0 k
 slots:∀ t s,lk t=some s->Rep ⟨N,ν,FC g.Oa hk ν,w⟩ s (a.tmps.getD t undef)
 res:∀ k R,hk k=some R->N k/\Holds ⟨N,ν,FC g.Oa hk ν,w⟩ k R/\∀ b,blk (ν k)=some b->b<w.heap.size/\(g.w0.heap.size<=b\/g.O0 b)
 dist:∀ k k' R R' b,hk k=some R->hk k'=some R'->k≠k'->blk (ν k)=some b->blk (ν k')≠some b
def ER(ν:Nat->Value)(F:Fp):Nat->Prop:=fun b=>∃ k R,Ez k F=some R/\blk (ν k)=some b
def has(k:Nat)(F:Fp):Prop:=(Ez k F).isSome=true
def upd(F F':Fp)(hk:Nat->Option Rs)(k:Nat):Option Rs:=match Ez k F' with
 | some R=>some R
 | none=>match Ez k F with|some _=>none|none=>hk k
theorem Zn{F F':Fp}{hk:Nat->Option Rs}{k:Nat}{R:Rs}(h:upd F F' hk k=some R):Ez k F'=some R\/(hk k=some R/\Ez k F'=none/\Ez k F=none):=by
 grind[upd]
structure Ok (c:Cx) (F F':Fp) (s:AV) (v:Value) (w':World) (ν':Nat->Value):Prop where
 old:∀ k,c.N k->ν' k=c.ν k
 rep:Rep ⟨fun k=>c.N k\/has k F',ν',fun b=>(c.O b/\¬ER c.ν F b)\/ER ν' F' b,w'⟩ s v
 res:∀ k R,Ez k F'=some R->Holds ⟨fun k=>c.N k\/has k F',ν',fun b=>(c.O b/\¬ER c.ν F b)\/ER ν' F' b,w'⟩ k R/\∀ b,blk (ν' k)=some b->b<w'.heap.size/\(c.w.heap.size<=b\/ER c.ν F b)
 dist:∀ k k' R R' b,Ez k F'=some R->Ez k' F'=some R'->k≠k'->blk (ν' k)=some b->blk (ν' k')≠some b
 stp:Stp (ER c.ν F) c.w w'
theorem IC.le{m:Option Nat}{c c':Cx}{k e sz n:Nat}{cells:List AV}(hle:c.Le m c')(hm:nqL m cells)(hν:c'.ν k=c.ν k)(hb:∀ b,blk (c.ν k)=some b->b<c.w.heap.size/\c'.w.heap[b]?=c.w.heap[b]?)(h:IC c k e sz n cells):IC c' k e sz n cells:=by
 obtain⟨vs,h1,h2,h3⟩:=h
 refine⟨vs,?_,Af.le hle _ _ hm h2,h3⟩
 rw[hν]
 refine⟨h1.1,?_⟩
 rcases h1.2 with h4|⟨g,cap,cur,fz,h4,h5,h6,h7⟩
 ·exact .inl h4
 ·exact .inr ⟨g,cap,cur,fz,h4,h5,by rw[(hb g (by rw[h4];rfl)).2];exact h6,h7⟩
theorem Holds.le{m:Option Nat}{c c':Cx}{k:Nat}{R:Rs}(hle:c.Le m c')(hm:nqL m R.cells)(hν:c'.ν k=c.ν k)(hb:∀ b,blk (c.ν k)=some b->b<c.w.heap.size/\c'.w.heap[b]?=c.w.heap[b]?)(h:Holds c k R):Holds c' k R:=by
 cases R with
 | var cells =>
  obtain⟨b,us,h1,⟨T,h2⟩,h3,h4⟩:=h
  refine⟨b,us,by simp_all,⟨T,?_⟩,Af.le hle _ _ hm h3,h4⟩
  rw[(hb b (by rw[h1];rfl)).2];exact h2
 | row e t l|rowA e sz n cells=>exact IC.le hle hm hν hb h
theorem Sat.step{I:World->Prop}{n:Nat}{g:Gx}{N N':Nat->Prop}{lk:Nat->Option AV}{hk hk':Nat->Option Rs}{ν ν':Nat->Value}{F F':Fp}{s:AV}(S:Sat I n g N lk hk a w ν)(hF:∀ k R,Ez k F=some R->hk k=some R)(ok:Ok ⟨N,ν,FC g.Oa hk ν,w⟩ F F' s v w' ν')(hN:∀ k,N' k↔N k\/has k F')(hkq:∀ k,hk' k=upd F F' hk k):
  Sat I n g N' lk hk' a w' ν'/\Rep ⟨N',ν',FC g.Oa hk' ν',w'⟩ s v:=by
 obtain rfl:N'=fun k=>N k\/has k F':=funext fun k=>propext (hN k)
 obtain rfl:hk'=upd F F' hk:=funext hkq
 have hfb:∀ b,ER ν F b->b<w.heap.size/\(g.w0.heap.size<=b\/g.O0 b)/\FC g.Oa hk ν b:=by
  rintro b ⟨k,R,hFk,hb⟩
  have hk:=hF k R hFk
  exact⟨((S.res k R hk).2.2 b hb).1,((S.res k R hk).2.2 b hb).2,.inr ⟨k,R,hk,hb⟩⟩
 have hcase:∀ k R,upd F F' hk k=some R->Ez k F'=some R\/(hk k=some R/\ν' k=ν k/\∀ b,blk (ν k)=some b->b<w.heap.size/\¬ER ν F b):=by
  intro k R h
  rcases Zn h with h|⟨h1,h2,h3⟩
  ·exact .inl h
  ·refine .inr ⟨h1,ok.old k (S.res k R h1).1,fun b hb=>⟨((S.res k R h1).2.2 b hb).1,?_⟩⟩
   rintro⟨k0,R0,hF0,hb0⟩
   by_cases e:k=k0
   ·subst e;rw[h3] at hF0;cases hF0
   ·exact S.dist k k0 R R0 b h1 (hF k0 R0 hF0) e hb hb0
 have hown:∀ b,FC g.Oa (upd F F' hk) ν' b->(FC g.Oa hk ν b/\¬ER ν F b)\/ER ν' F' b:=by
  rintro b (h|⟨k,R,h,hb⟩)
  ·refine .inl ⟨.inl h,fun hf=>?_⟩
   have h1:=S.amb b h
   rcases(hfb b hf).2.1 with h2|h2
   ·omega
   ·exact h1.2 h2
  ·rcases hcase k R h with h1|⟨h1,h2,h3⟩
   ·exact .inr ⟨k,R,h1,hb⟩
   ·rw[h2] at hb
    exact .inl ⟨.inr ⟨k,R,h1,hb⟩,(h3 b hb).2⟩
 have hownw:∀ b,b<w.heap.size->FC g.Oa (upd F F' hk) ν' b->FC g.Oa hk ν b:=by
  intro b hbw hb
  rcases hown b hb with h|⟨k,R,h,hb'⟩
  ·exact h.1
  ·rcases((ok.res k R h).2 b hb').2 with h1|h1
   ·exact absurd hbw (Nat.not_lt.2 h1)
   ·exact(hfb b h1).2.2
 have hle:Cx.Le none ⟨N,ν,FC g.Oa hk ν,w⟩ ⟨fun k=>N k\/has k F',ν',FC g.Oa (upd F F' hk) ν',w'⟩ :=
  ⟨fun k _ hNk=>⟨.inl hNk,ok.old k hNk⟩,fun w'' hs=>ok.stp.then hs (fun i _ h=>(hfb i h).2.2) hownw⟩
 have hle2:Cx.Le none ⟨fun k=>N k\/has k F',ν',fun b=>(FC g.Oa hk ν b/\¬ER ν F b)\/ER ν' F' b,w'⟩ ⟨fun k=>N k\/has k F',ν',FC g.Oa (upd F F' hk) ν',w'⟩ :=
  ⟨fun k _ h=>⟨h,rfl⟩,fun w'' hs=>hs.mono fun i _ h=>hown i h⟩
 refine⟨⟨S.size,S.defers,?_,S.amb,fun w'' hs=>S.inv w'' (hle.st w'' hs),fun k hk=>⟨.inl (S.pin k hk).1,(ok.old k (S.pin k hk).1).trans (S.pin k hk).2⟩,fun t s hs=>Rep.le hle s _ (GU s) (S.slots t s hs),?_,?_⟩,?_⟩
 ·refine S.stp.then ok.stp (fun i _ h=>h) (fun i hi h=>?_)
  rcases(hfb i h).2.1 with h1|h1
  ·omega
  ·exact h1
 ·intro k R h
  rcases hcase k R h with h1|⟨h1,h2,h3⟩
  ·obtain⟨r1,r2⟩:=ok.res k R h1
   refine⟨.inr (by unfold has;rw[h1];rfl),?_,fun b hb=>⟨(r2 b hb).1,?_⟩⟩
   ·exact Holds.le hle2 (Dc _) rfl (fun b hb=>⟨(r2 b hb).1,rfl⟩) r1
   ·rcases(r2 b hb).2 with h4|h4
    ·exact .inl (Nat.le_trans S.stp.size h4)
    ·exact(hfb b h4).2.1
  ·obtain⟨r0,r1,r2⟩:=S.res k R h1
   refine⟨.inl r0,?_,fun b hb=>?_⟩
   ·exact Holds.le hle (Dc _) h2 (fun b hb=>⟨(h3 b hb).1,ok.stp.block b (h3 b hb).1 (h3 b hb).2⟩) r1
   ·rw[h2] at hb
    exact⟨Nat.lt_of_lt_of_le (r2 b hb).1 ok.stp.size,(r2 b hb).2⟩
 ·intro k k' R R' b h h' hne hb hb'
  rcases hcase k R h with h1|⟨h1,h2,h3⟩
  ·rcases hcase k' R' h' with h1'|⟨h1',h2',h3'⟩
   ·exact ok.dist k k' R R' b h1 h1' hne hb hb'
   ·rw[h2'] at hb'
    rcases((ok.res k R h1).2 b hb).2 with h4|h4
    ·exact absurd (h3' b hb').1 (Nat.not_lt.2 h4)
    ·exact(h3' b hb').2 h4
  ·rw[h2] at hb
   rcases hcase k' R' h' with h1'|⟨h1',h2',h3'⟩
   ·rcases((ok.res k' R' h1').2 b hb').2 with h4|h4
    ·exact absurd (h3 b hb).1 (Nat.not_lt.2 h4)
    ·exact(h3 b hb).2 h4
   ·rw[h2'] at hb'
    exact S.dist k k' R R' b h1 h1' hne hb hb'
 ·exact Rep.le hle2 s v (GU s) ok.rep
theorem Sat.put{I:World->Prop}{n:Nat}{g:Gx}{N:Nat->Prop}{lk lk':Nat->Option AV}{hk:Nat->Option Rs}{a:Act}{w:World}{ν:Nat->Value}(S:Sat I n g N lk hk a w ν){d:Nat}{s:AV}{v:Value}(hd:d<n)
  (hv:Rep ⟨N,ν,FC g.Oa hk ν,w⟩ s v) (hl:∀ t,lk' t=if t=d then some s else lk t):Sat I n g N lk' hk (a.put (some d) v) w ν:=by
 refine⟨by rw[PN];exact S.size,by rw[put_defers];exact S.defers,S.stp,S.amb,S.inv,S.pin,fun t u hu=>?_,S.res,S.dist⟩
 rw[hl] at hu
 by_cases e:t=d
 ·rw[if_pos e] at hu
  obtain rfl:=Option.some.inj hu
  subst e
  rw[show(a.put (some t) v).tmps.getD t undef=v from NM _ _ _ (by rw[S.size];exact hd)]
  exact hv
 ·rw[if_neg e] at hu
  rw[show(a.put (some d) v).tmps.getD t undef=a.tmps.getD t undef from PM _ _ _ _ e]
  exact S.slots t u hu
theorem Sat.fewer{I:World->Prop}{n:Nat}{g:Gx}{N:Nat->Prop}{lk lk':Nat->Option AV}{hk:Nat->Option Rs}{ν:Nat->Value}(S:Sat I n g N lk hk a w ν)(h:∀ t s,lk' t=some s->lk t=some s):Sat I n g N lk' hk a w ν :=
 ⟨S.size,S.defers,S.stp,S.amb,S.inv,S.pin,fun t s hs=>S.slots t s (h t s hs),S.res,S.dist⟩
theorem Sat.moreN{I:World->Prop}{n:Nat}{g:Gx}{N N':Nat->Prop}{lk:Nat->Option AV}{hk:Nat->Option Rs}{ν:Nat->Value}(S:Sat I n g N lk hk a w ν)(h:∀ k,N k->N' k):Sat I n g N' lk hk a w ν :=
 have hle:Cx.Le none ⟨N,ν,FC g.Oa hk ν,w⟩ ⟨N',ν,FC g.Oa hk ν,w⟩:=⟨fun k _ hk=>⟨h k hk,rfl⟩,fun _ h=>h⟩
 ⟨S.size,S.defers,S.stp,S.amb,S.inv,fun k hk=>⟨h k (S.pin k hk).1,(S.pin k hk).2⟩,fun t s hs=>Rep.le hle s _ (GU s) (S.slots t s hs),fun k R hR=>⟨h k (S.res k R hR).1,Holds.le hle (Dc _) rfl (fun b hb=>⟨((S.res k R hR).2.2 b hb).1,rfl⟩) (S.res k R hR).2.1,(S.res k R hR).2.2⟩,S.dist⟩
mutual
def ren(ρ:Nat->Nat):AV->AV
 | .nm k=>.nm (ρ k)
 | .pa k o=>.pa (ρ k) o
 | .pe k i s o=>.pe (ρ k) i s o
 | .vs k s a b=>.vs (ρ k) s a b
 | .tup l=>.tup (IE ρ l)
 | .agg l=>.agg (IE ρ l)
 | .fn f l q=>.fn f (IE ρ l) (IE ρ q)
 | .pt l=>.pt (IE ρ l)
 | s=>s
def IE(ρ:Nat->Nat):List AV->List AV
 | []=>[]
 | s::r=>ren ρ s::IE ρ r
end
def IG(ρ:Nat->Nat):Rs->Rs
 | .var cells=>.var (IE ρ cells)
 | .rowA e sz n cells=>.rowA e sz n (IE ρ cells)
 | R=>R
theorem Xa(ρ:Nat->Nat):∀(l r:List AV),IE ρ (l++r)=IE ρ l++IE ρ r
 | [],r=>by simp[IE]
 | s::l,r=>by simp only[List.cons_append,IE,Xa ρ l r]
theorem Xb(ρ:Nat->Nat):∀(t:Ty) (x:El t),IE ρ (flat t x)=flat t x
 | .bool,_|.i64,_|.u8,_|.u32,_|.u64,_|.str,_|.unit,_|.sl _,_=>rfl
 | .pair a b,x=>by rw[flat,Xa,Xb ρ a,Xb ρ b]
theorem Uu(ρ:Nat->Nat)(t:Ty):∀(l:List (El t)),IE ρ (flatL t l)=flatL t l
 | []=>rfl
 | x::l=>by rw[flatL,Xa,Xb,Uu ρ t l]
def rlt(m:Nat):Rs->Bool|.var cells=>N7 m cells|.rowA _ _ _ cells=>N7 m cells|.row _ _ _=>true
theorem Zo(m:Nat)(R:Rs):rlt m R=N7 m R.cells:=by
 cases R with
 | row e t l=>simp only[rlt,Rs.cells,Zm]
 | _=>rfl
mutual
theorem Rep.ren{ρ:Nat->Nat}{N N':Nat->Prop}{ν ν':Nat->Value}{O O':Nat->Prop}{w:World}{m:Nat}(hN:∀ k,k<m->N (ρ k)->N' k/\ν' k=ν (ρ k))(hO:∀ w'',Stp O' w w''->Stp O w w''):∀(s:AV) (u:Value),PL m s=true->Rep ⟨N,ν,O,w⟩ (Ax.ren ρ s) u->Rep ⟨N',ν',O',w⟩ s u
 | .un,u,_,h=>zbz
 | .b _,u,_,h|.i _,u,_,h|.u8 _,u,_,h|.u32 _,u,_,h|.u64 _,u,_,h|.str _,u,_,h|.nil,u,_,h|.gp _,u,_,h|.sl t l,u,_,h|.st t l,u,_,h|.sn t l,u,_,h=>by simp_all[Ax.ren,Rep]
 | .nm k,u,hn,h=>by
  simp only[Ax.ren,Rep] at h ⊢
  have:=hN k (by simpa [PL] using hn) h.1
  grind
 | .pa k o,u,hn,h=>by
  simp_all[Ax.ren,Rep,PL]
 | .pe k i s o,u,hn,h=>by
  simp_all[Ax.ren,Rep,PL]
 | .vs k s a b,u,hn,h=>by
  simp_all[Ax.ren,Rep,PL]
 | .tup l,u,hn,h=>by
  simp only[Ax.ren,Rep] at h ⊢
  obtain⟨us,h1,h2⟩:=h
  exact⟨us,h1,Af.ren hN hO l us zbD h2⟩
 | .agg l,u,hn,h=>by
  simp only[Ax.ren,Rep] at h ⊢
  obtain⟨us,h1,h2,h3⟩:=h
  exact⟨us,h1,Af.ren hN hO l us zbD h2,h3⟩
 | .fn f l q,u,hn,h=>by
  simp only[Ax.ren,Rep] at h ⊢
  obtain⟨us,vs,h1,h2,h3⟩:=h
  simp only[PL,Bool.and_eq_true] at hn
  exact⟨us,vs,h1,Af.ren hN hO l us hn.1 h2,Af.ren hN hO q vs hn.2 h3⟩
 | .pt l,u,hn,h=>by
  simp only[Ax.ren,Rep] at h ⊢
  obtain⟨p,us,h1,h2,h3,h4⟩:=h
  exact⟨p,us,h1,Af.ren hN hO l us (by simp_all[PL]) h2,h3,fun w' hs=>h4 w' (hO w' hs)⟩
theorem Af.ren{ρ:Nat->Nat}{N N':Nat->Prop}{ν ν':Nat->Value}{O O':Nat->Prop}{w:World}{m:Nat}(hN:∀ k,k<m->N (ρ k)->N' k/\ν' k=ν (ρ k))(hO:∀ w'',Stp O' w w''->Stp O w w''):∀(s:List AV) (u:List Value),N7 m s=true->Af ⟨N,ν,O,w⟩ (IE ρ s) u->Af ⟨N',ν',O',w⟩ s u
 | [],u,_,h=>by simp_all[IE,Af]
 | s::r,u,hn,h=>by
  simp only[IE,Af] at h ⊢
  simp only[N7,Bool.and_eq_true] at hn
  obtain⟨v,t,h1,h2,h3⟩:=h
  exact⟨v,t,h1,Rep.ren hN hO s v hn.1 h2,Af.ren hN hO r t hn.2 h3⟩
end
theorem Holds.ren{ρ:Nat->Nat}{N N':Nat->Prop}{ν ν':Nat->Value}{O O':Nat->Prop}{w:World}{m k:Nat}{R:Rs}(hN:∀ k,k<m->N (ρ k)->N' k/\ν' k=ν (ρ k))(hO:∀ w'',Stp O' w w''->Stp O w w'')(hk:ν' k=ν (ρ k))(hR:rlt m R=true)(h:Holds ⟨N,ν,O,w⟩ (ρ k) (IG ρ R)):Holds ⟨N',ν',O',w⟩ k R:=by
 rw[Zo] at hR
 cases R with
 | var cells =>
  obtain⟨b,us,g1,g2,g3,g4⟩:=h
  exact⟨b,us,hk.trans g1,g2,Af.ren hN hO cells us hR g3,g4⟩
 | row e t l =>
  obtain⟨vs,g1,g2,g3⟩:=h
  exact⟨vs,by simp_all,Af.ren hN hO _ vs hR (by rw[Uu];exact g2),g3⟩
 | rowA e sz n cells =>
  obtain⟨vs,g1,g2,g3⟩:=h
  exact⟨vs,by simp_all,Af.ren hN hO cells vs hR g2,g3⟩
theorem Sat.cut{I:World->Prop}{n:Nat}{g:Gx}{m:Nat}{N:Nat->Prop}{lk lk':Nat->Option AV}{hk hk':Nat->Option Rs}{ν:Nat->Value}(ρ:Nat->Nat)(S:Sat I n g N lk hk a w ν)(hρ:∀ k,k<g.n0->k<m/\ρ k=k)(hl:∀ t s,lk' t=some s->lk t=some (ren ρ s)/\PL m s=true)(hh:∀ k R,hk' k=some R->hk (ρ k)=some (IG ρ R)/\k<m/\rlt m R=true)(hinj:∀ k k' R R',hk' k=some R->hk' k'=some R'->ρ k=ρ k'->k=k'):Sat I n g (· < m) lk' hk' a w (fun k=>ν (ρ k)):=by
 have hown:∀ b,FC g.Oa hk' (fun k=>ν (ρ k)) b->FC g.Oa hk ν b:=by
  rintro b (h|⟨k,R,h,hb⟩)
  ·exact .inl h
  ·exact .inr ⟨ρ k,_,(hh k R h).1,hb⟩
 have hO:∀ w'',Stp (FC g.Oa hk' (fun k=>ν (ρ k))) w w''->Stp (FC g.Oa hk ν) w w'':=fun w'' hs=>hs.mono fun i _ h=>hown i h
 have hN:∀ k,k<m->N (ρ k)->k<m/\(fun k=>ν (ρ k)) k=ν (ρ k):=fun k h _=>⟨h,rfl⟩
 refine⟨S.size,S.defers,S.stp,S.amb,fun w'' hs=>S.inv w'' (hO w'' hs),fun k hk=>⟨(hρ k hk).1,by show ν (ρ k)=_;rw[(hρ k hk).2];exact(S.pin k hk).2⟩,fun t s hs=>?_,fun k R hR=>?_,fun k k' R R' b h h' hne=>S.dist (ρ k) (ρ k') _ _ b (hh k R h).1 (hh k' R' h').1 (fun e=>hne (hinj k k' R R' h h' e))⟩
 ·obtain⟨h1,h2⟩:=hl t s hs
  exact Rep.ren hN hO s _ h2 (S.slots t _ h1)
 ·obtain⟨h1,h2,h3⟩:=hh k R hR
  obtain⟨r0,r1,r2⟩:=S.res _ _ h1
  exact⟨h2,Holds.ren hN hO rfl h3 r1,r2⟩
end Go.Ax
namespace Go.Ax
open Go Go.RowKit Go.Eng
variable {a:Act}{d id d':Nat}{w:World}{j:Nat}{want:Bool}{op:Op}{b:Bool}{ty:TypeId}{pos:String}{af:Array Edge}
abbrev IX(I:World->Prop)(n:Nat)(g:Gx)(m:Nat)(L:LX)(H:HX)(a:Act)(w:World)(ν:Nat->Value):Prop:=Sat I n g (· < m) (fun t=>JG t L) (fun k=>hlk k H) a w ν
abbrev PostX:=Exit->Nat->LX->HX->Prop
def jv(I:World->Prop)(n:Nat)(g:Gx)(Q:PostX):Exit->Act->World->Prop:=fun e a w=>∃ m L H ν,Q e m L H/\IX I n g m L H a w ν
def Wc(P:Program)(I:World->Prop)(n:Nat)(g:Gx)(c:Code)(Q:PostX)(m:Nat)(L:LX)(H:HX):Prop:=∀ a w ν,IX I n g m L H a w ν->c.wp P (jv I n g Q) a w
section
variable {P:Program}{I:World->Prop}{n:Nat}{g:Gx}{Q:PostX}{m:Nat}{L:LX}{H:HX}
theorem Wc.mono{c:Code}{Q':PostX}(h:Wc P I n g c Q m L H)(hq:∀ e m L H,Q e m L H->Q' e m L H):Wc P I n g c Q' m L H :=
 fun a w ν S=>wp_mono (h a w ν S) fun e a w ⟨m,L,H,ν,q,k⟩=>⟨m,L,H,ν,hq _ _ _ _ q,k⟩
theorem A9R{x y:Code}(R:PostX)(h:Wc P I n g x R m L H)(hn:∀ m L H,R .normal m L H->Wc P I n g y Q m L H)(hx:∀ e m L H,e≠.normal->R e m L H->Q e m L H):Wc P I n g (.seq x y) Q m L H:=by
 intro a w ν S
 refine wp_seq (wp_mono (h a w ν S) ?_)
 rintro e a' w' ⟨m',L',H',ν',q,S'⟩
 cases e with
 | normal=>exact hn _ _ _ q a' w' ν' S'
 | _=>exact⟨m',L',H',ν',hx _ _ _ _ zat q,S'⟩
theorem A6C(h:Q .normal m L H):Wc P I n g .skip Q m L H:=fun a w ν S=>wp_skip ⟨m,L,H,ν,h,S⟩
theorem A1u{l:Nat}(h:Q .normal m L H):Wc P I n g (.label l) Q m L H:=fun a w ν S=>wp_label ⟨m,L,H,ν,h,S⟩
theorem A6D(h:Q (.exit id) m L H):Wc P I n g (.exit id) Q m L H:=fun a w ν S=>wp_exit ⟨m,L,H,ν,h,S⟩
theorem A9S(h:Q .ret m L H):Wc P I n g .ret Q m L H:=fun a w ν S=>wp_ret ⟨m,L,H,ν,h,S⟩
theorem A1v{ν:Nat->Value}(S:IX I n g m L H a w ν){c:Operand}{t:Bool}(hc:FZ L c=some (.b t)):a.eval c=.bool t:=by
 cases c with
 | tmp t'=>have:=S.slots t' _ hc;simp only[Rep] at this;exact this
 | const v =>
  simp only[FZ,Option.some.injEq] at hc
  have:=AV.of_rep ⟨fun _=>False,ν,fun _=>False,w⟩ v
  rw[hc] at this
  simp only[Rep] at this
  exact this
 | global g|func g=>simp[FZ] at hc
theorem A6E{c:Operand}{x y:Code}{t:Bool}(hc:FZ L c=some (.b t))(h:Wc P I n g (bif t then x else y) Q m L H):Wc P I n g (.cond c x y) Q m L H:=by
 intro a w ν S
 have:=A1v S hc
 cases t with
 | true=>exact wp_cond_true this (h a w ν S)
 | false=>exact wp_cond_false this (h a w ν S)
theorem A1w{c:Code}(R:PostX)(h:Wc P I n g c R m L H)(h1:∀ m L H,R (.exit id) m L H->Q .normal m L H)(h2:∀ e m L H,e≠.exit id->R e m L H->Q e m L H):Wc P I n g (.block id c) Q m L H:=by
 intro a w ν S
 refine wp_block (wp_mono (h a w ν S) ?_)
 rintro e a' w' ⟨m',L',H',ν',q,S'⟩
 cases e with
 | exit id' =>
  simp only[Exit.inBlock]
  split
  ·rename_i hid;subst hid;exact⟨m',L',H',ν',h1 _ _ _ q,S'⟩
  ·rename_i hid;exact⟨m',L',H',ν',h2 _ _ _ _ zaU q,S'⟩
 | _=>exact⟨m',L',H',ν',h2 _ _ _ _ zat q,S'⟩
end
structure Good (I:World->Prop) (c:Cx):Prop where
 lt:∀ b,c.O b->b<c.w.heap.size
 inv:∀ w',Stp c.O c.w w'->I w'
def Uw(c:Cx)(L:LX)(e:Operand->Value):Prop:=∀ x s,FZ L x=some s->Rep c s (e x)
structure Pre (c:Cx) (F F':Fp):Prop where
 res:∀ k R,Ez k F=some R->c.N k/\Holds c k R/\∀ b,blk (c.ν k)=some b->c.O b
 dist:∀ k k' R R' b,Ez k F=some R->Ez k' F=some R'->k≠k'->blk (c.ν k)=some b->blk (c.ν k')≠some b
 new:∀ k,has k F'->has k F\/¬c.N k
def OPL(P:Program)(I:World->Prop)(L:LX)(F:Fp)(op:Op)(ty:TypeId)(s:AV)(F':Fp):Prop :=
 ∀(c:Cx) (e:Operand->Value),Good I c->Uw c L e->Pre c F F'->ja P e op ty c.w fun v w'=>∃ ν',Ok c F F' s v w' ν'
def OS(P:Program)(I:World->Prop)(n:Nat)(g:Gx)(op:Op)(ty:TypeId)(m:Nat)(L:LX)(H:HX)(K:AV->Nat->HX->Prop):Prop :=
 ∀ a w ν,IX I n g m L H a w ν->ja P a.eval op ty w fun v w'=>∃ s m' H' ν',K s m' H'/\IX I n g m' L H' a w' ν'/\Rep ⟨(· < m'),ν',FC g.Oa (fun k=>hlk k H') ν',w'⟩ s v
section
variable {P:Program}{I:World->Prop}{n:Nat}{g:Gx}{m:Nat}{L:LX}{H:HX}
theorem Sat.val{N:Nat->Prop}{lk:Nat->Option AV}{hk:Nat->Option Rs}{a:Act}{w:World}{ν:Nat->Value}(S:Sat I n g N lk hk a w ν){L:LX}(hL:∀ t s,JG t L=some s->lk t=some s):Uw ⟨N,ν,FC g.Oa hk ν,w⟩ L a.eval:=by
 intro x s hx
 cases x with
 | tmp t=>exact S.slots t s (hL t s hx)
 | const c=>simp only[FZ,Option.some.injEq] at hx;subst hx;exact AV.of_rep _ c
 | global g=>simp only[FZ,Option.some.injEq] at hx;subst hx;simp only[Rep];rfl
 | func g=>simp only[FZ,Option.some.injEq] at hx;subst hx;simp only[Rep,Af];exact⟨[],[],rfl,rfl,rfl⟩
theorem Sat.good{N:Nat->Prop}{lk:Nat->Option AV}{hk:Nat->Option Rs}{ν:Nat->Value}(S:Sat I n g N lk hk a w ν):Good I ⟨N,ν,FC g.Oa hk ν,w⟩ :=
 ⟨fun b hb=>by
  rcases hb with h|⟨k,R,h,hb⟩
  ·exact Nat.lt_of_lt_of_le (S.amb b h).1 S.stp.size
  ·exact((S.res k R h).2.2 b hb).1,S.inv⟩
theorem Sat.pre{N:Nat->Prop}{lk:Nat->Option AV}{hk:Nat->Option Rs}{ν:Nat->Value}(S:Sat I n g N lk hk a w ν){F F':Fp}(hF:∀ k R,Ez k F=some R->hk k=some R)(hnew:∀ k,has k F'->has k F\/¬N k):Pre ⟨N,ν,FC g.Oa hk ν,w⟩ F F' :=
 ⟨fun k R hk=>by
  obtain⟨r0,r1,r2⟩:=S.res k R (hF k R hk)
  exact⟨r0,r1,fun b hb=>.inr ⟨k,R,hF k R hk,hb⟩⟩,fun k k' R R' b h h' hne=>S.dist k k' R R' b (hF k R h) (hF k' R' h') hne,hnew⟩
theorem ABF{F F':Fp}{s:AV}{K:AV->Nat->HX->Prop}{m':Nat}{H':HX}(h:OPL P I L F op ty s F')(hF:∀ k R,Ez k F=some R->hlk k H=some R)(hnew:∀ k,has k F'->has k F\/¬k<m)(hN:∀ k,has k F'->k<m')(hm:m<=m')(hk':∀ k,hlk k H'=upd F F' (fun k=>hlk k H) k)(hK:K s m' H'):OS P I n g op ty m L H K:=by
 intro a w ν S
 refine Gz (h ⟨(· < m),ν,FC g.Oa (fun k=>hlk k H) ν,w⟩ a.eval S.good (S.val fun _ _ h=>h) (S.pre hF hnew)) ?_
 rintro v w' ⟨ν',ok⟩
 obtain⟨S',hr⟩:=S.step (N':=fun k=>k<m\/has k F') (hk':=fun k=>hlk k H') hF ok (fun _=>Iff.rfl) hk'
 have hsub:∀ k,(k<m\/has k F')->k<m':=fun k h=>h.elim (fun h=>Nat.lt_of_lt_of_le h hm) (hN k)
 exact⟨s,m',H',ν',hK,S'.moreN hsub,Rep.le (m:=none) (c:=⟨fun k=>k<m\/has k F',ν',FC g.Oa (fun k=>hlk k H') ν',w'⟩) (c':=⟨(· < m'),ν',FC g.Oa (fun k=>hlk k H') ν',w'⟩) ⟨fun k _ hk=>⟨hsub k hk,rfl⟩,fun _ h=>h⟩ s v (GU s) hr⟩
end
def RS(P:Program)(I:World->Prop)(n:Nat)(g:Gx)(ops:Array Oper)(Q:PostX)(l:List Oper)(m:Nat)(L:LX)(H:HX):Prop:=∀ a w ν,IX I n g m L H a w ν->wpList P ops (jv I n g Q) l a w
section
variable {P:Program}{I:World->Prop}{n:Nat}{g:Gx}{Q:PostX}{m:Nat}{L:LX}{H:HX}{ops:Array Oper}{rest:List Oper}
theorem zk{l:List Oper}(h:RS P I n g l.toArray Q l m L H):Wc P I n g (.region id l.toArray false) Q m L H:=fun a w ν S=>wp_region_lit (h a w ν S)
theorem A9T(h:Q .normal m L H):RS P I n g ops Q [] m L H:=fun a w ν S=>wpList_nil ⟨m,L,H,ν,h,S⟩
theorem sx(h:OS P I n g op ty m L H fun s m' H'=>RS P I n g ops Q rest m' ((d,s)::L) H')(hd:d<n):RS P I n g ops Q (⟨some d,op,ty,pos,af,none⟩::rest) m L H:=by
 intro a w ν S
 refine wpList_plain rfl fun K hK=>I7 (Gz (h a w ν S) ?_)
 rintro v w' ⟨s,m',H',ν',hr,S',hv⟩
 exact hK _ _ (hr _ _ ν' (S'.put hd hv (fun t=>Fq t d s L)))
theorem sx0(h:OS P I n g op ty m L H fun s m' H'=>RS P I n g ops Q rest m' L H'):RS P I n g ops Q (⟨none,op,ty,pos,af,none⟩::rest) m L H:=by
 intro a w ν S
 refine wpList_plain rfl fun K hK=>I7 (Gz (h a w ν S) ?_)
 rintro v w' ⟨s,m',H',ν',hr,S',hv⟩
 exact hK _ _ (hr _ _ ν' S')
theorem TV{ν:Nat->Value}(S:IX I n g m L H a w ν)(hj:(ops[j]?).bind (·.dst)=some d')(hb:JG d' L=some (.b b))(hd':d'<n):yielded ops a.tmps j=some b:=by
 have:=S.slots d' _ hb
 simp only[Rep] at this
 simp only[yielded,hj,Option.bind_some]
 rw[Array.getD_eq_getD_getElem?] at this
 have hlt:d'<a.tmps.size:=by rw[S.size];exact hd'
 simp_all
theorem sxY(hj:(ops[j]?).bind (·.dst)=some d')(hb:JG d' L=some (.b want))(hd':d'<n)(h:OS P I n g op ty m L H fun s m' H'=>RS P I n g ops Q rest m' ((d,s)::L) H')(hd:d<n):RS P I n g ops Q (⟨some d,op,ty,pos,af,some (j,want)⟩::rest) m L H:=by
 intro a w ν S
 have hy:=TV S hj hb hd'
 refine wpList_step fun K hK=>?_
 rw[if_pos zbE]
 refine I7 (Gz (h a w ν S) ?_)
 rintro v w' ⟨s,m',H',ν',hr,S',hv⟩
 exact hK _ _ (hr _ _ ν' (S'.put hd hv (fun t=>Fq t d s L)))
theorem ADM(hj:(ops[j]?).bind (·.dst)=some d')(hb:JG d' L=some (.b want))(hd':d'<n)(h:OS P I n g op ty m L H fun s m' H'=>RS P I n g ops Q rest m' L H'):RS P I n g ops Q (⟨none,op,ty,pos,af,some (j,want)⟩::rest) m L H:=by
 intro a w ν S
 have hy:=TV S hj hb hd'
 refine wpList_step fun K hK=>?_
 rw[if_pos zbE]
 refine I7 (Gz (h a w ν S) ?_)
 rintro v w' ⟨s,m',H',ν',hr,S',hv⟩
 exact hK _ _ (hr _ _ ν' S')
theorem sxN(hj:(ops[j]?).bind (·.dst)=some d')(hb:JG d' L=some (.b b))(hw:b = !want)(h:RS P I n g ops Q rest m ((d,.tup [])::L) H)(hd:d<n)(hd':d'<n):RS P I n g ops Q (⟨some d,op,ty,pos,af,some (j,want)⟩::rest) m L H:=by
 intro a w ν S
 have hy:=TV S hj hb hd'
 refine wpList_step fun K hK=>?_
 rw[if_neg zbC]
 exact hK _ _ (h _ _ ν (S.put hd zby (fun t=>Fq t d _ L)))
theorem ADN(hj:(ops[j]?).bind (·.dst)=some d')(hb:JG d' L=some (.b b))(hw:b = !want)(h:RS P I n g ops Q rest m L H)(hd':d'<n):RS P I n g ops Q (⟨none,op,ty,pos,af,some (j,want)⟩::rest) m L H:=by
 intro a w ν S
 have hy:=TV S hj hb hd'
 refine wpList_step fun K hK=>?_
 rw[if_neg zbC]
 exact hK _ _ (h _ _ ν S)
theorem jw{ν:Nat->Value}(S:IX I n g m L H a w ν)(hj:(ops[j]?).bind (·.dst)=some d')(hb:JG d' L=some (.tup []))(hd':d'<n):yielded ops a.tmps j=none:=by
 have:=S.slots d' _ hb
 simp only[Rep,Af] at this
 obtain⟨us,h1,rfl⟩:=this
 simp only[yielded,hj,Option.bind_some]
 rw[Array.getD_eq_getD_getElem?] at h1
 grind
theorem sxU(hj:(ops[j]?).bind (·.dst)=some d')(hb:JG d' L=some (.tup []))(h:RS P I n g ops Q rest m ((d,.tup [])::L) H)(hd:d<n)(hd':d'<n):RS P I n g ops Q (⟨some d,op,ty,pos,af,some (j,want)⟩::rest) m L H:=by
 intro a w ν S
 have hy:=jw S hj hb hd'
 refine wpList_step fun K hK=>?_
 rw[if_neg zbE]
 exact hK _ _ (h _ _ ν (S.put hd zby (fun t=>Fq t d _ L)))
theorem ADO(hj:(ops[j]?).bind (·.dst)=some d')(hb:JG d' L=some (.tup []))(h:RS P I n g ops Q rest m L H)(hd':d'<n):RS P I n g ops Q (⟨none,op,ty,pos,af,some (j,want)⟩::rest) m L H:=by
 intro a w ν S
 have hy:=jw S hj hb hd'
 refine wpList_step fun K hK=>?_
 rw[if_neg zbE]
 exact hK _ _ (h _ _ ν S)
end
end Go.Ax
namespace Go.Ax
open Go Go.RowKit Go.Eng
variable {α:Type}
def iadd0(a b:Int):Int:=IntKind.i64.wrap (a+b)
def isub0(a b:Int):Int:=IntKind.i64.wrap (a-b)
def imul0(a b:Int):Int:=IntKind.i64.wrap (a*b)
def iquo0(a b:Int):Int:=IntKind.i64.wrap (a.tdiv b)
def irem0(a b:Int):Int:=a.tmod b
def ibit0(op:BinOp)(a b:Int):Int:=bits op .i64 a b
def ineg0(a:Int):Int:=IntKind.i64.wrap (-a)
def ieq0(a b:Int):Bool:=a==b
def ine0(a b:Int):Bool:=a != b
def ilt0(a b:Int):Bool:=decide (a<b)
def ile0(a b:Int):Bool:=decide (a<=b)
def ishl0(a:Int)(c:Nat):Int:=IntKind.i64.wrap (a*2^min c 64)
def ishr0(a:Int)(c:Nat):Int:=a/2^min c 64
def beq0(a b:Bool):Bool:=a==b
def bnot0(a:Bool):Bool := !a
def and0(a b:Bool):Bool:=a&&b
def seq0(a b:List UInt8):Bool:=decide (a=b)
def u8op0(op:BinOp)(a b:UInt8):UInt8:=A1j op a b
def u32op0(op:BinOp)(a b:UInt32):UInt32:=je op a b
def u64op0(op:BinOp)(a b:UInt64):UInt64:=TG op a b
def u8rem0(a b:UInt8):UInt8:=UInt8.ofNat (a.toNat%b.toNat)
def u8shr0(a:UInt8)(c:Nat):UInt8:=UInt8.ofNat (a.toNat/2^min c 8)
def u8shl0(a:UInt8)(c:Nat):UInt8:=UInt8.ofInt ((a.toNat:Int)*2^min c 8)
def u64shr0(a:UInt64)(c:Nat):UInt64:=UInt64.ofNat (a.toNat/2^min c 64)
def u64shl0(a:UInt64)(c:Nat):UInt64:=UInt64.ofInt ((a.toNat:Int)*2^min c 64)
def u32shr0(a:UInt32)(c:Nat):UInt32:=UInt32.ofNat (a.toNat/2^min c 32)
def u32shl0(a:UInt32)(c:Nat):UInt32:=UInt32.ofInt ((a.toNat:Int)*2^min c 32)
def i64w0(a:Int):Int:=IntKind.i64.wrap a
def u8i0(a:UInt8):Int:=(a.toNat:Int)
def u64i0(a:UInt64):Int:=IntKind.i64.wrap (a.toNat:Int)
def iu80(a:Int):UInt8:=UInt8.ofInt a
def iu320(a:Int):UInt32:=UInt32.ofInt a
def iu640(a:Int):UInt64:=UInt64.ofInt a
def u8u640(a:UInt8):UInt64:=a.toUInt64
def u8u320(a:UInt8):UInt32:=a.toUInt32
def u64u80(a:UInt64):UInt8:=a.toUInt8
def u32u80(a:UInt32):UInt8:=a.toUInt8
def u64cmp0(op:BinOp)(a b:UInt64):Bool:=WW op (a.toNat:Int) (b.toNat:Int)
def u8cmp0(op:BinOp)(a b:UInt8):Bool:=WW op (a.toNat:Int) (b.toNat:Int)
def u32cmp0(op:BinOp)(a b:UInt32):Bool:=WW op (a.toNat:Int) (b.toNat:Int)
def llen0{α:Type}(l:List α):Int:=(l.length:Int)
def lget0{α:Type}(l:List α)(i:Int):Option α:=if 0<=i then l[i.toNat]? else none
def linb0{α:Type}(l:List α)(i:Int):Bool:=decide (0<=i/\i<l.length)
def lset0{α:Type}(l:List α)(i:Int)(a:α):List α:=l.set i.toNat a
def lcut0{α:Type}(l:List α)(lo hi:Int):Option (List α):=if 0<=lo/\lo<=hi/\hi<=l.length then some ((l.drop lo.toNat).take (hi-lo).toNat) else none
def lrep0{α:Type}(n:Int)(a:α):List α:=List.replicate n.toNat a
def lapp0{α:Type}(l m:List α):List α:=l++m
def lcpy0{α:Type}(l m:List α):List α:=m.take l.length++l.drop m.length
def lcpv0{α:Type}(l:List α)(lo hi:Int)(m:List α):List α:=l.take lo.toNat++m.take (hi.toNat-lo.toNat)++l.drop (lo.toNat+min m.length (hi.toNat-lo.toNat))
def lemp0{α:Type}(l:List α):Bool:=l.isEmpty
def ieqs0(l m:List Int):Bool:=decide (l=m)
def fits0{α:Type}(l:List α)(bytes:Nat):Bool:=decide (l.length*bytes<=140737488355328)
def fitn0(n:Int)(bytes:Nat):Bool:=decide (0<=n/\bytes*n.toNat<=281474976710656)
noncomputable def AC{α:Type}(a:α):α:=Classical.choose (⟨a,rfl⟩:∃ x,x=a)
theorem BV(a:α):AC a=a:=Classical.choose_spec (⟨a,rfl⟩:∃ x,x=a)
noncomputable def CS:Int->Int->Int:=AC iadd0
theorem A1x:CS=iadd0:=BV _
noncomputable def Cj:Int->Int->Int:=AC isub0
theorem A1y:Cj=isub0:=BV _
noncomputable def CP:Int->Int->Int:=AC imul0
theorem A1z:CP=imul0:=BV _
noncomputable def CW:Int->Int->Int:=AC iquo0
theorem A20:CW=iquo0:=BV _
noncomputable def CQ:Int->Int->Int:=AC irem0
theorem eX:CQ=irem0:=BV _
noncomputable def BC:BinOp->Int->Int->Int:=AC ibit0
theorem NP:BC=ibit0:=BV _
noncomputable def Cm:Int->Int:=AC ineg0
theorem A21:Cm=ineg0:=BV _
noncomputable def ED:Int->Int->Bool:=AC ieq0
theorem TW:ED=ieq0:=BV _
noncomputable def ES:Int->Int->Bool:=AC ine0
theorem Vr:ES=ine0:=BV _
noncomputable def Dx:Int->Int->Bool:=AC ilt0
theorem Nk:Dx=ilt0:=BV _
noncomputable def EG:Int->Int->Bool:=AC ile0
theorem NE:EG=ile0:=BV _
noncomputable def CJ:Int->Nat->Int:=AC ishl0
theorem Xc:CJ=ishl0:=BV _
noncomputable def Bi:Int->Nat->Int:=AC ishr0
theorem Ux:Bi=ishr0:=BV _
noncomputable def Ce:Bool->Bool->Bool:=AC beq0
theorem A22:Ce=beq0:=BV _
noncomputable def CX:Bool->Bool:=AC bnot0
theorem A23:CX=bnot0:=BV _
noncomputable def and':Bool->Bool->Bool:=AC and0
theorem A8V:and'=and0:=BV _
noncomputable def Cf:List UInt8->List UInt8->Bool:=AC seq0
theorem A24:Cf=seq0:=BV _
noncomputable def CU:BinOp->UInt8->UInt8->UInt8:=AC u8op0
theorem eY:CU=u8op0:=BV _
noncomputable def Au:BinOp->UInt32->UInt32->UInt32:=AC u32op0
theorem TY:Au=u32op0:=BV _
noncomputable def BI:BinOp->UInt64->UInt64->UInt64:=AC u64op0
theorem EU:BI=u64op0:=BV _
noncomputable def BL:UInt8->UInt8->UInt8:=AC u8rem0
theorem ed:BL=u8rem0:=BV _
noncomputable def BP:UInt8->Nat->UInt8:=AC u8shr0
theorem xH:BP=u8shr0:=BV _
noncomputable def BR:UInt8->Nat->UInt8:=AC u8shl0
theorem A6G:BR=u8shl0:=BV _
noncomputable def Ag:UInt64->Nat->UInt64:=AC u64shr0
theorem Xd:Ag=u64shr0:=BV _
noncomputable def Ai:UInt64->Nat->UInt64:=AC u64shl0
theorem jy:Ai=u64shl0:=BV _
noncomputable def AY:UInt32->Nat->UInt32:=AC u32shr0
theorem kK:AY=u32shr0:=BV _
noncomputable def Ae:UInt32->Nat->UInt32:=AC u32shl0
theorem kM:Ae=u32shl0:=BV _
noncomputable def D5:Int->Int:=AC i64w0
theorem A25:D5=i64w0:=BV _
noncomputable def EJ:UInt8->Int:=AC u8i0
theorem kN:EJ=u8i0:=BV _
noncomputable def D6:UInt64->Int:=AC u64i0
theorem A26:D6=u64i0:=BV _
noncomputable def DX:Int->UInt8:=AC iu80
theorem A8W:DX=iu80:=BV _
noncomputable def Cb:Int->UInt32:=AC iu320
theorem A27:Cb=iu320:=BV _
noncomputable def BZ:Int->UInt64:=AC iu640
theorem FP:BZ=iu640:=BV _
noncomputable def BQ:UInt8->UInt64:=AC u8u640
theorem xI:BQ=u8u640:=BV _
noncomputable def BM:UInt8->UInt32:=AC u8u320
theorem xJ:BM=u8u320:=BV _
noncomputable def BO:UInt64->UInt8:=AC u64u80
theorem xK:BO=u64u80:=BV _
noncomputable def BJ:UInt32->UInt8:=AC u32u80
theorem eu:BJ=u32u80:=BV _
noncomputable def AZ:BinOp->UInt64->UInt64->Bool:=AC u64cmp0
theorem Jm:AZ=u64cmp0:=BV _
noncomputable def BK:BinOp->UInt8->UInt8->Bool:=AC u8cmp0
theorem OT:BK=u8cmp0:=BV _
noncomputable def Aj:BinOp->UInt32->UInt32->Bool:=AC u32cmp0
theorem A28:Aj=u32cmp0:=BV _
noncomputable def Ak{α:Type}:List α->Int:=AC llen0
theorem fA:@Ak α=llen0:=BV _
noncomputable def Ap{α:Type}:List α->Int->Option α:=AC lget0
theorem LJ:@Ap α=lget0:=BV _
noncomputable def D7{α:Type}:List α->Int->Bool:=AC linb0
theorem A29:@D7 α=linb0:=BV _
noncomputable def BB{α:Type}:List α->Int->α->List α:=AC lset0
theorem A2A:@BB α=lset0:=BV _
noncomputable def CV{α:Type}:List α->Int->Int->Option (List α):=AC lcut0
theorem fB:@CV α=lcut0:=BV _
noncomputable def BU{α:Type}:Int->α->List α:=AC lrep0
theorem fC:@BU α=lrep0:=BV _
noncomputable def BF{α:Type}:List α->List α->List α:=AC lapp0
theorem fD:@BF α=lapp0:=BV _
noncomputable def CO{α:Type}:List α->List α->List α:=AC lcpy0
theorem A2B:@CO α=lcpy0:=BV _
noncomputable def D8{α:Type}:List α->Int->Int->List α->List α:=AC lcpv0
theorem sV:@D8 α=lcpv0:=BV _
noncomputable def Cc{α:Type}:List α->Bool:=AC lemp0
theorem A2C:@Cc α=lemp0:=BV _
noncomputable def fits{α:Type}:List α->Nat->Bool:=AC fits0
theorem Xe:@fits α=fits0:=BV _
noncomputable def Ci:List Int->List Int->Bool:=AC ieqs0
theorem fE:Ci=ieqs0:=BV _
noncomputable def D9:Int->Nat->Bool:=AC fitn0
theorem A2D:D9=fitn0:=BV _
theorem xM:CS=iadd0/\Cj=isub0/\CP=imul0/\CW=iquo0/\CQ=irem0/\BC=ibit0/\Cm=ineg0/\ED=ieq0/\ES=ine0/\Dx=ilt0/\EG=ile0/\CJ=ishl0/\Bi=ishr0/\Ce=beq0/\CX=bnot0/\and'=and0/\Cf=seq0/\CU=u8op0/\Au=u32op0/\BI=u64op0/\BL=u8rem0/\BP=u8shr0/\BR=u8shl0/\Ag=u64shr0/\Ai=u64shl0/\AY=u32shr0/\Ae=u32shl0/\D5=i64w0/\EJ=u8i0/\D6=u64i0/\DX=iu80/\Cb=iu320/\BZ=iu640/\BQ=u8u640/\BM=u8u320/\BO=u64u80/\BJ=u32u80/\AZ=u64cmp0/\BK=u8cmp0/\Aj=u32cmp0/\Ci=ieqs0/\D9=fitn0:=⟨A1x,A1y,A1z,A20,eX,NP,A21,TW,Vr,Nk,NE,Xc,Ux,A22,A23,A8V,A24,eY,TY,EU,ed,xH,A6G,Xd,jy,kK,kM,A25,kN,A26,A8W,A27,FP,xI,xJ,xK,eu,Jm,OT,A28,fE,A2D⟩
theorem xN:@Ak α=llen0/\@Ap α=lget0/\@D7 α=linb0/\@BB α=lset0/\@CV α=lcut0/\@BU α=lrep0/\@BF α=lapp0/\@CO α=lcpy0/\@D8 α=lcpv0/\@Cc α=lemp0/\@fits α=fits0:=⟨fA,LJ,A29,A2A,fB,fC,fD,A2B,sV,A2C,Xe⟩
noncomputable section
def A6H:(e e':Ty)->List (El e')->Option (List (El e))
 | .u8,.u8,l|.i64,.i64,l|.sl .u8,.sl .u8,l|.sl (.sl .u8),.sl (.sl .u8),l=>some l
 | e,e',l=>if h:e'=e then(Eq.rec (motive:=fun x _=>Option (List (El x))) (some l) h) else none
theorem fF:∀ {e e':Ty} {l:List (El e')} {l':List (El e)},A6H e e' l=some l'->e'=e/\HEq l l':=by
 intro e e' l l' h
 unfold A6H at h
 split at h
 ·exact⟨rfl,heq_of_eq (Option.some.inj h)⟩
 ·exact⟨rfl,heq_of_eq (Option.some.inj h)⟩
 ·exact⟨rfl,heq_of_eq (Option.some.inj h)⟩
 ·exact⟨rfl,heq_of_eq (Option.some.inj h)⟩
 ·split at h
  ·rename_i e2;subst e2;exact⟨rfl,heq_of_eq (Option.some.inj h)⟩
  ·cases h
def Wy:(t:Ty)->List AV->Option (El t×List AV)
 | .bool,.b x::r|.i64,.i x::r|.u8,.u8 x::r|.u32,.u32 x::r|.u64,.u64 x::r|.str,.str x::r=>some (x,r)
 | .unit,r=>some ((),r)
 | .pair a b,r=>match Wy a r with
  | some (x,r)=>(match Wy b r with|some (y,r)=>some ((x,y),r)|none=>none)
  | none=>none
 | .sl e,.sl e' l::r|.sl e,.st e' l::r|.sl e,.sn e' l::r=>(match A6H e e' l with|some l=>some (l,r)|none=>none)
 | .sl e,.nil::r=>some ([],r)
 | _,_=>none
inductive Und where
 | bool|i64|u8|u32|u64|str
 | sl (el:TypeId)
 | fld (pl:List (Nat×Nat)) (sc:List Bool)
 | arr (n el:Nat)
 | ptr (el:TypeId)
 | oth
structure TI where
 u:Und
 size:Nat
 bytes:Nat
 zero:List AV
 ty:Option Ty
 eq2:Bool:=false
 eqn:Nat:=0   -- a struct of so many whole numbers, and of nothing else
 gl:List (Nat×List UInt32):=[]   -- package variables of this type, tables of words that nobody writes
 ga:List (Nat×List Value):=[]   -- the same, by their cells
abbrev TT:=List (Nat×TI)
def Me(k:Nat):TT->Option TI
 | []=>none
 | (d,v)::H=>bif Nat.beq k d then some v else Me k H
def addN{R:Type}(m nn:Nat)(K:Nat->R):R:=match m+nn with|0=>K 0|n+1=>K (n+1)
theorem Dp{R:Type}(m nn:Nat)(K:Nat->R):addN m nn K=K (m+nn):=by grind[addN]
def Iw{R:Type}:List Nat->(List Nat->R)->R
 | [],K=>K []
 | a::r,K=>addN 0 a fun a=>Iw r fun r=>K (a::r)
theorem EW{R:Type}:∀(l:List Nat) (K:List Nat->R),Iw l K=K l
 | [],K=>rfl
 | a::r,K=>by simp only[Iw,Dp,EW r,Nat.zero_add]
def A2E{R:Type}(i:TI)(K:Nat->R):R:=match i with|⟨_,_,b,_,_,_,_,_,_⟩=>K b
theorem TZ{R:Type}(i:TI)(K:Nat->R):A2E i K=K i.bytes:=rfl
mutual
def force{R:Type}:AV->(AV->R)->R
 | .pt l,K=>Ie l fun l=>K (.pt l)
 | .agg l,K=>Ie l fun l=>K (.agg l)
 | .tup l,K=>Ie l fun l=>K (.tup l)
 | .fn f a b,K=>Ie a fun a=>Ie b fun b=>K (.fn f a b)
 | .un,K=>K .un
 | .b x,K=>K (.b x)
 | .i x,K=>K (.i x)
 | .u8 x,K=>K (.u8 x)
 | .u32 x,K=>K (.u32 x)
 | .u64 x,K=>K (.u64 x)
 | .str x,K=>K (.str x)
 | .gp g,K=>K (.gp g)
 | .sl t l,K=>K (.sl t l)
 | .st t l,K=>K (.st t l)
 | .sn t l,K=>K (.sn t l)
 | .nil,K=>K .nil
 | .nm k,K=>addN 0 k fun k=>K (.nm k)
 | .pa k o,K=>addN 0 k fun k=>K (.pa k o)
 | .pe k i s o,K=>addN 0 k fun k=>K (.pe k i s o)
 | .vs k s a b,K=>addN 0 k fun k=>K (.vs k s a b)
def Ie{R:Type}:List AV->(List AV->R)->R
 | [],K=>K []
 | s::r,K=>force s fun s=>Ie r fun r=>K (s::r)
end
def Uy{R:Type}:Rs->(Rs->R)->R
 | .var l,K=>Ie l fun l=>K (.var l)
 | .row e t l,K=>K (.row e t l)
 | .rowA e s n l,K=>Ie l fun l=>K (.rowA e s n l)
mutual
theorem force_eq{R:Type}:∀(s:AV) (K:AV->R),force s K=K s
 | .pt l,K|.agg l,K|.tup l,K|.fn f a b,K=>by simp only[force,H5]
 | .un,K|.b _,K|.i _,K|.u8 _,K|.u32 _,K|.u64 _,K|.str _,K|.sl _ _,K|.st _ _,K|.sn _ _,K|.nil,K|.gp _,K=>by simp only[force]
 | .nm _,K|.pa _ _,K|.pe _ _ _ _,K|.vs _ _ _ _,K=>by simp_all[force,Dp]
theorem H5{R:Type}:∀(s:List AV) (K:List AV->R),Ie s K=K s
 | [],K=>by simp only[Ie]
 | s::r,K=>by simp only[Ie,force_eq,H5]
end
theorem QK{R:Type}(s:Rs)(K:Rs->R):Uy s K=K s:=by cases s<;>simp only[Uy,H5]
structure Tr where
 s:AV
 F:Fp
 F':Fp
 rd:Bool
 nn:Nat
def Tr.pure(s:AV):Tr:=⟨s,[],[],true,0⟩
def cellsA:AV->Option (List AV)
 | .gp _|.tup _|.un=>none
 | .agg l=>some l
 | s=>some [s]
mutual
def noRd:AV->Bool
 | .sl _ _|.st _ _|.sn _ _|.pt _=>false
 | .agg l|.tup l=>Ld l
 | .fn _ a b=>Ld a&&Ld b
 | _=>true
def Ld:List AV->Bool
 | []=>true
 | s::r=>noRd s&&Ld r
end
def Ty.plain:Ty->Bool
 | .sl _=>false
 | .pair a b=>a.plain&&b.plain
 | _=>true
def Xf:Rs->Bool
 | .var l=>Ld l
 | .row _ t _=>t.plain
 | .rowA _ _ _ l=>Ld l
def NF:Fp->Bool
 | []=>true
 | (_,R)::r=>Xf R&&NF r
def rdA(hk:Nat->Option Rs):AV->Option (AV×Fp)
 | .nm k=>match hk k with|some (.row e t l)=>some (.sl t l,[(k,.row e t l)])|_=>none
 | s=>some (s,[])
def Jj:AV->Option Int
 | .i x=>some x
 | .u8 x=>some (EJ x)
 | .u64 x|.u32 x=>some (x.toNat:Int)
 | _=>none
def scalar:Und->Bool
 | .fld _ _|.arr _ _=>false
 | _=>true
variable {R:Type}
def OU(y:AV)(K:Nat->Option R):Option R:=match y with
 | .i c=>bif Dx c 0 then none else K c.toNat
 | .u8 c|.u32 c|.u64 c=>K c.toNat
 | _=>none
def Uz(op:BinOp)(a b:UInt8)(K:AV->Option R):Option R:=match op with
 | .rem=>bif Nat.beq b.toNat 0 then none else K (.u8 (BL a b))
 | _=>none
def intsOf:List AV->Option (List Int)
 | []=>some []
 | .i a::r=>(match intsOf r with|some l=>some (a::l)|none=>none)
 | _=>none
def Zp(bt:Bool)(e2:Bool)(en:Nat)(bs:Bool)(op:BinOp)(x y:AV)(K:AV->Option R):Option R:=match op with
 | .shl=>OU y fun c=>(match x with
  | .i a=>K (.i (CJ a c))
  | .u8 a=>K (.u8 (BR a c))
  | .u64 a=>K (.u64 (Ai a c))
  | .u32 a=>K (.u32 (Ae a c))
  | _=>none)
 | .shr=>OU y fun c=>(match x with
  | .i a=>K (.i (Bi a c))
  | .u8 a=>K (.u8 (BP a c))
  | .u64 a=>K (.u64 (Ag a c))
  | .u32 a=>K (.u32 (AY a c))
  | _=>none)
 | op=>match x,y with
  | .i a,.i b=>(match op with
   | .add=>K (.i (CS a b))
   | .sub=>K (.i (Cj a b))
   | .mul=>K (.i (CP a b))
   | .quo=>bif ED b 0 then none else K (.i (CW a b))
   | .rem=>bif ED b 0 then none else K (.i (CQ a b))
   | .eql=>K (.b (ED a b))
   | .neq=>K (.b (ES a b))
   | .lss=>K (.b (Dx a b))
   | .leq=>K (.b (EG a b))
   | .gtr=>K (.b (Dx b a))
   | .geq=>K (.b (EG b a))
   | op=>K (.i (BC op a b)))
  | .u8 a,.u8 b=>bif TJ op then K (.u8 (CU op a b)) else bif Vl op then K (.b (BK op a b)) else Uz op a b K
  | .u32 a,.u32 b=>bif TJ op then K (.u32 (Au op a b)) else bif Vl op then K (.b (Aj op a b)) else none
  | .u64 a,.u64 b=>bif TJ op then K (.u64 (BI op a b)) else bif Vl op then K (.b (AZ op a b)) else none
  | .b a,.b b=>bif bt then(match op with
   | .eql=>K (.b (Ce a b))
   | .neq=>K (.b (CX (Ce a b)))
   | _=>none) else none
  | .str a,.str b=>(match op with
   | .eql=>K (.b (Cf a b))
   | .neq=>K (.b (CX (Cf a b)))
   | _=>none)
  | .agg [.i a,.i b],.agg [.i c,.i d]=>bif e2 then(match op with
   | .eql=>K (.b (and' (ED a c) (ED b d)))
   | .neq=>K (.b (CX (and' (ED a c) (ED b d))))
   | _=>none) else none
  | .nil,.nil=>bif bs then(match op with
   | .eql=>K (.b true)
   | .neq=>K (.b false)
   | _=>none) else none
  | .sn _ _,.nil=>bif bs then(match op with
   | .eql=>K (.b false)
   | .neq=>K (.b true)
   | _=>none) else none
  | .sl _ l,.nil=>bif bs then bif Cc l then none else(match op with
   | .eql=>K (.b false)
   | .neq=>K (.b true)
   | _=>none) else none
  | .agg l,.agg m=>(match intsOf l,intsOf m with
   | some as,some bs=>bif Nat.blt 0 en&&Nat.beq as.length en&&Nat.beq bs.length en then(match op with
    | .eql=>K (.b (Ci as bs))
    | .neq=>K (.b (CX (Ci as bs)))
    | _=>none) else none
   | _,_=>none)
  | _,_=>none
def PO(d:Und)(x:AV)(K:AV->Option R):Option R:=match d,x with
 | .i64,.i a=>K (.i (D5 a))
 | .u8,.i a=>K (.u8 (DX a))
 | .u32,.i a=>K (.u32 (Cb a))
 | .u64,.i a=>K (.u64 (BZ a))
 | .i64,.u8 a=>K (.i (EJ a))
 | .u8,.u8 a=>K (.u8 a)
 | .u64,.u8 a=>K (.u64 (BQ a))
 | .u32,.u8 a=>K (.u32 (BM a))
 | .i64,.u64 a=>K (.i (D6 a))
 | .u8,.u64 a=>K (.u8 (BO a))
 | .u64,.u64 a=>K (.u64 a)
 | .u8,.u32 a=>K (.u8 (BJ a))
 | .str,.str a=>K (.str a)
 | _,_=>none
def WZ(pl:List (Nat×Nat))(ev:Operand->Option AV):List AV->List (Nat×Operand)->Option (List AV)
 | cells,[]=>some cells
 | cells,(i,x)::r=>match pl[i]?,(ev x).bind cellsA with
  | some (f,n),some l=>bif Nat.beq l.length n&&Nat.ble (f+n) cells.length then WZ pl ev (cells.take f++l++cells.drop (f+l.length)) r else none
  | _,_=>none
def xO(T:TT)(t:TypeId):Option (List (Nat×Nat)):=match Me t T with
 | some i=>(match i.u with
  | .fld pl _=>some pl
  | .arr n el=>(match Me el T with|some e=>some ((List.range n).map fun i=>(i*e.size,e.size))|none=>none)
  | _=>none)
 | none=>none
def IP(sc:Bool)(n:Nat)(l:List AV):Option AV:=bif sc then l.head? else bif Nat.ble n l.length then some (.agg (l.take n)) else none
def zl(a:Option AV)(K:AV->Option R):Option R:=match a with|some s=>K s|none=>none
def SE(T:TT)(t:TypeId):Option (TypeId×TI):=match Me t T with
 | some i=>(match i.u with
  | .sl el=>(match Me el T with|some e=>bif Nat.blt 0 e.size then some (el,e) else none|none=>none)
  | _=>none)
 | none=>none
def X0(T:TT)(t:TypeId):Option Und:=match Me t T with|some i=>some i.u|none=>none
def SG(T:TT)(t:TypeId):Bool:=match X0 T t with|some .u8=>true|_=>false
def kP(g:Nat):List (Nat×List Value)->Option (List Value)
 | []=>none
 | (d,v)::r=>bif Nat.beq g d then some v else kP g r
def V3(T:TT)(hk:Nat->Option Rs)(t:TypeId)(x:Option AV)(K:Tr->Option R):Option R:=match Me t T,x with
 | some i,some (.pa k o)=>(match hk k with
  | some (.var cells)=>(match IP (scalar i.u) i.size (cells.drop o) with|some s=>K ⟨s,[(k,.var cells)],[(k,.var cells)],true,0⟩|none=>none)
  | _=>none)
 | some i,some (.pe k j sz o)=>(match hk k with
  | some (.row e t l)=>bif Nat.beq sz t.n then(Ap l j).bind fun x=>(match IP (scalar i.u) i.size ((flat t x).drop o) with|some s=>K ⟨s,[(k,.row e t l)],[(k,.row e t l)],true,0⟩|none=>none) else none
  | some (.rowA e sz' n cells)=>(match IP (scalar i.u) i.size (cells.drop (j.toNat*sz+o)) with|some s=>K ⟨s,[(k,.rowA e sz' n cells)],[(k,.rowA e sz' n cells)],true,0⟩|none=>none)
  | _=>none)
 | some i,some (.pt l)=>(match IP (scalar i.u) i.size l with|some s=>K (.pure s)|none=>none)
 | some i,some (.gp g)=>(match kP g i.ga with
  | some us=>(match IP (scalar i.u) i.size (us.map AV.of) with|some s=>K (.pure s)|none=>none)
  | none=>none)
 | _,_=>none
def QL(T:TT)(hk:Nat->Option Rs)(t:TypeId)(x:Option AV)(y:Option (List AV))(K:Tr->Option R):Option R:=match Me t T,x,y with
 | some i,some (.pa k o),some l=>(match hk k with
  | some (.var cells)=>bif Nat.beq l.length i.size&&Nat.ble (o+l.length) cells.length then K ⟨.un,[(k,.var cells)],[(k,.var (cells.take o++l++cells.drop (o+l.length)))],false,0⟩ else none
  | _=>none)
 | some i,some (.pe k j sz o),some c=>(match hk k with
  | some (.row e t l)=>bif Nat.beq sz t.n&&Nat.beq c.length i.size&&Nat.ble (o+c.length) t.n then
    (Ap l j).bind fun x=>(match Wy t ((flat t x).take o++c++(flat t x).drop (o+c.length)) with
     | some (a,[])=>K ⟨.un,[(k,.row e t l)],[(k,.row e t (BB l j a))],false,0⟩
     | _=>none)
   else none
  | _=>none)
 | _,_,_=>none
def A2F(T:TT)(t:TypeId):Option (List (Nat×Nat)):=match X0 T t with|some (.fld pl _)=>some pl|_=>none
def V4(T:TT)(t:TypeId)(x:Option AV)(f:Nat)(K:Tr->Option R):Option R:=match(A2F T t).bind (·[f]?),x with
 | some (o',n),some (.pa k o)=>bif Nat.beq n 0 then none else K (.pure (.pa k (o+o')))
 | some (o',n),some (.pe k j s o)=>bif Nat.beq n 0 then none else K (.pure (.pe k j s (o+o')))
 | some (o',n),some (.pt l)=>bif Nat.beq n 0 then none else K (.pure (.pt (l.drop o')))
 | _,_=>none
def evR(ev:Operand->Option AV)(hk:Nat->Option Rs)(x:Operand):Option AV:=match(ev x).bind (rdA hk) with|some (a,_)=>some a|none=>none
def evG(ev:Operand->Option AV)(hk:Nat->Option Rs):List (Nat×Operand)->Fp
 | []=>[]
 | (_,x)::r=>match(ev x).bind (rdA hk) with|some (_,G)=>G++evG ev hk r|none=>evG ev hk r
def repL{α:Type}(n:Nat)(l:List α):List α:=match n with|0=>[]|n+1=>l++repL n l
def sW(τ:Ty):Nat->List AV->Option (List (El τ))
 | 0,[]=>some []
 | n+1,l=>(match Wy τ l with|some (x,r)=>(match sW τ n r with|some xs=>some (x::xs)|none=>none)|none=>none)
 | _,_=>none
def A9U(hk:Nat->Option Rs):Option AV->Bool
 | some (.nm k)=>(match hk k with|some (.row _ (.sl .u8) _)=>true|_=>false)
 | _=>false
def A8X(τ:Ty)(ev:Operand->Option AV)(hk:Nat->Option Rs):List (Nat×Operand)->Bool
 | (_,x)::[]=>(match τ with|.sl (.sl .u8)=>A9U hk (ev x)|_=>false)
 | _=>false
def V5(T:TT)(ev:Operand->Option AV)(hk:Nat->Option Rs)(m:Nat)(t:TypeId)(len:Nat)(parts:List (Nat×Operand))(K:Tr->Option R):Option R:=match SE T t with
 | some (el,i)=>bif Nat.ble (len*i.size) 16777216 then
   (match i.ty with
   | some τ=>bif A8X τ ev hk parts then(match WZ ((List.range len).map fun j=>(j*i.size,i.size)) ev (repL len i.zero) parts with
    | some cells=>K ⟨.nm m,[],[(m,.rowA el i.size len cells)],false,1⟩
    | none=>none)
    else(match WZ ((List.range len).map fun j=>(j*i.size,i.size)) (evR ev hk) (repL len i.zero) parts with
    | some cells=>(match sW τ len cells with
     | some l=>K ⟨.nm m,evG ev hk parts,[(m,.row el τ l)],false,1⟩
     | none=>none)
    | none=>none)
   | none=>(match WZ ((List.range len).map fun j=>(j*i.size,i.size)) ev (repL len i.zero) parts with
    | some cells=>K ⟨.nm m,[],[(m,.rowA el i.size len cells)],false,1⟩
    | none=>none))
  else none
 | none=>none
def zn(T:TT)(m:Nat)(t:TypeId)(l c:Option AV)(K:Tr->Option R):Option R:=match SE T t,l,c with
 | some (el,i),some (.i n),some (.i c)=>(match i.ty with
  | some τ=>(match Wy τ i.zero with
   | some (z,[])=>A2E i fun by'=>bif D9 c by' then bif ED n c then K ⟨.nm m,[],[(m,.row el τ (BU n z))],false,1⟩ else bif ED n 0 then K ⟨.nm m,[],[(m,.row el τ [])],false,1⟩ else none else none
   | _=>none)
  | none=>none)
 | _,_,_=>none
def glk(g:Nat):List (Nat×List UInt32)->Option (List UInt32)
 | []=>none
 | (d,v)::r=>bif Nat.beq g d then some v else glk g r
def A9V(T:TT)(t:TypeId)(g:Nat)(i:Int)(K:Tr->Option R):Option R:=match Me t T with
 | some ti=>(match ti.u,glk g ti.gl with
  | .arr n el,some l=>(match Me el T with
   | some e=>bif Nat.beq e.size 1 then bif EG 0 i then bif Dx i n then(Ap l i).bind fun x=>K (.pure (.pt [.u32 x])) else none else none else none
   | none=>none)
  | _,_=>none)
 | none=>none
def A9W(T:TT)(t:TypeId)(g:Nat)(i:Int)(K:Tr->Option R):Option R:=match Me t T with
 | some ti=>(match ti.u,kP g ti.ga with
  | .arr n el,some us=>(match Me el T with
   | some e=>bif EG 0 i then bif Dx i n then K (.pure (.pt ((us.drop (i.toNat*e.size)).map AV.of))) else none else none
   | none=>none)
  | _,_=>none)
 | none=>none
def A8Y(T:TT)(t:TypeId)(g:Nat):Bool:=match Me t T with|some ti=>(match kP g ti.ga with|some _=>true|none=>false)|none=>false
def unB:List Value->Option (List UInt8)
 | []=>some []
 | .int .u8 (.ofNat n)::r=>bif Nat.blt n 256 then(match unB r with|some l=>some (UInt8.ofNat n::l)|none=>none) else none
 | _=>none
def V6(T:TT)(t:TypeId)(x:Option AV)(K:Tr->Option R):Option R:=match x with
 | some (.gp g)=>(match Me t T with
  | some ti=>(match ti.u,kP g ti.ga with
   | .arr n el,some us=>(match Me el T with
    | some e=>bif Nat.beq e.size 1&&Nat.beq us.length n&&Nat.ble n 1000 then(match unB us with
     | some l=>K (.pure (.sl .u8 l))
     | none=>none) else none
    | none=>none)
   | _,_=>none)
  | none=>none)
 | _=>none
def ABH:Option AV->Bool
 | some (.gp _)=>true
 | _=>false
def Zq(T:TT)(hk:Nat->Option Rs)(t:TypeId)(x:Option AV)(j:Option Int)(K:Tr->Option R):Option R:=match x,j with
 | some (.gp g),some i=>bif A8Y T t g then A9W T t g i K else A9V T t g i K
 | some (.pa k o),some i=>(match X0 T t with
  | some (.arr n el)=>(match Me el T with|some e=>bif EG 0 i then bif Dx i n then K (.pure (.pa k (o+i.toNat*e.size))) else none else none|none=>none)
  | _=>none)
 | some a,some i=>(match SE T t with
  | some (_,ei)=>(match a with
   | .sl τ l|.st τ l=>bif Nat.beq ei.size τ.n then(Ap l i).bind fun x=>K (.pure (.pt (flat τ x))) else none
   | .nm k=>(match hk k with
    | some (.row e τ l)=>bif Nat.beq ei.size τ.n then bif D7 l i then K ⟨.pe k i τ.n 0,[(k,.row e τ l)],[(k,.row e τ l)],true,0⟩ else none else none
    | some (.rowA e sz n cells)=>bif Nat.beq ei.size sz then bif EG 0 i then bif Dx i n then K ⟨.pe k i sz 0,[(k,.rowA e sz n cells)],[(k,.rowA e sz n cells)],true,0⟩ else none else none else none
    | _=>none)
   | _=>none)
  | none=>none)
 | _,_=>none
def zo(T:TT)(t:TypeId)(x:Option AV)(j:Option Int)(K:Tr->Option R):Option R:=match x,j,X0 T t with
 | some (.str l),some i,some .str=>(Ap l i).bind fun x=>K (.pure (.u8 x))
 | some (.agg l),some i,some (.arr n el)=>(match Me el T with
  | some e=>bif scalar e.u&&Nat.beq e.size 1&&Nat.beq l.length n then bif EG 0 i then bif Dx i n then zl l[i.toNat]? (fun s=>K (.pure s)) else none else none
   else bif !scalar e.u&&Nat.beq l.length (n*e.size) then bif EG 0 i then bif Dx i n then zl (IP false e.size (l.drop (i.toNat*e.size))) (fun s=>K (.pure s)) else none else none else none
  | none=>none)
 | _,_,_=>none
def A8Z:AV->Option ((τ:Ty)×List (El τ))
 | .sl τ l|.st τ l=>some ⟨τ,l⟩
 | _=>none
def Zr(T:TT)(t:TypeId)(x:AV)(F:Fp)(lo:Int)(hi mx:Option (Option Int))(K:Tr->Option R):Option R:=match x,X0 T t with
 | .str l,some .str=>(match hi,mx with
  | none,none=>(CV l lo (Ak l)).bind fun l=>K (.pure (.str l))
  | some (some h),none=>(CV l lo h).bind fun l=>K (.pure (.str l))
  | _,_=>none)
 | x,_=>(match A8Z x,SE T t with
  | some ⟨τ,l⟩,some (_,ei)=>bif Nat.beq ei.size τ.n then(match hi,mx with
   | none,none=>(CV l lo (Ak l)).bind fun l=>K ⟨.sl τ l,F,[],F.isEmpty,0⟩
   | some (some h),none=>(CV l lo h).bind fun l=>K ⟨.sl τ l,F,[],F.isEmpty,0⟩
   | some (some h),some (some x)=>bif ED h x then(CV l lo h).bind fun l=>K ⟨.st τ l,F,[],F.isEmpty,0⟩ else none
   | _,_=>none) else none
  | _,_=>none)
def unW:List AV->Option (List UInt32)
 | []=>some []
 | .u32 x::r=>(match unW r with|some l=>some (x::l)|none=>none)
 | _=>none
def A2G:Option AV->Bool
 | some (.pa _ _)=>true
 | _=>false
def V7(T:TT)(hk:Nat->Option Rs)(t:TypeId)(x:Option AV)(K:Tr->Option R):Option R:=match x with
 | some (.pa k 0)=>(match X0 T t,hk k with
  | some (.arr n el),some (.var cells)=>(match Me el T with
   | some e=>bif Nat.beq e.size 1&&Nat.beq cells.length n&&Nat.ble n 1000 then(match unW cells with
    | some l=>K ⟨.st .u32 l,[(k,.var cells)],[],false,0⟩
    | none=>none) else none
   | none=>none)
  | _,_=>none)
 | _=>none
def A2H(d:Nat):TT->Bool
 | []=>false
 | (e,_)::[]=>Nat.beq d e
 | _::r=>A2H d r
def markT:TT->Bool
 | []=>false
 | (d,_)::r=>A2H d r
def isRow(hk:Nat->Option Rs):Option AV->Bool
 | some (.nm k)=>(match hk k with|some (.row _ _ _)=>true|_=>false)
 | _=>false
def isZ:Int->Bool
 | .ofNat 0=>true
 | _=>false
def V8(T:TT)(hk:Nat->Option Rs)(t:TypeId)(x:Option AV)(lo:Int)(hi:Option (Option Int))(K:Tr->Option R):Option R:=match x,SE T t,hi with
 | some (.nm k),some (_,ei),some (some h)=>(match hk k with
  | some (.row e τ l)=>bif Nat.beq ei.size τ.n then bif isZ lo&&isZ h then K ⟨.sl τ [],[(k,.row e τ l)],[(k,.row e τ l)],true,0⟩ else bif EG 0 lo then bif EG lo h then bif EG h (Ak l) then K ⟨.vs k τ.n lo h,[(k,.row e τ l)],[(k,.row e τ l)],true,0⟩ else none else none else none else none
  | _=>none)
 | _,_,_=>none
def Zt(T:TT)(t:TypeId)(hk:Nat->Option Rs)(x:Option AV)(K:Tr->Option R):Option R:=match X0 T t,x with
 | some (.sl _),some (.sl _ l)|some (.sl _),some (.st _ l)=>K (.pure (.i (Ak l)))
 | some (.sl _),some .nil=>K (.pure (.i 0))
 | some .str,some (.str l)=>K (.pure (.i (Ak l)))
 | some (.sl _),some (.nm k)=>(match hk k with
  | some (.row e t l)=>K ⟨.i (Ak l),[(k,.row e t l)],[(k,.row e t l)],true,0⟩
  | some (.rowA e sz n l)=>K ⟨.i n,[(k,.rowA e sz n l)],[(k,.rowA e sz n l)],true,0⟩
  | _=>none)
 | _,_=>none
def RF(k:Nat):Fp->Bool
 | []=>true
 | (d,_)::r => !Nat.beq k d&&RF k r
def We(τ:Ty)(b:AV):Option (List (El τ)):=match Wy (.sl τ) [b] with|some (l,[])=>some l|_=>none
def Zu(T:TT)(hk:Nat->Option Rs)(m:Nat)(t:TypeId)(a:Option AV)(bG:Option (AV×Fp))(K:Tr->Option R):Option R:=match SE T t,a,bG with
 | some (el,i),some a,some (b,G)=>A2E i fun by'=>(match i.ty with
  | some τ=>(match We τ b with
   | some m'=>(match a with
    | .nm k=>(match hk k with
     | some (.row e t l)=>(match We τ (.sl t l) with
      | some l'=>bif Nat.beq e el&&Nat.beq t.n τ.n&&RF k G then bif fits (BF l' m') by' then K ⟨.nm m,G++[(k,.row e t l)],(bif τ.plain then G else [])++[(m,.row el τ (BF l' m'))],false,1⟩ else none else none
      | none=>none)
     | _=>none)
    | .nil=>bif fits m' by' then K ⟨.nm m,G,(bif τ.plain then G else [])++[(m,.row el τ m')],false,1⟩ else none
    | .st t l=>(match We τ (.st t l) with
     | some l'=>bif Cc m' then K ⟨.st t l,G,[],G.isEmpty,0⟩ else bif fits (BF l' m') by' then K ⟨.nm m,G,(bif τ.plain then G else [])++[(m,.row el τ (BF l' m'))],false,1⟩ else none
     | none=>none)
    | _=>none)
   | none=>none)
  | none=>none)
 | _,_,_=>none
def A9X(hk:Nat->Option Rs):Option AV->Bool
 | some (.nm k)=>(match hk k with|some (.rowA _ _ _ _)=>true|_=>false)
 | _=>false
def V9(T:TT)(hk:Nat->Option Rs)(m:Nat)(t:TypeId)(a b:Option AV)(K:Tr->Option R):Option R:=match SE T t,a,b with
 | some (el,i),some a,some (.nm j)=>(match hk j with
  | some (.rowA ej szj nj cb)=>bif Nat.beq szj i.size then(match a with
   | .nil=>bif Nat.ble (nj*i.bytes) 140737488355328 then K ⟨.nm m,[(j,.rowA ej szj nj cb)],[(m,.rowA el i.size nj cb)],false,1⟩ else none
   | .nm k=>(match hk k with
    | some (.rowA e sz n ca)=>bif Nat.beq e el&&Nat.beq sz i.size && !Nat.beq k j&&Nat.ble ((n+nj)*i.bytes) 140737488355328 then addN n nj fun n2=>K ⟨.nm m,[(j,.rowA ej szj nj cb),(k,.rowA e sz n ca)],[(m,.rowA el i.size n2 (ca++cb))],false,1⟩ else none
    | _=>none)
   | _=>none) else none
  | _=>none)
 | _,_,_=>none
def VA(T:TT)(hk:Nat->Option Rs)(m:Nat)(t t':TypeId)(a b:Option AV)(K:Tr->Option R):Option R:=match SE T t,X0 T t',a,b with
 | some (el,i),some .str,some (.nm k),some (.str l)=>bif SG T el&&Nat.beq i.bytes 1&&Nat.beq i.size 1 then(match hk k with
  | some (.row e .u8 l0)=>bif Nat.beq e el then bif fits (BF l0 l) 1 then K ⟨.nm m,[(k,.row e .u8 l0)],[(m,.row el .u8 (BF l0 l))],false,1⟩ else none else none
  | _=>none) else none
 | _,_,_,_=>none
def zU8(l:List AV):Bool:=match l with|[.u8 x]=>Nat.beq x.toNat 0|_=>false
def VB(T:TT)(hk:Nat->Option Rs)(m:Nat)(t t':TypeId)(a b:Option AV)(K:Tr->Option R):Option R:=match SE T t,X0 T t',a,b with
 | some (el,i),some .i64,some (.nm k),some (.i n)=>bif zU8 i.zero&&Nat.beq i.bytes 1&&Nat.beq i.size 1 then(match hk k with
  | some (.row e .u8 l0)=>bif Nat.beq e el&&EG 0 n then bif fits (BF l0 (BU n (0:UInt8))) 1 then K ⟨.nm m,[(k,.row e .u8 l0)],[(m,.row el .u8 (BF l0 (BU n (0:UInt8))))],false,1⟩ else none else none
  | _=>none) else none
 | _,_,_,_=>none
def Zv(T:TT)(hk:Nat->Option Rs)(t:TypeId)(a:Option AV)(bG:Option (AV×Fp))(K:Tr->Option R):Option R:=match SE T t,a,bG with
 | some (el,i),some (.nm k),some (b,G)=>(match i.ty,hk k with
  | some τ,some (.row e t l)=>(match We τ b,We τ (.sl t l) with
   | some m',some l'=>bif Nat.beq e el&&Nat.beq i.size 1&&Nat.beq t.n τ.n&&τ.plain&&RF k G then
     K ⟨.i (min (Ak m') (Ak l')),G++[(k,.row e t l)],G++[(k,.row el τ (CO l' m'))],false,0⟩ else none
   | _,_=>none)
  | _,_=>none)
 | _,_,_=>none
def VC(T:TT)(hk:Nat->Option Rs)(t:TypeId)(a:Option AV)(bG:Option (AV×Fp))(K:Tr->Option R):Option R:=match SE T t,a,bG with
 | some (el,i),some (.vs k sz lo hi),some (b,G)=>(match i.ty,hk k with
  | some τ,some (.row e t l)=>(match We τ b,We τ (.sl t l) with
   | some m',some l'=>bif Nat.beq e el&&Nat.beq i.size 1&&Nat.beq sz 1&&τ.plain&&RF k G then
     K ⟨.un,G++[(k,.row e t l)],G++[(k,.row el τ (D8 l' lo hi m'))],false,0⟩ else none
   | _,_=>none)
  | _,_=>none)
 | _,_,_=>none
def ABL:Option AV->Bool
 | some (.vs _ _ _ _)=>true
 | _=>false
def Zw(T:TT)(hk:Nat->Option Rs)(t:TypeId)(a:Option AV)(K:Tr->Option R):Option R:=match SE T t,a with
 | some (el,i),some (.nm k)=>(match i.ty,hk k with
  | some τ,some (.row e t l)=>(match Wy τ i.zero with
   | some (z,[])=>bif Nat.beq e el&&Nat.beq i.size t.n then K ⟨.un,[(k,.row e t l)],[(k,.row el τ (BU (Ak l) z))],false,0⟩ else none
   | _=>none)
  | _,_=>none)
 | _,_=>none
def Zx(T:TT)(hk:Nat->Option Rs)(t:TypeId)(x:Option AV)(lo:Int)(K:Tr->Option R):Option R:=match x,SE T t with
 | some (.nm k),some (_,ei)=>(match hk k with
  | some (.row e τ l)=>bif Nat.beq ei.size τ.n then bif ED lo 0 then K ⟨.nm k,[(k,.row e τ l)],[(k,.row e τ l)],true,0⟩ else none else none
  | _=>none)
 | _,_=>none
def fG(ev:Operand->Option AV):List Operand->Option (List AV)
 | []=>some []
 | x::r=>match ev x,fG ev r with|some s,some l=>some (s::l)|_,_=>none
def sameRow(T:TT)(hk:Nat->Option Rs)(s d:TypeId):Option AV->Option (Nat×Nat×List UInt8)
 | some (.nm k)=>(match X0 T s with
  | some (.sl el)=>bif Nat.beq s d&&SG T el then(match hk k with
   | some (.row e .u8 (a::l))=>some (k,e,a::l)
   | _=>none) else none
  | _=>none)
 | _=>none
def zq(T:TT)(ev:Operand->Option AV)(hk:Nat->Option Rs)(m:Nat)(op:Op)(K:Tr->Option R):Option R:=match op with
 | .move x|.assign x=>zl (ev x) fun s=>K (.pure s)
 | .pick b x y=>(match ev b with
  | some (.b c)=>bif c then zl (ev x) (fun s=>K (.pure s)) else zl (ev y) (fun s=>K (.pure s))
  | _=>none)
 | .nilCheck x=>(match ev x with
  | some (.pa k o)=>K (.pure (.pa k o))
  | some (.pe k i s o)=>K (.pure (.pe k i s o))
  | some (.pt l)=>K (.pure (.pt l))
  | _=>none)
 | .extract x i=>(match ev x with
  | some (.tup l)=>zl l[i]? fun s=>K (.pure s)
  | _=>none)
 | .unOp .not _ x=>(match ev x with|some (.b a)=>K (.pure (.b (CX a)))|_=>none)
 | .unOp .neg _ x=>(match ev x with|some (.i a)=>K (.pure (.i (Cm a)))|_=>none)
 | .unOp .xor _ x=>(match ev x with|some (.u32 a)=>K (.pure (.u32 (~~~a)))|_=>none)
 | .binOp op t x y _=>(match ev x,ev y with
  | some a,some b=>Zp (match X0 T t with|some .bool=>true|_=>false) (match Me t T with|some i=>i.eq2|none=>false) (match Me t T with|some i=>i.eqn|none=>0) (match X0 T t with|some (.sl _)=>true|_=>false) op a b fun s=>K (.pure s)
  | _,_=>none)
 | .convert s d x=>(match sameRow T hk s d (ev x) with
  | some (k,e,l)=>K ⟨.sl .u8 l,[(k,.row e .u8 l)],[],false,0⟩
  | none=>(match X0 T s,X0 T d,(ev x).bind (rdA hk) with
   | some .str,some (.sl el),some (.str l,F)=>bif SG T el then bif fits l 1 then K ⟨.nm m,[],[(m,.row el .u8 l)],false,1⟩ else none else none
   | some (.sl el),some .str,some (.sl .u8 l,F)=>bif SG T el then K ⟨.str l,F,F,true,0⟩ else none
   | some (.sl el),some .str,some (.nil,F)=>bif SG T el then K (.pure (.str [])) else none
   | some _,some d,some (a,F)=>PO d a fun s=>K (.pure s)
   | _,_,_=>none))
 | .alloc t=>(match Me t T with|some i=>K ⟨.pa m 0,[],[(m,.var i.zero)],false,1⟩|none=>none)
 | .box _ x=>(match(ev x).bind cellsA with|some l=>K ⟨.pa m 0,[],[(m,.var l)],false,1⟩|none=>none)
 | .load t x=>V3 T hk t (ev x) K
 | .store t x y=>QL T hk t (ev x) ((ev y).bind cellsA) K
 | .fieldAddr t x f=>V4 T t (ev x) f K
 | .field t x f=>(match X0 T t,ev x with
  | some (.fld pl sc),some (.agg l)=>(match pl[f]?,sc[f]? with
   | some (o',n),some b=>zl (IP b n (l.drop o')) fun s=>K (.pure s)
   | _,_=>none)
  | _,_=>none)
 | .build t parts=>(match xO T t,Me t T with
  | some pl,some i=>(match WZ pl ev i.zero parts.toList with|some l=>K (.pure (.agg l))|none=>none)
  | _,_=>none)
 | .buildSlice t len parts=>V5 T ev hk m t len parts.toList K
 | .makeSlice t l c=>zn T m t (ev l) (ev c) K
 | .makeFunc (.func f) xs ys=>(match fG ev xs.toList,fG ev ys.toList with|some a,some b=>K (.pure (.fn f a b))|_,_=>none)
 | .indexAddr t x j=>Zq T hk t (ev x) ((ev j).bind Jj) K
 | .index t x j=>zo T t (ev x) ((ev j).bind Jj) K
 | .slice t x lo hi mx=>bif ABH (ev x) && !lo.isSome && !hi.isSome && !mx.isSome then V6 T t (ev x) K else bif A2G (ev x) && !lo.isSome && !hi.isSome && !mx.isSome then V7 T hk t (ev x) K else bif markT T&&hi.isSome&&isRow hk (ev x) then(match(match lo with|some o=>(ev o).bind Jj|none=>some 0),mx with|some lo,none=>V8 T hk t (ev x) lo (hi.map fun o=>(ev o).bind Jj) K|_,_=>none) else bif markT T && !hi.isSome && !mx.isSome&&isRow hk (ev x) then(match(match lo with|some o=>(ev o).bind Jj|none=>some 0) with|some lo=>Zx T hk t (ev x) lo K|none=>none) else(match(ev x).bind (rdA hk),(match lo with|some o=>(ev o).bind Jj|none=>some 0) with
  | some (a,F),some lo=>Zr T t a F lo (hi.map fun o=>(ev o).bind Jj) (mx.map fun o=>(ev o).bind Jj) K
  | _,_=>none)
 | .call {callee:=.builtin b,args:=xs,argTypes:=ts}=>(match b,xs.toList,ts.toList with
  | .len,[x],[t]=>Zt T t hk (ev x) K
  | .min,[x,y],_=>(match ev x,ev y with|some (.i a),some (.i b)=>K (.pure (.i (min a b)))|_,_=>none)
  | .max,[x,y],_=>(match ev x,ev y with|some (.i a),some (.i b)=>K (.pure (.i (max a b)))|_,_=>none)
  | .append,[x,y],[t,t']=>bif Nat.beq t t' then bif A9X hk (ev y) then V9 T hk m t (ev x) (ev y) K else Zu T hk m t (ev x) ((ev y).bind (rdA hk)) K else(match X0 T t' with|some .i64=>VB T hk m t t' (ev x) (ev y) K|_=>VA T hk m t t' (ev x) (ev y) K)
  | .copy,[x,y],[t,t']=>bif Nat.beq t t' then(bif ABL (ev x) then VC T hk t (ev x) ((ev y).bind (rdA hk)) K else Zv T hk t (ev x) ((ev y).bind (rdA hk)) K) else none
  | .clear,[x],[t]=>Zw T hk t (ev x) K
  | _,_,_=>none)
 | _=>none
end
end Go.Ax
namespace Go.Ax
noncomputable section
open Go Go.RowKit Go.Eng
structure Plc where
 need:Option (List Nat):=none      -- the slots that must hold rows of their own from there on; all others hold readings
 nils:List (Nat×Nat×Ty):=[]    -- slots whose nil becomes an empty row of their own
 keep:Option (List Nat):=none      -- the slots that live; names are put in order
 meet:Bool:=false                  -- several ways meet here
structure FI where
 ps:List (Option Ty)          -- its parameters, where they are plain data
 rs:List (Option Ty)          -- its results
 own:Bool                     -- the result is handed out as a row of its own
 pown:Bool                    -- rows are handed in as such
 keep:List (Plc×Plc)   -- for each loop: what is done at its head, and behind it
 give:List (Nat×Plc):=[]   -- what is done at the head of some regions
 fin:Plc:={}   -- what is done at the end
 ro:Bool:=false   -- what it is handed it leaves as it was
abbrev FT:=List (Nat×FI)
def Wh(k:Nat):FT->Option FI
 | []=>none
 | (d,v)::H=>bif Nat.beq k d then some v else Wh k H
inductive Req where
 | call (f:Nat) (args:List AV) (H:List Rs)
 | loop (f k n0 m:Nat) (L:LX) (H:HX)
inductive Rsp where
 | ret (s:AV) (H:List (Option Rs))
 | fin (e:Exit) (m:Nat) (L:LX) (H:HX)
def A2I(t:Option Ty)(a:AV):AV:=match t with
 | none=>a
 | some τ=>(match a with
  | .agg l=>(match Wy τ l with|some (x,[])=>.agg (flat τ x)|_=>a)
  | a=>(match Wy τ [a] with|some (x,[])=>(match flat τ x with|[b]=>b|_=>a)|_=>a))
def Vs:List (Option Ty)->List AV->List AV
 | t::ts,a::as=>A2I t a::Vs ts as
 | _,as=>as
mutual
def names:AV->List Nat
 | .nm k|.pa k _|.pe k _ _ _|.vs k _ _ _=>[k]
 | .pt l|.agg l|.tup l=>G7 l
 | .fn _ a b=>G7 a++G7 b
 | _=>[]
def G7:List AV->List Nat
 | []=>[]
 | s::r=>names s++G7 r
end
def OV(k:Nat):List Nat->Bool|[]=>false|a::r=>Nat.beq k a||OV k r
def nub:List Nat->List Nat->List Nat
 | acc,[]=>acc
 | acc,k::r=>bif OV k acc then nub acc r else nub (acc++[k]) r
def idx(k:Nat):List Nat->Nat
 | []=>0
 | a::r=>bif Nat.beq k a then 0 else idx k r+1
def close(hk:Nat->Option Rs):Nat->List Nat->List Nat->List Nat
 | 0,acc,_|_,acc,[]=>acc
 | n+1,acc,k::r=>bif OV k acc then close hk n acc r else match hk k with
  | some R=>close hk n (acc++[k]) (r++(match R with|.var l=>G7 l|.rowA _ _ _ l=>G7 l|.row _ _ _=>[]))
  | none=>close hk n (acc++[k]) r
mutual
def vw(hk:Nat->Option Rs):AV->AV
 | .nm k=>(match hk k with|some (.row _ t l)=>.sl t l|_=>.nm k)
 | .vs k sz lo hi=>(match hk k with|some (.row _ t l)=>(bif Nat.beq t.n sz then .sl t ((l.drop lo.toNat).take (hi.toNat-lo.toNat)) else .vs k sz lo hi)|_=>.vs k sz lo hi)
 | .pt l=>.pt l
 | .agg l=>.agg (kQ hk l)
 | .tup l=>.tup (kQ hk l)
 | .fn f a b=>.fn f (kQ hk a) (kQ hk b)
 | s=>s
def kQ(hk:Nat->Option Rs):List AV->List AV
 | []=>[]
 | s::r=>vw hk s::kQ hk r
end
def rowsOf(hk:Nat->Option Rs):List Nat->Fp
 | []=>[]
 | k::r=>match hk k with|some (.row e t l)=>(k,.row e t l)::rowsOf hk r|_=>rowsOf hk r
def kR(hk:Nat->Option Rs):List Nat->Option (List Rs)
 | []=>some []
 | k::r=>match hk k,kR hk r with|some R,some l=>some (R::l)|_,_=>none
def zipF:List Nat->List Rs->Fp
 | k::r,R::l=>(k,R)::zipF r l
 | _,_=>[]
def Gu(ρ:Nat->Nat):Nat->List (Option Rs)->Fp
 | _,[]=>[]
 | i,some R::l=>(ρ i,IG ρ R)::Gu ρ (i+1) l
 | i,none::l=>Gu ρ (i+1) l
def nth(l:List Nat)(i:Nat):Nat:=l.getD i 0
variable {R:Type}
def X3:List Rs->(List Rs->R)->R
 | [],K=>K []
 | s::r,K=>Uy s fun s=>X3 r fun r=>K (s::r)
def nodupB:List Nat->Bool
 | []=>true
 | k::r => !OV k r&&nodupB r
def allIn(ks:List Nat):List Nat->Bool
 | []=>true
 | k::r=>OV k ks&&allIn ks r
def NQ:Rs->List Nat
 | .var l|.rowA _ _ _ l=>G7 l
 | .row _ _ _=>[]
def VD(ks:List Nat):List Rs->Bool
 | []=>true
 | R::r=>allIn ks (NQ R)&&VD ks r
def djB(ks:List Nat):Fp->Bool
 | []=>true
 | (k,_)::r => !OV k ks&&djB ks r
def PP:Nat->List (Option Rs)->Bool
 | _,[]=>true
 | 0,none::_=>false
 | 0,some _::r=>PP 0 r
 | n+1,_::r=>PP n r
def fH(m:Nat):List (Option Rs)->Bool
 | []=>true
 | none::r=>fH m r
 | some R::r=>rlt m R&&fH m r
def EX(ks:List Nat)(m i:Nat):Nat:=bif Nat.blt i ks.length then nth ks i else m+(i-ks.length)
def fJ(F F':Fp):Bool:=@decide (F=F') (Classical.propDecidable _)
def Ah:Fp->Fp->Bool:=AC fJ
theorem Kv{F F':Fp}(h:F=F'):Ah F F'=true:=by simp_all[Ah,fJ,BV]
theorem zt{F F':Fp}(h:Ah F F'=true):F=F':=by simp_all[Ah,fJ,BV]
def Tc(ro:Bool)(Q:Req->Option Rsp)(hk:Nat->Option Rs)(m f:Nat)(vs:Fp)(all':List AV)(ks:List Nat)(K:Tr->Option R):Option R:=match kR hk ks with
 | some Rs=>bif nodupB ks&&allIn ks (G7 all')&&VD ks Rs&&djB ks vs then
  Ie (IE (fun k=>idx k ks) all') fun args=>X3 (Rs.map (IG fun k=>idx k ks)) fun Hin =>
   (Q (.call f args Hin)).bind fun r=>(match r with
    | .ret s H=>bif Nat.ble ks.length H.length&&PP ks.length H&&PL H.length s&&fH H.length H then
      (bif ro then bif Ah (vs++zipF ks Rs) (Gu (EX ks m) 0 H) then K ⟨ren (EX ks m) s,vs++zipF ks Rs,vs++zipF ks Rs,true,H.length-ks.length⟩ else none
      else bif noRd (ren (EX ks m) s)&&NF (Gu (EX ks m) 0 H) then K ⟨ren (EX ks m) s,vs++zipF ks Rs,vs++Gu (EX ks m) 0 H,false,H.length-ks.length⟩
      else K ⟨ren (EX ks m) s,vs++zipF ks Rs,Gu (EX ks m) 0 H,false,H.length-ks.length⟩)
     else none
    | _=>none)
  else none
 | none=>none
def Td(ro:Bool)(Q:Req->Option Rsp)(hk:Nat->Option Rs)(m f:Nat)(vs:Fp)(all':List AV)(K:Tr->Option R):Option R :=
 Iw (close hk 40 [] (G7 all')) fun ks=>Tc ro Q hk m f vs all' ks K
def VE(T:FT)(Q:Req->Option Rsp)(hk:Nat->Option Rs)(m:Nat)(fx:Option AV)(args:Option (List AV))(K:Tr->Option R):Option R:=match fx,args with
 | some (.fn f a b),some l=>(match Wh f T with
  | some fi=>bif fi.pown then Ie (Vs fi.ps (a++l++b)) fun all=>Td fi.ro Q hk m f [] all K
   else Ie (Vs fi.ps (kQ hk (a++l++b))) fun all=>Td fi.ro Q hk m f (rowsOf hk (nub [] (G7 (a++l++b)))) all K
  | none=>none)
 | _,_=>none
def IQ(T:TT)(G:FT)(Q:Req->Option Rsp)(ev:Operand->Option AV)(hk:Nat->Option Rs)(m:Nat)(op:Op)(K:Tr->Option R):Option R:=match op with
 | .call {callee:=.value fx,args:=xs,..}=>VE G Q hk m (ev fx) (fG ev xs.toList) K
 | op=>zq T ev hk m op K
def A2J:Fp->HX->(HX->R)->R
 | [],H,K=>K H
 | (k,r)::F,H,K=>Uy r fun r=>A2J F H fun H=>K ((k,some r)::H)
def A2K:Fp->HX->(HX->R)->R
 | [],H,K=>K H
 | (k,r)::F,H,K=>A2K F H fun H=>K ((k,none)::H)
def Wi(d:Option Nat)(s:AV)(L:LX):LX:=match d with|some d=>(d,s)::L|none=>L
def Ig(d:Option Nat)(t:Tr)(m:Nat)(L:LX)(H:HX)(K:Nat->LX->HX->R):R:=match t with
 | ⟨s,F,F',rd,nn⟩=>force s fun s=>addN m nn fun m=>match d with
  | some d=>bif rd then K m ((d,s)::L) H else A2K F H fun H=>A2J F' H fun H=>K m ((d,s)::L) H
  | none=>bif rd then K m L H else A2K F H fun H=>A2J F' H fun H=>K m L H
def Xg(n:Nat)(d:Option Nat):Bool:=match d with|some d=>Nat.blt d n|none=>true
def J9(T:TT)(G:FT)(Q:Req->Option Rsp)(n:Nat)(ops:List Oper):List Oper->Nat->LX->HX->(Nat->LX->HX->Option R)->Option R
 | [],m,L,H,K=>K m L H
 | o::r,m,L,H,K=>match o.guard with
  | none=>bif Xg n o.dst then IQ T G Q (FZ L) (fun k=>hlk k H) m o.op fun t=>Ig o.dst t m L H fun m L H=>J9 T G Q n ops r m L H K else none
  | some (j,want)=>(match(ops[j]?).bind (·.dst) with
   | some d'=>(match JG d' L with
    | some (.b c)=>bif Xg n o.dst&&Nat.blt d' n then
      (bif c then
       bif want then IQ T G Q (FZ ((d',.b true)::L)) (fun k=>hlk k H) m o.op fun t=>Ig o.dst t m ((d',.b true)::L) H fun m L H=>J9 T G Q n ops r m L H K
       else J9 T G Q n ops r m (match o.dst with|some d=>(d,.tup [])::(d',.b true)::L|none=>(d',.b true)::L) H K
      else
       bif want then J9 T G Q n ops r m (match o.dst with|some d=>(d,.tup [])::(d',.b false)::L|none=>(d',.b false)::L) H K
       else IQ T G Q (FZ ((d',.b false)::L)) (fun k=>hlk k H) m o.op fun t=>Ig o.dst t m ((d',.b false)::L) H fun m L H=>J9 T G Q n ops r m L H K)
     else none
    | some (.tup [])=>bif Xg n o.dst&&Nat.blt d' n then J9 T G Q n ops r m (Wi o.dst (.tup []) L) H K else none
    | _=>none)
   | none=>none)
def kS(lk:List Nat):LX->LX
 | []=>[]
 | (t,s)::L=>bif OV t lk then(t,s)::kS lk L else kS lk L
end
end Go.Ax
namespace Go.Ax
open Go Go.RowKit Go.Eng
variable {op:Op}{s:AV}
theorem Ok.pure{c:Cx}{v:Value}{w':World}(hr:Rep ⟨c.N,c.ν,c.O,w'⟩ s v)(hs:Stp No c.w w'):∃ ν',Ok c [] [] s v w' ν' :=
 have hle:Cx.Le none ⟨c.N,c.ν,c.O,w'⟩ ⟨fun k=>c.N k\/has k [],c.ν,fun b=>(c.O b/\¬ER c.ν [] b)\/ER c.ν [] b,w'⟩ :=
  ⟨fun k _ h=>⟨.inl h,rfl⟩,fun w'' h=>h.mono fun i _ hi=>by
   rcases hi with h|⟨k,R,h,_⟩
   ·exact h.1
   ·cases h⟩
 ⟨c.ν,⟨fun _ _=>rfl,Rep.le hle s v (GU s) hr,(fun k R h=>by cases h),(fun k k' R R' b h=>by cases h),hs.mono fun i _ h=>h.elim⟩⟩
section
variable {P:Program}{I:World->Prop}{L:LX}{ty:TypeId}
theorem GV{F F':Fp} (h:∀ c e,Good I c->Uw c L e->Pre c F F'->∃ v w' ν',(execOp e ⟨none,op,ty, "", #[],none⟩).run P c.w=.ok (.value v) w'/\Ok c F F' s v w' ν'):OPL P I L F op ty s F':=by
 intro c e hG he hP
 grind[ja]
theorem kT{F F':Fp} (h:∀ c e,Good I c->Uw c L e->Pre c F F'->∃ w' ν',(execOp e ⟨none,op,ty, "", #[],none⟩).run P c.w=.ok .skip w'/\Ok c F F' s undef w' ν'):OPL P I L F op ty s F':=by
 intro c e hG he hP
 grind[ja]
theorem DN (h:∀ c e,Good I c->Uw c L e->∃ v,(execOp e ⟨none,op,ty, "", #[],none⟩).run P c.w=.ok (.value v) c.w/\Rep c s v):OPL P I L [] op ty s [] :=
 GV fun c e hG he _=>by
  obtain⟨v,h1,h2⟩:=h c e hG he
  obtain⟨ν',ok⟩:=Ok.pure (c:=c) (w':=c.w) h2 (Stp.refl _ _)
  grind
end
structure TrOK (P:Program) (I:World->Prop) (L:LX) (hk:Nat->Option Rs) (m:Nat) (op:Op) (t:Tr):Prop where
 opl:∀ ty,OPL P I L t.F op ty t.s t.F'
 pre:∀ k R,Ez k t.F=some R->hk k=some R
 new:∀ k,has k t.F'->has k t.F\/(m<=k/\k<m+t.nn)
 rd:t.rd=true->t.F'=t.F
theorem Hf(k:Nat):¬has k []:=by simp[has]
theorem TrOK.mk0{P:Program}{I:World->Prop}{L:LX}{hk:Nat->Option Rs}{m:Nat}{op:Op}{s:AV}(h:∀ ty,OPL P I L [] op ty s []):TrOK P I L hk m op (.pure s) :=
 ⟨h,(fun k R h=>by cases h),fun k h=>absurd h (Hf k),fun _=>rfl⟩
theorem A6I{P:Program}{ty:TypeId}{w:World}{op:BinOp}{t yt:TypeId}{x y:Operand}{e:Operand->Value}{u v r:Value}(hx:e x=u)(hy:e y=v)(hg:(eqGuard op t x y u v).run P w=.ok () w)(hb:(binOp op t u v).run P w=.ok r w):
  (execOp e ⟨none,.binOp op t x y yt,ty, "", #[],none⟩).run P w=.ok (.value r) w:=by
 simp_all[execOp]
theorem Zy{P:Program}{w:World}(op:BinOp)(t:TypeId)(x y:Operand)(k k':IntKind)(a b:Int):(eqGuard op t x y (.int k a) (.int k' b)).run P w=.ok () w:=by
 simp_all[eqGuard]
theorem Xh{P:Program}{w:World}(op:BinOp)(t:TypeId)(x y:Operand)(a b:Bool):(eqGuard op t x y (.bool a) (.bool b)).run P w=.ok () w:=by
 simp_all[eqGuard]
theorem Zz{P:Program}{w:World}(op:BinOp)(t:TypeId)(x y:Operand)(a b:ByteArray):(eqGuard op t x y (.string a) (.string b)).run P w=.ok () w:=by
 simp_all[eqGuard]
structure E2 (P:Program) (t e':TypeId):Prop where
 ht:P.underlying t=some (.array 2 e')
 he:P.underlying e'=some (.int .i64)
 sz:(P.info? e').map (·.size)=some 1
 hc:P.cellsOf e'=1
 hg:P.eqGuardType P.depth t=false
theorem E2.run{P:Program}{t e':TypeId}(E:E2 P t e')(w:World)(a b c d:Int):(Op.equal t (.agg #[.int .i64 a,.int .i64 b]) (.agg #[.int .i64 c,.int .i64 d])).run P w=.ok (a==c&&b==d) w/\∀ op x y,(eqGuard op t x y (.agg #[.int .i64 a,.int .i64 b]) (.agg #[.int .i64 c,.int .i64 d])).run P w=.ok () w:=by
 obtain⟨ht,he',hsz,hc,hg⟩:=E
 obtain⟨i,hi,hs⟩:=Option.map_eq_some_iff.1 hsz
 refine⟨?_,fun op x y=>run_eqGuard_agg (P:=P) w op t x y #[.int .i64 a,.int .i64 b] #[.int .i64 c,.int .i64 d] hg⟩
 have hpart:∀(w:World) (xs:Array Value) (j:Nat) (v:Value),xs[j]?=some v->(part e' xs j).run P w=.ok v w:=fun w xs j v hj=>by
  simp_all[isAgg,run_underlying,part]
 show(Op.equalIn 10000 t (.agg #[.int .i64 a,.int .i64 b]) (.agg #[.int .i64 c,.int .i64 d])).run P w=.ok (a==c&&b==d) w
 rw[run_equalIn_array (P:=P) w 9999 _ _ ht hi]
 rw[hc,show List.range 2=[0,1] from rfl]
 have p0:(part e' #[.int .i64 a,.int .i64 b] 0).run P w=.ok (.int .i64 a) w:=hpart w _ 0 _ rfl
 have p1:(part e' #[.int .i64 a,.int .i64 b] 1).run P w=.ok (.int .i64 b) w:=hpart w _ 1 _ rfl
 have r0:(part e' #[.int .i64 c,.int .i64 d] 0).run P w=.ok (.int .i64 c) w:=hpart w _ 0 _ rfl
 have r1:(part e' #[.int .i64 c,.int .i64 d] 1).run P w=.ok (.int .i64 d) w:=hpart w _ 1 _ rfl
 have e0:(Op.equalIn 9999 e' (.int .i64 a) (.int .i64 c)).run P w=.ok (a==c) w:=run_equalIn_int (P:=P) w 9998 e' .i64 .i64 a c he'
 have e1:(Op.equalIn 9999 e' (.int .i64 b) (.int .i64 d)).run P w=.ok (b==d) w:=run_equalIn_int (P:=P) w 9998 e' .i64 .i64 b d he'
 simp only[Op.eqItems,Sem.run_bind,Nat.zero_mul,Nat.one_mul,p0,r0,e0,Result.andThen_ok]
 cases h1:a==c<;>cases h2:b==d<;>simp[p1,r1,e1,h2]
structure E6 (P:Program) (t:TypeId) (n:Nat):Prop where
 ht:P.underlying t=some (.struct (P.fieldsOf t))
 hp:P.stoodInHeld t=false
 hf:∀ f∈(P.fieldsOf t).toList,f.name ≠ "_" /\ P.underlying f.type=some (.int .i64)
 ho:(P.fieldsOf t).toList.map (·.offset)=List.range' 0 n
 hg:P.eqGuardType P.depth t=false
theorem kU{P:Program}{w:World}{d:Nat}{xs ys:Array Value}:∀(fs:List Field) (as bs:List Int) (k:Nat),(∀ f∈fs,f.name ≠ "_" /\ P.underlying f.type=some (.int .i64))->fs.map (·.offset)=List.range' k as.length->as.length=bs.length ->
  (∀ j a,as[j]?=some a->xs[k+j]?=some (.int .i64 a))->(∀ j a,bs[j]?=some a->ys[k+j]?=some (.int .i64 a))->(Op.eqFields (d+1) xs ys fs).run P w=.ok (decide (as=bs)) w
 | [],as,bs,k,_,ho,hl,_,_=>by
  simp_all[Op.eqFields]
 | f::fs,as,bs,k,hf,ho,hl,hx,hy=>by
  cases as with
  | nil=>simp at ho
  | cons a as =>
   cases bs with
   | nil=>simp at hl
   | cons b bs =>
    simp only[List.map_cons,List.length_cons,List.range'_succ,List.cons.injEq] at ho
    obtain⟨h1,h2⟩:=hf f zat
    have hagg:(isAgg f.type).run P w=.ok false w:=by simp[isAgg,run_underlying h2]
    have px:(part f.type xs f.offset).run P w=.ok (.int .i64 a) w:=by
     have:=hx 0 a rfl
     simp_all[part]
    have py:(part f.type ys f.offset).run P w=.ok (.int .i64 b) w:=by
     have:=hy 0 b rfl
     simp_all[part]
    have he:=run_equalIn_int (P:=P) w d f.type .i64 .i64 a b h2
    have ih:=kU (w:=w) (d:=d) fs as bs (k+1) (fun g hg=>hf g (by simp[hg])) ho.2 zaU
     (fun j c hj=>by have:=hx (j+1) c zaU;rwa [show k+(j+1)=k+1+j from by omega] at this)
     (fun j c hj=>by have:=hy (j+1) c zaU;rwa [show k+(j+1)=k+1+j from by omega] at this)
    simp only[Op.eqFields,ne_eq,h1,not_false_eq_true,if_true,Sem.run_bind,px,py,he,Result.andThen_ok,Sem.run_ite]
    cases hab:a==b with
    | false =>
     simp_all
    | true =>
     simp_all
theorem E6.run{P:Program}{t:TypeId}{n:Nat}(E:E6 P t n)(w:World)(as bs:List Int)(h1:as.length=n)(h2:bs.length=n):
  (Op.equal t (.agg (as.map (Value.int .i64)).toArray) (.agg (bs.map (Value.int .i64)).toArray)).run P w=.ok (decide (as=bs)) w/\∀ op x y,(eqGuard op t x y (.agg (as.map (Value.int .i64)).toArray) (.agg (bs.map (Value.int .i64)).toArray)).run P w=.ok () w:=by
 obtain⟨ht,hp,hf,ho,hg⟩:=E
 refine⟨?_,fun op x y=>run_eqGuard_agg (P:=P) w op t x y _ _ hg⟩
 show(Op.equalIn 10000 t _ _).run P w=_
 grind[run_equalIn_struct,kU]
def Xi(P:Program)(t:TypeId):Option (List (Nat×Nat)):=match P.underlying t with
 | some (.struct fs)=>fs.toList.mapM fun f=>(P.info? f.type).map fun i=>(f.offset,i.size)
 | _=>none
def zu(P:Program)(t:TypeId):Option (List Bool):=match P.underlying t with
 | some (.struct fs)=>fs.toList.mapM fun f=>(P.underlying f.type).map OL
 | _=>none
structure TOK (P:Program) (t:TypeId) (i:TI):Prop where
 und:match i.u with
  | .bool=>P.underlying t=some .bool
  | .i64=>P.underlying t=some (.int .i64)
  | .u8=>P.underlying t=some (.int .u8)
  | .u32=>P.underlying t=some (.int .u32)
  | .u64=>P.underlying t=some (.int .u64)
  | .str=>P.underlying t=some .string
  | .sl el=>P.underlying t=some (.slice el)
  | .fld pl sc=>Xi P t=some pl/\zu P t=some sc
  | .arr n el=>P.underlying t=some (.array n el)
  | .ptr el=>P.underlying t=some (.pointer el)
  | .oth=>∃ d,P.underlying t=some d/\OL d=true
 sz:(P.info? t).map (·.size)=some i.size
 zero:∃ z,(P.info? t).map (fun i=>(i.zero,i.size,i.bytes))=some (some z,i.size,i.bytes)/\z.cells.toList.map AV.of=i.zero/\z.cells.size=i.size/\z.cells.toList.all (·.oneCell')=true/\0<i.bytes
 ty:∀ τ,i.ty=some τ->τ.n=i.size
 eq2:i.eq2=true->∃ e',E2 P t e'
 eqn:0<i.eqn->E6 P t i.eqn
theorem TOK.plain{P:Program}{t:TypeId}{i:TI}(h:TOK P t i):∃ d,P.underlying t=some d/\OL d=scalar i.u:=by
 have:=h.und
 split at this<;>rename_i e<;>rw[e]
 ·exact⟨_,this,rfl⟩
 ·exact⟨_,this,rfl⟩
 ·exact⟨_,this,rfl⟩
 ·exact⟨_,this,rfl⟩
 ·exact⟨_,this,rfl⟩
 ·exact⟨_,this,rfl⟩
 ·exact⟨_,this,rfl⟩
 ·have h1:=this.1
  unfold Xi at h1
  split at h1
  ·rename_i fs hfs;exact⟨_,hfs,rfl⟩
  ·cases h1
 ·exact⟨_,this,rfl⟩
 ·exact⟨_,this,rfl⟩
 ·obtain⟨d,h1,h2⟩:=this;exact⟨d,h1,h2⟩
structure TTok (P:Program) (I:World->Prop) (T:TT):Prop where
 tok:∀ t i,Me t T=some i->TOK P t i
 gl:∀ t i g l,Me t T=some i->glk g i.gl=some l->∀ w,I w->∀ j x,l[j]?=some x->w.cell? ⟨g,j,none⟩=some (wordV x)
 ga:∀ t i g us,Me t T=some i->kP g i.ga=some us->(∀ u∈us,u.oneCell'=true)/\∀ w,I w->∀ j u,us[j]?=some u->w.cell? ⟨g,j,none⟩=some u
instance {P:Program}{I:World->Prop}{T:TT}:CoeFun (TTok P I T) fun _=>∀ t i,Me t T=some i->TOK P t i:=⟨TTok.tok⟩
end Go.Ax
namespace Go.Ax
open Go Go.RowKit Go.Eng
variable (c:Cx)
variable {P:Program}{w:World}{R:Type}
theorem shift_shr'(k:IntKind)(a:Int)(yk:IntKind)(c:Int)(hc:0<=c):(Op.shift .shr k a yk c).run P w=.ok (.int k (a/2^(min c.toNat k.bits))) w:=by
 unfold Op.shift
 rw[if_neg zaa]
 grind[Sem.run_pure]
theorem shift_shl'(k:IntKind)(a:Int)(yk:IntKind)(c:Int)(hc:0<=c):(Op.shift .shl k a yk c).run P w=.ok (.int k (k.wrap (a*2^(min c.toNat k.bits)))) w:=by
 simp_all[Op.shift,if_neg]
theorem Xj{y:AV}{K:Nat->Option R}{r:R}(h:OU y K=some r):∃ q,K q=some r/\∀(c:Cx) (v:Value),Rep c y v->∃ k n,v=.int k (n:Int)/\0<=n/\n.toNat=q:=by
 unfold OU at h
 simp only[Nk] at h
 split at h
 ·rename_i n
  cases hb:ilt0 n 0 with
  | true=>simp_all
  | false=>rw[hb] at h;exact⟨_,h,fun c v hy=>⟨_,n,by simp only[Rep] at hy;exact hy,by simp_all[ilt0],rfl⟩⟩
 ·rename_i n;exact⟨_,h,fun c v hy=>⟨.u8,n.toNat,by simp only[Rep] at hy;exact hy,by omega,by simp⟩⟩
 ·rename_i n;exact⟨_,h,fun c v hy=>⟨.u32,n.toNat,by simp only[Rep] at hy;exact hy,by omega,by simp⟩⟩
 ·rename_i n;exact⟨_,h,fun c v hy=>⟨.u64,n.toNat,by simp only[Rep] at hy;exact hy,by omega,by simp⟩⟩
 ·cases h
theorem fK(a n m:Nat)(h:a<m):a/2^n<m:=Nat.lt_of_le_of_lt (Nat.div_le_self _ _) h
def Nl(P:Program)(op:BinOp)(t:TypeId)(x y s:AV):Prop:=∀(c:Cx) (u v:Value) (w:World),Rep c x u->Rep c y v->(∀(ox oy:Operand),(eqGuard op t ox oy u v).run P w=.ok () w)/\∃ v',(binOp op t u v).run P w=.ok v' w/\Rep c s v'
theorem Nl.int{op:BinOp}{t:TypeId}{x y s:AV}{k k':IntKind}{a b:Int}{v':Value}(hx:∀ c u,Rep c x u->u=.int k a)(hy:∀ c u,Rep c y u->u=.int k' b)(h:∀ w,(binOp op t (.int k a) (.int k' b)).run P w=.ok v' w)(hs:∀ c,Rep c s v'):Nl P op t x y s:=by
 intro c u v w h1 h2
 obtain rfl:=hx c u h1
 obtain rfl:=hy c v h2
 simp_all[Zy]
theorem xP(a:Int)(u:Value)(h:Rep c (.i a) u):u=.int .i64 a:=by simp_all[Rep]
theorem PQ(a:UInt8)(u:Value)(h:Rep c (.u8 a) u):u=.int .u8 (a.toNat:Int):=by simp only[Rep] at h;exact h
theorem QM(a:UInt32)(u:Value)(h:Rep c (.u32 a) u):u=.int .u32 (a.toNat:Int):=by simp only[Rep] at h;exact h
theorem QN(a:UInt64)(u:Value)(h:Rep c (.u64 a) u):u=.int .u64 (a.toNat:Int):=by simp only[Rep] at h;exact h
theorem zx{op:BinOp}{a b:UInt8}{K:AV->Option R}{r:R}(h:Uz op a b K=some r):op=.rem/\b.toNat≠0/\K (.u8 (BL a b))=some r:=by
 unfold Uz at h
 split at h
 ·cases hb:Nat.beq b.toNat 0 with
  | true=>simp_all
  | false=>rw[hb] at h;exact⟨rfl,(fun e=>by simp_all),h⟩
 ·cases h
theorem A2L{P:Program}{w:World}(t:TypeId)(a b:UInt8)(hb:b.toNat≠0):(binOp .rem t (.int .u8 (a.toNat:Int)) (.int .u8 (b.toNat:Int))).run P w=.ok (byteV (UInt8.ofNat (a.toNat%b.toNat))) w:=by
 have hb0:¬(b.toNat:Int)=0:=zaa
 have hm:(UInt8.ofNat (a.toNat%b.toNat)).toNat=a.toNat%b.toNat:=by
  rw[UInt8.toNat_ofNat',Nat.mod_eq_of_lt (Nat.lt_of_le_of_lt (Nat.mod_le _ _) (UInt8.toNat_lt _))]
 have ht:Int.tmod (a.toNat:Int) (b.toNat:Int)=((a.toNat%b.toNat:Nat):Int):=by
  grind
 simp[binOp,Op.intDiv,hb,byteV,hm,ht]
theorem Np{P:Program}{w:World}(op:BinOp)(t:TypeId)(x y:Operand)(a b:Option Addr)(n c n' c':Nat):(eqGuard op t x y (.slice a n c) (.slice b n' c')).run P w=.ok () w:=by
 simp_all[eqGuard]
theorem MI:∀ {l:List AV} {as:List Int} {c:Cx} {us:List Value},intsOf l=some as->Af c l us->us=as.map (Value.int .i64)
 | [],as,c,us,h,hr=>by simp_all[intsOf,Af]
 | .i a::r,as,c,us,h,hr=>by
  simp only[intsOf] at h
  split at h
  ·rename_i l hl
   obtain rfl:=Option.some.inj h
   simp only[Af,Rep] at hr
   obtain⟨u,t,rfl,rfl,h3⟩:=hr
   rw[MI hl h3];rfl
  ·cases h
 | .un::_,_,_,_,h,_|.b _::_,_,_,_,h,_|.u8 _::_,_,_,_,h,_|.u32 _::_,_,_,_,h,_|.u64 _::_,_,_,_,h,_|.str _::_,_,_,_,h,_|.sl _ _::_,_,_,_,h,_|.st _ _::_,_,_,_,h,_|.sn _ _::_,_,_,_,h,_|.nil::_,_,_,_,h,_|.nm _::_,_,_,_,h,_|.pa _ _::_,_,_,_,h,_|.pe _ _ _ _::_,_,_,_,h,_|.vs _ _ _ _::_,_,_,_,h,_|.pt _::_,_,_,_,h,_|.agg _::_,_,_,_,h,_|.tup _::_,_,_,_,h,_|.fn _ _ _::_,_,_,_,h,_=>by simp only[intsOf] at h;cases h
theorem A2M{bt e2:Bool}{en:Nat}{bs:Bool}{op:BinOp}{x y:AV}{K:AV->Option R}{r:R}(h:Zp bt e2 en bs op x y K=some r){t:TypeId}(hbt:bt=true->P.underlying t=some .bool)(he2:e2=true->∃ e',E2 P t e')(hen:0<en->E6 P t en)(hbs:bs=true->∃ e,P.underlying t=some (.slice e)):
  ∃ s,K s=some r/\Nl P op t x y s:=by
 have shf:∀ {op:BinOp} {x y s:AV} {k:IntKind} {a:Int} {q:Nat} {z:Int},(∀(c:Cx) (v:Value),Rep c y v->∃ k n,v=.int k (n:Int)/\0<=n/\n.toNat=q)->(∀ c u,Rep c x u->u=.int k a)->(∀ w k' n,0<=n->n.toNat=q->(binOp op t (.int k a) (.int k' n)).run P w=.ok (.int k z) w)->(∀ c,Rep c s (.int k z))->Nl P op t x y s:=by
  intro op x y s k a q z hy hx hrun hs c u v w h1 h2
  obtain rfl:=hx c u h1
  obtain⟨k',n,rfl,hn,hq⟩:=hy c v h2
  simp_all[Zy]
 unfold Zp at h
 try simp only[xM,xN] at h
 split at h
 ·obtain⟨q,h',hy⟩:=Xj h
  clear h
  split at h'
  ·rename_i a
   exact⟨_,h',shf (s:=.i (ishl0 a q)) hy (fun c u=>xP c _ u) (fun w k' n hn hq=>by rw[show binOp .shl t _ (.int k' n)=Op.shift .shl _ _ k' n from rfl,shift_shl' _ _ _ _ hn,hq]) fun c'=>by simp only[Rep,ishl0,IntKind.bits]⟩
  ·rename_i a
   exact⟨_,h',shf (s:=.u8 (u8shl0 a q)) hy (fun c u=>PQ c _ u) (fun w k' n hn hq=>by rw[show binOp .shl t _ (.int k' n)=Op.shift .shl _ _ k' n from rfl,shift_shl' _ _ _ _ hn,hq]) fun c'=>by grind[Rep,u8shl0,byteV,IntKind.bits,Vm]⟩
  ·rename_i a
   exact⟨_,h',shf (s:=.u64 (u64shl0 a q)) hy (fun c u=>QN c _ u) (fun w k' n hn hq=>by rw[show binOp .shl t _ (.int k' n)=Op.shift .shl _ _ k' n from rfl,shift_shl' _ _ _ _ hn,hq]) fun c'=>by grind[Rep,u64shl0,IL,IntKind.bits,OJ]⟩
  ·rename_i a
   exact⟨_,h',shf (s:=.u32 (u32shl0 a q)) hy (fun c u=>QM c _ u) (fun w k' n hn hq=>by rw[show binOp .shl t _ (.int k' n)=Op.shift .shl _ _ k' n from rfl,shift_shl' _ _ _ _ hn,hq]) fun c'=>by grind[Rep,u32shl0,wordV,IntKind.bits,TK]⟩
  ·cases h'
 ·obtain⟨q,h',hy⟩:=Xj h
  clear h
  split at h'
  ·rename_i a
   exact⟨_,h',shf (s:=.i (ishr0 a q)) hy (fun c u=>xP c _ u) (fun w k' n hn hq=>by rw[show binOp .shr t _ (.int k' n)=Op.shift .shr _ _ k' n from rfl,shift_shr' _ _ _ _ hn,hq]) fun c'=>by simp only[Rep,ishr0,IntKind.bits]⟩
  ·rename_i a
   refine⟨_,h',shf (s:=.u8 (u8shr0 a q)) hy (fun c u=>PQ c _ u) (fun w k' n hn hq=>by rw[show binOp .shr t _ (.int k' n)=Op.shift .shr _ _ k' n from rfl,shift_shr' _ _ _ _ hn,hq]) fun c'=>?_⟩
   simp only[Rep,u8shr0,byteV,IntKind.bits]
   rw[UInt8.toNat_ofNat',Nat.mod_eq_of_lt (fK _ _ _ (UInt8.toNat_lt _))];simp
  ·rename_i a
   refine⟨_,h',shf (s:=.u64 (u64shr0 a q)) hy (fun c u=>QN c _ u) (fun w k' n hn hq=>by rw[show binOp .shr t _ (.int k' n)=Op.shift .shr _ _ k' n from rfl,shift_shr' _ _ _ _ hn,hq]) fun c'=>?_⟩
   simp only[Rep,u64shr0,IL,IntKind.bits]
   rw[UInt64.toNat_ofNat',Nat.mod_eq_of_lt (fK _ _ _ (UInt64.toNat_lt _))];simp
  ·rename_i a
   refine⟨_,h',shf (s:=.u32 (u32shr0 a q)) hy (fun c u=>QM c _ u) (fun w k' n hn hq=>by rw[show binOp .shr t _ (.int k' n)=Op.shift .shr _ _ k' n from rfl,shift_shr' _ _ _ _ hn,hq]) fun c'=>?_⟩
   simp only[Rep,u32shr0,wordV,IntKind.bits]
   rw[UInt32.toNat_ofNat',Nat.mod_eq_of_lt (fK _ _ _ (UInt32.toNat_lt _))];simp
  ·cases h'
 ·rename_i h1 h2
  split at h
  ·rename_i a b
   have arith:∀(s:AV) (v':Value),K s=some r->(∀ w,(binOp op t (.int .i64 a) (.int .i64 b)).run P w=.ok v' w)->(∀ c',Rep c' s v')->∃ s,K s=some r/\Nl P op t (.i a) (.i b) s :=
    fun s v' hs hb hr=>⟨s,hs,Nl.int (fun c u=>xP c _ u) (fun c u=>xP c _ u) hb hr⟩
   split at h
   ·exact arith _ _ h (fun w=>by simp[binOp,Op.intArith];rfl) (fun c'=>by simp only[Rep];rfl)
   ·exact arith _ _ h (fun w=>by simp[binOp,Op.intArith];rfl) (fun c'=>by simp only[Rep];rfl)
   ·exact arith _ _ h (fun w=>by simp[binOp,Op.intArith];rfl) (fun c'=>by simp only[Rep];rfl)
   ·cases hb:ieq0 b 0 with
    | true=>simp_all
    | false =>
     rw[hb] at h
     have hb0:¬b=0:=by grind[ieq0]
     exact arith _ (.int .i64 (iquo0 a b)) h (fun w=>by simp[binOp,Op.intDiv,hb0,iquo0]) (fun c'=>by simp only[Rep])
   ·cases hb:ieq0 b 0 with
    | true=>simp_all
    | false =>
     rw[hb] at h
     have hb0:¬b=0:=by grind[ieq0]
     exact arith _ (.int .i64 (irem0 a b)) h (fun w=>by simp[binOp,Op.intDiv,hb0,irem0]) (fun c'=>by simp only[Rep])
   ·exact arith _ _ h (fun w=>KW rfl t .i64 a b) (fun c'=>by simp only[Rep];rfl)
   ·exact arith _ _ h (fun w=>KW rfl t .i64 a b) (fun c'=>by simp only[Rep];rfl)
   ·exact arith _ _ h (fun w=>KW rfl t .i64 a b) (fun c'=>by simp only[Rep];rfl)
   ·exact arith _ _ h (fun w=>KW rfl t .i64 a b) (fun c'=>by simp only[Rep];rfl)
   ·exact arith _ _ h (fun w=>KW rfl t .i64 a b) (fun c'=>by simp only[Rep];rfl)
   ·exact arith _ _ h (fun w=>KW rfl t .i64 a b) (fun c'=>by simp only[Rep];rfl)
   ·refine arith _ (.int .i64 (bits op .i64 a b)) h (fun w=>?_) (fun c'=>by simp only[Rep,ibit0])
    cases op<;>first|rfl|contradiction
  ·rename_i a b
   cases hb:TJ op with
   | true=>rw[hb] at h;exact⟨_,h,Nl.int (fun c u=>PQ c _ u) (fun c u=>PQ c _ u) (fun w=>A1k hb t a b) fun c'=>by simp only[Rep];rfl⟩
   | false =>
    rw[hb] at h
    cases hc:Vl op with
    | true=>rw[hc] at h;exact⟨_,h,Nl.int (fun c u=>PQ c _ u) (fun c u=>PQ c _ u) (fun w=>KW hc t .u8 _ _) fun c'=>by simp only[Rep];rfl⟩
    | false =>
     rw[hc] at h
     obtain⟨rfl,hb0,h⟩:=zx h
     refine⟨_,h,Nl.int (fun c u=>PQ c _ u) (fun c u=>PQ c _ u) (fun w=>A2L t a b hb0) fun c'=>?_⟩
     simp_all[Rep,ed,u8rem0]
  ·rename_i a b
   cases hb:TJ op with
   | true=>rw[hb] at h;exact⟨_,h,Nl.int (fun c u=>QM c _ u) (fun c u=>QM c _ u) (fun w=>zX hb t a b) fun c'=>by simp only[Rep];rfl⟩
   | false =>
    rw[hb] at h
    cases hc:Vl op with
    | true=>rw[hc] at h;exact⟨_,h,Nl.int (fun c u=>QM c _ u) (fun c u=>QM c _ u) (fun w=>KW hc t .u32 _ _) fun c'=>by simp only[Rep];rfl⟩
    | false=>simp_all
  ·rename_i a b
   cases hb:TJ op with
   | true=>rw[hb] at h;exact⟨_,h,Nl.int (fun c u=>QN c _ u) (fun c u=>QN c _ u) (fun w=>zY hb t a b) fun c'=>by simp only[Rep];rfl⟩
   | false =>
    rw[hb] at h
    cases hc:Vl op with
    | true=>rw[hc] at h;exact⟨_,h,Nl.int (fun c u=>QN c _ u) (fun c u=>QN c _ u) (fun w=>KW hc t .u64 _ _) fun c'=>by simp only[Rep];rfl⟩
    | false=>simp_all
  ·rename_i a b
   cases hb:bt with
   | false=>simp_all
   | true =>
    rw[hb] at h
    have ht:=hbt hb
    simp only[cond_true] at h
    have heq:∀ w,(Op.equal t (.bool a) (.bool b)).run P w=.ok (a==b) w:=fun w=>run_equal_bool (P:=P) w t a b ht
    split at h
    ·refine⟨_,h,fun c u v w hx hy=>?_⟩
     simp only[Rep] at hx hy
     subst hx;subst hy
     exact⟨fun _ _=>Xh _ _ _ _ _ _,.bool (a==b),by grind[binOp,Sem.run_bind,Result.andThen_ok,Sem.run_pure],by simp only[Rep];rfl⟩
    ·refine⟨_,h,fun c u v w hx hy=>?_⟩
     simp only[Rep] at hx hy
     subst hx;subst hy
     exact⟨fun _ _=>Xh _ _ _ _ _ _,.bool (!(a==b)),by grind[binOp,Sem.run_bind,Result.andThen_ok,Sem.run_pure],by simp only[Rep];rfl⟩
    ·cases h
  ·rename_i a b
   have hbq:(a==b)=decide (a=b):=zaU
   split at h
   ·refine⟨_,h,fun c u v w hx hy=>?_⟩
    simp only[Rep] at hx hy
    subst hx;subst hy
    exact⟨fun _ _=>Zz _ _ _ _ _ _,.bool (decide (a=b)),by simp[binOp,Op.stringOp,<-hbq],by simp only[Rep];rfl⟩
   ·refine⟨_,h,fun c u v w hx hy=>?_⟩
    simp only[Rep] at hx hy
    subst hx;subst hy
    exact⟨fun _ _=>Zz _ _ _ _ _ _,.bool (!decide (a=b)),by simp[binOp,Op.stringOp,<-hbq],by simp only[Rep];rfl⟩
   ·cases h
  ·rename_i a b c d
   cases hb:e2 with
   | false=>simp_all
   | true =>
    rw[hb] at h
    obtain⟨e',E⟩:=he2 hb
    simp only[cond_true] at h
    split at h
    ·refine⟨_,h,fun cx u v w hx hy=>?_⟩
     simp only[Rep,Af] at hx hy
     obtain⟨us,rfl,⟨u1,_,rfl,rfl,u2,_,rfl,rfl,rfl⟩,_⟩:=hx
     obtain⟨vs,rfl,⟨v1,_,rfl,rfl,v2,_,rfl,rfl,rfl⟩,_⟩:=hy
     obtain⟨q1,q2⟩:=E.run w a b c d
     exact⟨fun _ _=>q2 _ _ _,.bool (a==c&&b==d),by grind[binOp,Sem.run_bind,Result.andThen_ok,Sem.run_pure],by simp only[Rep];rfl⟩
    ·refine⟨_,h,fun cx u v w hx hy=>?_⟩
     simp only[Rep,Af] at hx hy
     obtain⟨us,rfl,⟨u1,_,rfl,rfl,u2,_,rfl,rfl,rfl⟩,_⟩:=hx
     obtain⟨vs,rfl,⟨v1,_,rfl,rfl,v2,_,rfl,rfl,rfl⟩,_⟩:=hy
     obtain⟨q1,q2⟩:=E.run w a b c d
     exact⟨fun _ _=>q2 _ _ _,.bool (!(a==c&&b==d)),by grind[binOp,Sem.run_bind,Result.andThen_ok,Sem.run_pure],by simp only[Rep];rfl⟩
    ·cases h
  ·cases hb:bs with
   | false=>simp_all
   | true =>
    rw[hb,cond_true] at h
    obtain⟨el,ht⟩:=hbs hb
    split at h
    ·refine⟨_,h,fun cx u v w hx hy=>?_⟩
     simp_all[Rep,Np,Lib.run_eql_slice_nil]
    ·refine⟨_,h,fun cx u v w hx hy=>?_⟩
     simp_all[Rep,Np,run_neq_slice_nil_any]
    ·cases h
  ·cases hb:bs with
   | false=>simp_all
   | true =>
    rw[hb,cond_true] at h
    obtain⟨el,ht⟩:=hbs hb
    split at h
    ·refine⟨_,h,fun cx u v w hx hy=>?_⟩
     simp only[Rep] at hx hy
     obtain⟨⟨p,n,k,rfl⟩,_⟩:=hx
     simp_all[Np,Lib.run_eql_slice_nil,Rep]
    ·refine⟨_,h,fun cx u v w hx hy=>?_⟩
     simp only[Rep] at hx hy
     obtain⟨⟨p,n,k,rfl⟩,_⟩:=hx
     simp_all[Np,run_neq_slice_nil_any,Rep]
    ·cases h
  ·rename_i l
   cases hb:bs with
   | false=>simp_all
   | true =>
    rw[hb,cond_true] at h
    obtain⟨el,ht⟩:=hbs hb
    cases hl:lemp0 l with
    | true=>simp_all
    | false =>
     rw[hl,cond_false] at h
     have hs:∀(cx:Cx) (u:Value),Rep cx (.sl _ l) u->∃ p n k,u=.slice (some p) n k:=by
      intro cx u hx
      simp only[Rep] at hx
      obtain⟨cs,_,a,cap,rfl,_,_,_,h5,_⟩:=hx cx.w (Stp.refl _ _)
      cases a with
      | none=>have:=(h5 rfl).1;simp_all[lemp0]
      | some p=>simp_all
     split at h
     ·refine⟨_,h,fun cx u v w hx hy=>?_⟩
      obtain⟨p,n,k,rfl⟩:=hs _ _ hx
      simp_all[Rep,Np,Lib.run_eql_slice_nil]
     ·refine⟨_,h,fun cx u v w hx hy=>?_⟩
      obtain⟨p,n,k,rfl⟩:=hs _ _ hx
      simp_all[Rep,Np,run_neq_slice_nil_any]
     ·cases h
  ·rename_i l m _
   split at h
   ·rename_i as bs' ha hb
    cases hc:(Nat.blt 0 en&&Nat.beq as.length en&&Nat.beq bs'.length en) with
    | false=>simp_all
    | true =>
     rw[hc,cond_true] at h
     simp only[Bool.and_eq_true] at hc
     obtain⟨⟨c1,c2⟩,c3⟩:=hc
     have E:=hen (by simpa using c1)
     have q:=fun w=>E.run w as bs' (Nat.eq_of_beq_eq_true c2) (Nat.eq_of_beq_eq_true c3)
     split at h
     ·refine⟨_,h,fun cx u v w hx hy=>?_⟩
      simp only[Rep] at hx hy
      obtain⟨us,rfl,hx,_⟩:=hx
      obtain⟨vs,rfl,hy,_⟩:=hy
      rw[MI ha hx,MI hb hy]
      exact⟨fun _ _=>(q w).2 _ _ _,.bool (decide (as=bs')),by grind[binOp,Sem.run_bind,Result.andThen_ok,Sem.run_pure],by simp only[Rep,fE,ieqs0]⟩
     ·refine⟨_,h,fun cx u v w hx hy=>?_⟩
      simp only[Rep] at hx hy
      obtain⟨us,rfl,hx,_⟩:=hx
      obtain⟨vs,rfl,hy,_⟩:=hy
      rw[MI ha hx,MI hb hy]
      exact⟨fun _ _=>(q w).2 _ _ _,.bool (!(decide (as=bs'))),by grind[binOp,Sem.run_bind,Result.andThen_ok,Sem.run_pure],by simp only[Rep,fE,ieqs0];rfl⟩
     ·cases h
   ·cases h
  ·cases h
end Go.Ax
