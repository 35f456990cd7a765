/-
  Own texts, laid together for this claim: contracts of functions of the program and its references, used by the statements of this seat.
-/
import Derived.Test.YtnhgnfdbdflhcaaGreatDoorMtab
import Derived.Test.YtnhgnfdbdflhcaaGreatDoorMtac
import Derived.Test.YtnhgnfdbdflhcaaGreatDoorMtad
import Derived.Test.YtnhgnfdbdflhcaaGreatDoorMtae
import Derived.Test.YtnhgnfdbdflhcaaGreatDoorMtaf
import Derived.Test.YtnhgnfdbdflhcaaGreatDoorMtah
import Derived.Test.YtnhgnfdbdflhcaaGreatDoorMtaj
import Derived.Test.YtnhgnfdbdflhcaaGreatDoorMtao
import Derived.Test.YtnhgnfdbdflhcaaGreatDoorMtav
import Derived.Test.YtnhgnfdbdflhcaaGreatDoorMtba
set_option linter.all false
set_option maxHeartbeats 40000000
set_option maxRecDepth 100000
namespace Go.Ax
open Go Go.Eng Go.RowKit
variable {h:Int}{l:List (El objT)}
def aG(h:Int):List (El Gp)->Nat
 | []=>0
 | x::l=>if h=256+x.1 then 0 else aG h l+1
def Lu(h:Int)(l:List (El Gp)):Int:=if aG h l<l.length then(aG h l:Int) else -1
theorem JL(h:Int)(l:List (El Gp)): -1<=Lu h l/\Lu h l<l.length:=by unfold Lu;split<;>omega
def Jl(h:Int)(l:List (El objT)):Int:=if Dl l h=none then -1 else h-512
theorem Qo{x:El objT}(e:Dl l h=some x):512<=h/\l[(h-512).toNat]?=some x/\x.1.1≠0:=by
 unfold Dl at e
 split at e
 ·rename_i h0
  split at e
  ·rename_i y hy
   split at e
   ·cases e
   ·cases e;exact⟨h0,hy,by assumption⟩
  ·cases e
 ·cases e
theorem PP(h:Int)(l:List (El objT)): -1<=Jl h l/\Jl h l<l.length:=by
 unfold Jl
 split
 ·omega
 ·rename_i hn
  obtain⟨x,hx⟩:=Option.ne_none_iff_exists'.1 hn
  obtain⟨h1,h2,_⟩:=Qo hx
  have h3:=(List.getElem?_eq_some_iff.1 h2).1
  omega
theorem JZ(hs:0<=Jl h l):∃ x,Dl l h=some x/\x∈l/\BO l (Jl h l)=some x:=by
 have hl:=PP h l
 unfold Jl at *
 split at hs
 ·omega
 ·rename_i hn
  rw[if_neg hn] at hl ⊢
  obtain⟨x,hx⟩:=Option.ne_none_iff_exists'.1 hn
  obtain⟨h1,h2,_⟩:=Qo hx
  obtain⟨h3,h4⟩:=List.getElem?_eq_some_iff.1 h2;exact⟨x,hx,h4▸List.getElem_mem _,by rw[DZ ⟨hs,hl.2⟩];exact congrArg some h4⟩
theorem A5d{j:Nat}(hj:j<l.length):Jl h l=(j:Int)↔h=512+(j:Int)/\(l[j]'hj).1.1≠0:=by
 unfold Jl Dl
 by_cases hh:h=512+(j:Int)
 ·subst hh;rw[if_pos (show(512:Int)<=512+(j:Int) by omega),show(512+(j:Int)-512).toNat=j by omega,List.getElem?_eq_getElem hj]
  by_cases hk:(l[j]'hj).1.1=0
  ·simp only[hk,if_true];constructor
   ·intro e;omega
   ·intro e;exact absurd rfl e.2
  ·simp only[if_neg hk,reduceCtorEq,if_false];constructor
   ·intro _;exact⟨trivial,hk⟩
   ·intro _;omega
 ·constructor
  ·intro e
   split at e
   ·omega
   ·omega
  ·intro e;exact absurd e.1 hh
def Xx(h:Int)(l:List (El sesT)):Int:=if 768<=h then(match l[(h-768).toNat]? with|some x=>if x.1=0 then -1 else h-768|none => -1) else -1
theorem aH{l:List (El sesT)}(hz:0<=Xx h l):Xx h l=h-768/\0<=h-768/\h-768<l.length:=by
 unfold Xx at *
 split at hz
 ·rename_i h0
  rw[if_pos h0]
  split at hz
  ·rename_i x hx
   have h1:=(List.getElem?_eq_some_iff.1 hx).1
   split at hz
   ·omega
   ·rename_i hn
    rw[if_neg hn];omega
  ·omega
 ·omega
end Go.Ax
namespace Go.Proofs.YtnhgnfdbdflhcaaGreatDoor
open Go Go.Ax Go.Eng
variable {a k:Int}
section
attribute [local irreducible] Cc Dn D7 DU DD BA Dp F7 FY FD Ez Ci CS DK DV and' DW DL C9 BR Bh CB CG BG BI Aw BC Dq Fh Dt ER DX Bl CE Bv Bz Bi Az Bg BK Bj BO Du Bc DF BZ BM Cj Di fits Dv Dk Ac Am BH
attribute [local irreducible] Dw CJ Be nameB EL Eh Ar
theorem VR(s:MS)(m:Int){a k:Int}(hi:Kp a k s)(hk:k<=900):∀(n:Nat) (j:Int),0<=j->j+n=s.ss.length->Ah E0 (.loop 290 0 0 2 [(1,.i m),(2,.pa 0 0),(4,.pa 1 0),(7,.i j)] [(0,some (.var (cv s))),(1,some (.var [.nil,.nil,.nil,.i 0,.i 0,.i 0,.i 0,.b false,.nil,.i 0,.i 0,.nil,.i 0,.i 0,.i 0,.i 0,.i 0,.i 0,.nil,.b false,.b false,.nil,.i 0,.i 0,.b false,.i 0,.nil,.nil,.nil,.nil]))]) fun r=>(∃(t:MS) (h:Int),(Kp a (k+1) t/\768<=h/\h<771)/\r=some (.fin .ret 1 [(4,.pa 0 0),(5,.i h),(6,.i 0)] [(0,some (.var (cv t)))]))\/r=some (.fin (.exit 0) 1 [(4,.pa 0 0)] [(0,some (.var [.nil,.nil,.nil,.i 0,.i 0,.i 0,.i 0,.b false,.nil,.i 0,.i 0,.nil,.i 0,.i 0,.i 0,.i 0,.i 0,.i 0,.nil,.b false,.b false,.nil,.i 0,.i 0,.b false,.i 0,.nil,.nil,.nil,.nil]))])
 | 0,j,h0,hj=>by
  have hl:=hi.ssl
  refine CU fun P hP=>?_
  refine tw ?_;exact hP _ (Or.inr rfl)
 | n+1,j,h0,hj=>by
  have hl:=hi.ssl
  have ih:=VR s m hi hk n (j+1) zaa zaa
  refine CU fun P hP=>?_
  refine tw ?_;obtain⟨⟨x0a,x0b,x0c,x0d,x0e,x0f,x0g,x0h⟩,f0,g0⟩:=Dc hi.ssm (i:=j) A7;simp only[Gh,GY,Gz,FZ,CZ,Df,Dh,DC] at f0;rw[g0];refine tw ?_
  rcases AL x0a 0 with hc1|hc1
  ·subst hc1;refine tw ?_;obtain⟨t2,b2_1,⟨h2_2,h2_3,h2_4⟩,yy2⟩:=VM s 16 hi A7 A7;refine Aq yy2 ?_;obtain⟨l3,h3_1,yy3⟩:=UA;refine Aq yy3 ?_;obtain⟨t4,⟨h4_1,h4_2,h4_3,h4_4⟩,yy4⟩:=EP t2 j m b2_1 l3 (-1) 31 0 0 false h2_2 (by(rw[Kp.ssl zav];omega)) zaw
   refine Aq yy4 ?_;exact hP _ (Or.inl ⟨t4,768+j,clo,rfl⟩)
  refine tw ?_;exact hP _ ih
theorem uQ(s:MS)(m:Int)(hi:Kp a k s)(hk:k<=900):Ah E0 (.call 290 [av s,.i m] []) fun r=>(∃(t:MS) (h:Int),(Kp a (k+1) t/\768<=h/\h<771)/\r=some (.ret (.tup [av t,.i h,.i 0]) []))\/∃(t:MS) (h e:Int),(e≠0)/\r=some (.ret (.tup [av t,.i h,.i e]) []):=by
 have hl:=hi.ssl
 refine CU fun P hP=>tw ?_
 rcases AZ m 1 with hc0|hc0
 ·refine tw ?_;exact hP _ (Or.inr ⟨⟨[],[],[],0,0,0,0,false,[],0,0,[],0,0,0,0,0,0,[],false,false,[],0,0,false,0,[],[],[],[]⟩,0,1,A7,rfl⟩)
 refine tw ?_
 rcases AZ 3 m with hc1|hc1
 ·refine tw ?_;exact hP _ (Or.inr ⟨⟨[],[],[],0,0,0,0,false,[],0,0,[],0,0,0,0,0,0,[],false,false,[],0,0,false,0,[],[],[],[]⟩,0,1,A7,rfl⟩)
 refine tw ?_
 obtain(⟨t2,h2_1,⟨h2_2,h2_3,h2_4⟩,yy2⟩|yy2):=VR s m hi A7 (Int.toNat (↑s.ss.length-(0))) 0 A7 zaa
 ·refine Aq yy2 ?_;exact hP _ (Or.inl ⟨t2,h2_1,clo,rfl⟩)
 refine Aq yy2 ?_;exact hP _ (Or.inr ⟨⟨[],[],[],0,0,0,0,false,[],0,0,[],0,0,0,0,0,0,[],false,false,[],0,0,false,0,[],[],[],[]⟩,0,25,A7,rfl⟩)
end
section
attribute [local irreducible] Cc Dn D7 DU DD BA Dp F7 FY FD Ez Ci CS DK DV and' DW DL C9 BR Bh CB CG BG BI Aw BC Dq Fh Dt ER DX Bl CE Bv Bz Bi Az Bg BK Bj BO Du Bc DF BZ BM Cj Di fits Dv Dk Ac Am BH
attribute [local irreducible] Dw CJ Be nameB EL Eh Ar
variable (sd au:List (List UInt8))(en:List UInt8)(ac re rs ck:Int)(od:Bool)(sb:List (List (List UInt8)))(su mc:Int)(ix:List (El Gp))(l1 l2 l3 l4 l5 l6:Int)(ks:List (El J8))(st sp:Bool)(rb:List (List (List UInt8)))(ru vc:Int)(sf:Bool)(dr:Int)(ss:List (El sesT))(ob:List (El objT))(rl wl:List Int)
theorem TL(sd au:List (List UInt8))(en:List UInt8)(ac re rs ck:Int)(od:Bool)(sb:List (List (List UInt8)))(su mc:Int)(ix:List (El Gp))(l1 l2 l3 l4 l5 l6:Int)(ks:List (El J8))(st sp:Bool)(rb:List (List (List UInt8)))(ru vc:Int)(sf:Bool)(dr:Int)(ss:List (El sesT))(ob:List (El objT))(rl wl:List Int)(h:Int)(hl:ix.length<=1000)(hx:∀ x∈ix,Gh x):∀(n j:Nat),j+n=ix.length->aG h ix=j+aG h (ix.drop j)->Y E0 (.loop 148 0 0 1 [(1,.i h),(2,.pa 0 0),(5,.i (j:Int))] [(0,some (.var (sC sd au en ac re rs ck od sb su mc ix l1 l2 l3 l4 l5 l6 ks st sp rb ru vc sf dr ss ob rl wl)))])=if aG h ix<ix.length then some (.fin .ret 0 [(4,.i (aG h ix:Int))] []) else some (.fin (.exit 0) 0 [] [])
 | 0,j,hj,hf=>by
  rw[if_neg (by rw[List.drop_eq_nil_of_le zaa,aG] at hf;omega)]
  exact tq rfl
 | n+1,j,hj,hf=>by
  have hd:=List.drop_eq_getElem_cons (l:=ix) (i:=j) zaa
  rw[hd] at hf
  have hg:BO ix (j:Int)=some (ix[j]'zaa):=Fe zaa
  have hx1:=hx (ix[j]'zaa) (List.getElem_mem zaa)
  generalize ix[j]'zaa=x at *
  obtain⟨x1,x2,x3,x4,x5,x6,x7,x8⟩:=x;simp only[Gh,CZ] at hx1
  by_cases hk:h=256+x1
  ·rw[aG,if_pos hk] at hf;rw[if_pos zaa,show aG h ix=j from hf]
   refine to ?_;rw[hg];exact tq rfl
  ·have ih:=TL sd au en ac re rs ck od sb su mc ix l1 l2 l3 l4 l5 l6 ks st sp rb ru vc sf dr ss ob rl wl h hl hx n (j+1) zaa (by rw[hf,aG,if_neg hk];omega)
   rw[show((j+1:Nat):Int)=(j:Int)+1 from by omega] at ih
   refine to ?_;rw[hg];refine tq ?_;exact ih
theorem Et(h:Int)(hl:ix.length<=1000)(hx:∀ x∈ix,Gh x):Y E0 (.call 148 [(sX sd au en ac re rs ck od sb su mc ix l1 l2 l3 l4 l5 l6 ks st sp rb ru vc sf dr ss ob rl wl),.i h] [])=some (.ret (.i (Lu h ix)) []):=by
 have e:=TL sd au en ac re rs ck od sb su mc ix l1 l2 l3 l4 l5 l6 ks st sp rb ru vc sf dr ss ob rl wl h hl hx ix.length 0 zaa zam
 rw[show((0:Nat):Int)=0 from rfl] at e
 unfold Lu
 split at e
 ·rename_i hc;rw[if_pos hc];refine tq ?_;rw[e];exact tq rfl
 ·rename_i hc;rw[if_neg hc];refine tq ?_;rw[e];exact tq rfl
theorem VS(sd au:List (List UInt8))(en:List UInt8)(ac re rs ck:Int)(od:Bool)(sb:List (List (List UInt8)))(su mc:Int)(ix:List (El Gp))(l1 l2 l3 l4 l5 l6:Int)(ks:List (El J8))(st sp:Bool)(rb:List (List (List UInt8)))(ru vc:Int)(sf:Bool)(dr:Int)(ss:List (El sesT))(ob:List (El objT))(rl wl:List Int)(h:Int)(hl:ob.length<=1000):∀(n j:Nat),j+n=ob.length->(Jl h ob<0\/(j:Int)<=Jl h ob)->Y E0 (.loop 59 0 0 1 [(1,.i h),(2,.pa 0 0),(5,.i (j:Int))] [(0,some (.var (sC sd au en ac re rs ck od sb su mc ix l1 l2 l3 l4 l5 l6 ks st sp rb ru vc sf dr ss ob rl wl)))])=if 0<=Jl h ob then some (.fin .ret 0 [(4,.i (Jl h ob))] []) else some (.fin (.exit 0) 0 [] [])
 | 0,j,hj,hf=>by
  have:=PP h ob
  rw[if_neg zaa]
  exact tq rfl
 | n+1,j,hj,hf=>by
  have hq:=A5d (h:=h) (l:=ob) (j:=j) zaa
  have hg:BO ob (j:Int)=some (ob[j]'zaa):=Fe zaa
  generalize ob[j]'zaa=x at *
  obtain⟨⟨x1,x2,x3,x4,x5⟩,⟨y1,y2,y3⟩,z⟩:=x
  dsimp only at hq
  by_cases hk:Jl h ob=(j:Int)
  ·obtain⟨h1,h2⟩:=hq.1 hk;rw[hk,if_pos zaa]
   refine to ?_;rw[hg];exact tq rfl
  ·have ih:=VS sd au en ac re rs ck od sb su mc ix l1 l2 l3 l4 l5 l6 ks st sp rb ru vc sf dr ss ob rl wl h hl n (j+1) zaa zaa
   have hq':¬(h=512+(j:Int)/\x1≠0):=fun e=>hk (hq.2 e)
   rw[show((j+1:Nat):Int)=(j:Int)+1 from by omega] at ih
   refine tq ?_
   rcases AL h (512+↑j) with hc0|hc0
   ·subst hc0;refine to ?_;rw[hg];refine tq ?_
    rcases AX x1 0 with hc1|hc1
    ·refine tq ?_
     (exfalso;exact hq' ⟨rfl,by assumption⟩)
    subst hc1;refine tq ?_;exact ih
   refine tq ?_;exact ih
theorem Eu(h:Int)(hl:ob.length<=1000):Y E0 (.call 59 [(sX sd au en ac re rs ck od sb su mc ix l1 l2 l3 l4 l5 l6 ks st sp rb ru vc sf dr ss ob rl wl),.i h] [])=some (.ret (.i (Jl h ob)) []):=by
 have e:=VS sd au en ac re rs ck od sb su mc ix l1 l2 l3 l4 l5 l6 ks st sp rb ru vc sf dr ss ob rl wl h hl ob.length 0 zaa zaa
 rw[show((0:Nat):Int)=0 from rfl] at e
 have hlt:=PP h ob
 split at e
 ·refine tq ?_;rw[e];exact tq rfl
 ·rename_i hc;rw[show Jl h ob = -1 by omega];refine tq ?_;rw[e];exact tq rfl
end
section
attribute [local irreducible] Cc Dn D7 DU DD BA Dp F7 FY FD Ez Ci CS DK DV and' DW DL C9 BR Bh CB CG BG BI Aw BC Dq Fh Dt ER DX Bl CE Bv Bz Bi Az Bg BK Bj BO Du Bc DF BZ BM Cj Di fits Dv Dk Ac Am BH
attribute [local irreducible] Dw CJ Be nameB EL Eh Ar
theorem VT(c:Int)(hs:List Int)(az:List (El AY))(is:List Int)(bs ns:List (List UInt8))(hn:ns.length<=10)(hm:∀ x∈ns,x.length<=32):∀(n:Nat) (j:Int) (acc:List UInt8),0<=j->j+n=ns.length->(acc.length:Int)<=32*j->Ah E0 (.loop 151 0 0 2 [(0,.sl (.sl .u8) ns),(3,.pa 0 0),(5,.nm 1),(6,.nil),(7,.i j)] [(0,some (.var [.i c,.sl .i64 hs,.sl AY az,.sl .i64 is,.sl (.sl .u8) bs])),(1,some (.row 5 .u8 acc))]) fun r=>∃ acc':List UInt8,(acc'.length<=320)/\r=some (.fin (.exit 0) 1 [(3,.pa 0 0),(5,.sl .u8 acc'),(6,.nil)] [(0,some (.var [.i c,.sl .i64 hs,.sl AY az,.sl .i64 is,.sl (.sl .u8) bs]))])
 | 0,j,acc,h0,hj,ha=>by
  refine CU fun P hP=>?_
  refine tw ?_;exact hP _ ⟨acc,A7,rfl⟩
 | n+1,j,acc,h0,hj,ha=>by
  have ih:=fun acc=>VT c hs az is bs ns hn hm n (j+1) acc zaa zaa
  refine CU fun P hP=>?_
  refine tw ?_;obtain⟨x0,f0,g0⟩:=Dc hm (i:=j) A7;rw[g0];refine tw ?_;exact hP _ (ih _ (by rw[Ag,List.length_append];omega))
theorem VU(c:Int)(hs:List Int)(az:List (El AY))(is:List Int)(bs:List (List UInt8))(al:List UInt8)(hn:is.length<=100):∀(n:Nat) (j:Int) (acc:List UInt8),0<=j->j+n=is.length->(acc.length:Int)<=8*j->Ah E0 (.loop 151 1 0 1 [(3,.pa 0 0),(5,.sl .u8 al),(6,.sl .u8 acc),(8,.i j)] [(0,some (.var [.i c,.sl .i64 hs,.sl AY az,.sl .i64 is,.sl (.sl .u8) bs]))]) fun r=>∃ acc':List UInt8,(acc'.length<=800)/\r=some (.fin (.exit 2) 1 [(3,.pa 0 0),(5,.sl .u8 al),(6,.sl .u8 acc')] [(0,some (.var [.i c,.sl .i64 hs,.sl AY az,.sl .i64 is,.sl (.sl .u8) bs]))])
 | 0,j,acc,h0,hj,ha=>by
  refine CU fun P hP=>?_
  refine tw ?_;exact hP _ ⟨acc,A7,rfl⟩
 | n+1,j,acc,h0,hj,ha=>by
  have ih:=fun acc=>VU c hs az is bs al hn n (j+1) acc zaa zaa
  refine CU fun P hP=>?_
  refine tw ?_;obtain⟨x0,m0,g0⟩:=EY (l:=is) (i:=j) zaa;rw[g0];refine tw ?_;rw[CP _ _ _ A7];refine tw ?_;exact hP _ (ih _ (by rw[AU];omega))
theorem jQ(c:Int)(hs:List Int)(az:List (El AY))(is:List Int)(bs:List (List UInt8))(al:List UInt8)(hn:is.length<=100):Ah E0 (.loop 151 1 0 1 [(3,.pa 0 0),(5,.sl .u8 al),(6,.nil),(8,.i 0)] [(0,some (.var [.i c,.sl .i64 hs,.sl AY az,.sl .i64 is,.sl (.sl .u8) bs]))]) fun r=>(∃ acc':List UInt8,(acc'.length<=800)/\r=some (.fin (.exit 2) 1 [(3,.pa 0 0),(5,.sl .u8 al),(6,.sl .u8 acc')] [(0,some (.var [.i c,.sl .i64 hs,.sl AY az,.sl .i64 is,.sl (.sl .u8) bs]))]))\/r=some (.fin (.exit 2) 1 [(3,.pa 0 0),(5,.sl .u8 al),(6,.nil)] [(0,some (.var [.i c,.sl .i64 hs,.sl AY az,.sl .i64 is,.sl (.sl .u8) bs]))]):=by
 have ih:=fun(h:0<is.length) acc=>VU c hs az is bs al hn (is.length-1) 1 acc zaa zaa
 refine CU fun P hP=>?_
 rw[Ad];conv=>arg 1;whnf
 rcases AZ 0 (↑is.length) with hc0|hc0
 ·refine tw ?_;obtain⟨x1,m1,g1⟩:=EY (l:=is) (i:=0) zaa;rw[g1];refine tw ?_;rw[CP _ _ _ A7];refine tw ?_;exact hP _ (.inl (ih zaa _ (by rw[AU,List.length_nil];omega)))
 refine tw ?_;exact hP _ (Or.inr rfl)
theorem X8(c:Int)(hs:List Int)(az:List (El AY))(is:List Int)(bs ns:List (List UInt8))(hf:Few hs az is bs)(hn:ns.length<=10)(hm:∀ x∈ns,x.length<=32):Ah E0 (.call 151 [.sl (.sl .u8) ns,rq c hs az is bs] []) fun r=>∃ l:List UInt8,(l.length=32)/\r=some (.ret (.sl .u8 l) []):=by
 have hil:=hf.il
 have hbl:=hf.bl
 have hbm:=hf.bm
 refine CU fun P hP=>tw ?_
 obtain⟨acc'0,h0_1,yy0⟩:=VT c hs az is bs ns A7 A7 (Int.toNat (↑ns.length-(0))) 0 [] A7 zaa A7;refine Aq yy0 ?_
 obtain(⟨acc'1,h1_1,yy1⟩|yy1):=jQ c hs az is bs acc'0 A7
 ·refine Aq yy1 ?_;obtain⟨l2,h2_1,yy2⟩:=FV 10 (BM [[ER c],acc'0,acc'1] bs) A7 zaM
  refine Aq yy2 ?_;rw[Hz _ A7];refine tw ?_;exact hP _ ⟨sha256 l2,A7,rfl⟩
 refine Aq yy1 ?_;obtain⟨l3,h3_1,yy3⟩:=FV 10 (BM [[ER c],acc'0,[]] bs) A7 zaM
 refine Aq yy3 ?_;rw[Hz _ A7];refine tw ?_;exact hP _ ⟨sha256 l3,A7,rfl⟩
theorem X9(v d x y:List UInt8)(hv:v.length<=2000)(hd:d.length<=2000)(hx:x.length<=2000)(hy:y.length<=2000):Ah E0 (.call 150 [.sl .u8 v,.sl .u8 d,.sl .u8 x,.sl .u8 y] []) fun r=>∃ l:List UInt8,(l.length<=32)/\r=some (.ret (.sl .u8 l) []):=by
 refine CU fun P hP=>tw ?_
 rw[Ha _ _ A7 A7];refine tw ?_;rw[iR _ _ A7 A7];refine tw ?_;refine hP _ ⟨ZW v (Ar 10 [d,x,y]),?_,rfl⟩;(rw[BU];decide)
theorem TM(s:MS)(c:Int)(hs:List Int)(az:List (El AY))(is:List Int)(bs:List (List UInt8)){a k:Int}(hi:Kp a k s)(hf:Few hs az is bs):∀(n:Nat) (j:Int) (acc:List (List UInt8)),0<=j->j+n=hs.length->(acc.length:Int)=j->(∀ x∈acc,x.length<=32)->Ah E0 (.loop 202 0 0 3 [(2,.pa 0 0),(3,.pa 1 0),(5,.nm 2),(6,.i j)] [(0,some (.var (cv s))),(1,some (.var [.i c,.sl .i64 hs,.sl AY az,.sl .i64 is,.sl (.sl .u8) bs])),(2,some (.row 22 (.sl .u8) acc))]) fun r=>∃ ns:List (List UInt8),(ns.length<=10/\∀ x∈ns,x.length<=32)/\r=some (.fin (.exit 0) 0 [(5,.sl (.sl .u8) ns)] [])
 | 0,j,acc,h0,hj,ha,hm=>by
  have hl:=hf.hl
  refine CU fun P hP=>?_
  refine tw ?_;exact hP _ ⟨acc,clo,rfl⟩
 | n+1,j,acc,h0,hj,ha,hm=>by
  have hl:=hf.hl
  have ih:=fun acc=>TM s c hs az is bs hi hf n (j+1) acc zaa zaa
  have hq:∀ l:List UInt8,l.length<=32->((BM acc [l]).length:Int)=j+1/\∀ x∈BM acc [l],x.length<=32:=fun l hl=>by
   obtain⟨h1,h2⟩:=A8C (p:=fun x:List UInt8=>x.length<=32) hm (m:=[l]) (by simpa using hl);exact⟨by rw[h1];simp;omega,h2⟩
  refine CU fun P hP=>?_
  refine tw ?_;obtain⟨x0,m0,g0⟩:=EY (l:=hs) (i:=j) zaa;rw[g0];refine tw ?_;obtain⟨l1,h1_1,yy1⟩:=U9 s x0 hi;refine Aq yy1 ?_;exact hP _ (ih _ (hq _ zav).1 (hq _ zav).2)
theorem Xi(s:MS)(c:Int)(hs:List Int)(az:List (El AY))(is:List Int)(bs:List (List UInt8))(hi:Kp a k s)(hf:Few hs az is bs):Ah E0 (.call 202 [av s,rq c hs az is bs] []) fun r=>∃ ns:List (List UInt8),(ns.length<=10/\∀ x∈ns,x.length<=32)/\r=some (.ret (.sl (.sl .u8) ns) []):=by
 refine CU fun P hP=>tw ?_
 obtain⟨ns0,⟨h0_1,h0_2⟩,yy0⟩:=TM s c hs az is bs hi A7 (Int.toNat (↑hs.length-(0))) 0 [] A7 zaa A7 A7;refine Aq yy0 ?_;exact hP _ ⟨ns0,clo,rfl⟩
theorem Qp(c:Int):Ah E0 (.call 278 [.i c] []) fun r=>∃ b:Bool,r=some (.ret (.b b) []):=by
 refine CU fun P hP=>tw ?_
 rcases AL c 24 with hc0|hc0
 ·subst hc0;refine tw ?_;exact hP _ ⟨true,rfl⟩
 refine tw ?_
 rcases AL c 28 with hc1|hc1
 ·subst hc1;refine tw ?_;exact hP _ ⟨true,rfl⟩
 refine tw ?_;exact hP _ ⟨F7 c 18,rfl⟩
theorem PQ(b:Bool)(x y:Int):Ah E0 (.call 277 [.b b,.i x,.i y] []) fun r=>∃ z:Int,r=some (.ret (.i z) []):=by
 refine CU fun P hP=>tw ?_
 rcases bo b with rfl|rfl
 ·refine tw ?_;exact hP _ ⟨x,rfl⟩
 refine tw ?_;exact hP _ ⟨y,rfl⟩
theorem aI(s:MS)(c h:Int)(hs:List Int)(az:List (El AY))(is:List Int)(bs:List (List UInt8))(hi:Kp a k s)(hf:Few (h::hs) az is bs):Ah E0 (.call 250 [av s,rq c (h::hs) az is bs] []) fun r=>∃ b:Bool,r=some (.ret (.b b) []):=by
 have hl:=hi.ixl
 have hl':=hi.obl
 have hhl:=hf.hl
 have hxm:=hi.ixm
 refine CU fun P hP=>tw ?_
 obtain⟨b0,yy0⟩:=Qp c;refine Aq yy0 ?_;rw[Eu (hl:=A7) ..];refine tw ?_
 rcases DJ 0 (Jl h s.ob) with hc1|hc1
 ·refine tw ?_
  have q2:=PP (h) (s.ob)
  obtain⟨⟨⟨x2a,x2b,x2c,x2d,x2e⟩,⟨x2f,x2g,x2h⟩,x2i⟩,f2,g2⟩:=Dc hi.obm (i:=Jl h s.ob) A7;simp only[Gh,GY,Gz,FZ,CZ,Df,Dh,DC] at f2;rw[g2];refine tw ?_;exact hP _ ⟨FY (BA BinOp.and x2b 1) 0,rfl⟩
 refine tw ?_;rw[Et (hl:=A7) (hx:=A7) ..];refine tw ?_
 rcases DJ 0 (Lu h s.ix) with hc3|hc3
 ·refine tw ?_
  have q4:=JL (h) (s.ix)
  obtain⟨⟨x4a,x4b,x4c,x4d,x4e,x4f,x4g,x4h⟩,f4,g4⟩:=Dc hxm (i:=Lu h s.ix) A7;simp only[Gh,GY,Gz,FZ,CZ,Df,Dh,DC] at f4;rw[g4];refine tw ?_;obtain⟨z5,yy5⟩:=PQ b0 1 2;refine Aq yy5 ?_;exact hP _ ⟨FY (BA BinOp.and x4c z5) 0,rfl⟩
 refine tw ?_
 rcases AL h 1 with hc6|hc6
 ·subst hc6;refine tw ?_
  rcases DJ 23 c with hc7|hc7
  ·refine tw ?_
   rcases DJ c 29 with hc8|hc8
   ·rw[Gm zaa]
    conv=>arg 1;whnf
    rw[Ad]
    conv=>arg 1;whnf
    rcases AZ 1 (↑(1::hs).length) with hc9|hc9
    ·refine tw ?_;obtain⟨x10,m10,g10⟩:=EY (l:=1::hs) (i:=1) zaa;rw[g10];refine tw ?_;rw[Et (hl:=A7) (hx:=A7) ..];refine tw ?_
     rcases DJ 0 (Lu x10 s.ix) with hc11|hc11
     ·refine tw ?_
      have q12:=JL (x10) (s.ix)
      obtain⟨⟨x12a,x12b,x12c,x12d,x12e,x12f,x12g,x12h⟩,f12,g12⟩:=Dc hxm (i:=Lu x10 s.ix) A7;simp only[Gh,GY,Gz,FZ,CZ,Df,Dh,DC] at f12;rw[g12];refine tw ?_;obtain⟨z13,yy13⟩:=PQ b0 16 32;refine Aq yy13 ?_;exact hP _ ⟨FY (BA BinOp.and x12c z13) 0,rfl⟩
     refine tw ?_;exact hP _ ⟨false,rfl⟩
    refine tw ?_;exact hP _ ⟨true,rfl⟩
   refine tw ?_;exact hP _ ⟨true,rfl⟩
  refine tw ?_;exact hP _ ⟨true,rfl⟩
 refine tw ?_;exact hP _ ⟨true,rfl⟩
theorem PR(s:MS)(h:Int)(hi:Kp a k s):Ah E0 (.call 248 [av s,.i h] []) fun r=>∃ b:Bool,r=some (.ret (.b b) []):=by
 have hv:=hi.vc
 have hk:=hi.lk
 refine CU fun P hP=>tw ?_
 rcases AL h 3 with hc0|hc0
 ·subst hc0;refine tw ?_;obtain⟨b1,yy1⟩:=uD s.l1 s.l2 s.l3 s.l4 s.l5 s.l6 s.vc;rw[yy1]
  conv=>arg 1;whnf
  exact hP _ ⟨DV b1,rfl⟩
 refine tw ?_;obtain⟨b2,yy2⟩:=Pj s h hi;refine Aq yy2 ?_
 rcases bo b2 with rfl|rfl
 ·refine tw ?_;obtain⟨b4,yy4⟩:=jD s.l1 s.l2 s.l3 s.l4 s.l5 s.l6 s.vc A7 A7;refine Aq yy4 ?_;exact hP _ ⟨b4,rfl⟩
 refine tw ?_;exact hP _ ⟨false,rfl⟩
theorem Qq(s:MS)(h:Int)(b:Bool)(hi:Kp a k s):Ah E0 (.call 249 [av s,.i h,.b b] []) fun r=>∃(t:MS) (e:Int),(Kp a k t)/\r=some (.ret (.tup [av t,.i e]) []):=by
 have hv:=hi.vc
 have hk:=hi.lk
 refine CU fun P hP=>tw ?_
 rcases bo b with rfl|rfl
 ·refine tw ?_;exact hP _ ⟨s,0,A7,rfl⟩
 refine tw ?_
 rcases AL h 3 with hc1|hc1
 ·subst hc1;refine tw ?_;obtain⟨m52,h2_1,yy2⟩:=oD s.l1 s.l2 s.l3 s.l4 s.l5 s.l6 s.vc A7 A7;refine Aq yy2 ?_;refine hP _ ⟨{s with l5:=m52},9,?_,rfl⟩;exact {hi with lk:=by assumption}
 refine tw ?_;obtain⟨b3,yy3⟩:=Pj s h hi;refine Aq yy3 ?_
 rcases bo b3 with rfl|rfl
 ·refine tw ?_;obtain⟨m15,m45_1,h5_2,yy5⟩:=uC s.l1 s.l2 s.l3 s.l4 s.l5 s.l6 s.vc A7 A7;refine Aq yy5 ?_;refine hP _ ⟨{s with l1:=m15,l4:=m45_1},9,?_,rfl⟩;exact {hi with lk:=by assumption}
 refine tw ?_;exact hP _ ⟨s,9,A7,rfl⟩
theorem A0e(s:MS)(lo c h:Int)(hs:List Int)(az:List (El AY))(is:List Int)(bs:List (List UInt8))(x:Int)(n d:List UInt8)(u l m t:Int)(b:Bool)(hi:Kp a k s)(hf:Few (h::hs) az is bs)(hlo:0<=lo/\lo<=4)(hd:d.length<=32):Ah E0 (.call 247 [av s,.i lo,rq c (h::hs) az is bs,seA x n d u l m t b] []) fun r=>∃(b:Bool) (e:Int),r=some (.ret (.tup [.b b,.i e]) []):=by
 have hl:=hi.ixl
 have hhl:=hf.hl
 refine CU fun P hP=>tw ?_
 rcases DJ 0 h with hc0|hc0
 ·refine tw ?_
  rcases DJ h 3 with hc1|hc1
  ·refine tw ?_;exact hP _ ⟨false,8,rfl⟩
  refine tw ?_;obtain⟨i2,⟨h2_1,h2_2⟩,yy2⟩:=I9 s h hi;refine Aq yy2 ?_
  rcases DJ 0 i2 with hc3|hc3
  ·refine tw ?_;obtain⟨⟨x4a,x4b,x4c,x4d,x4e,x4f,x4g,x4h⟩,f4,g4⟩:=Dc hi.ixm (i:=i2) A7;simp only[Gh,GY,Gz,FZ,CZ,Df,Dh,DC] at f4;rw[g4];refine tw ?_;obtain⟨b5,yy5⟩:=Qp c;refine Aq yy5 ?_;obtain⟨z6,yy6⟩:=PQ b5 4 8;refine Aq yy6 ?_
   rcases AL (BA BinOp.and x4c z6) 0 with hc7|hc7
   ·refine tw ?_;exact hP _ ⟨false,20,rfl⟩
   refine tw ?_;obtain⟨l8,h8_1,yy8⟩:=MK s h hi;refine Aq yy8 ?_
   rcases AL (↑l8.length) 0 with hc9|hc9
   ·refine tw ?_;exact hP _ ⟨false,11,rfl⟩
   refine tw ?_
   rcases AX t 0 with hc10|hc10
   ·refine tw ?_
    rcases DJ t s.vc with hc11|hc11
    ·refine tw ?_;exact hP _ ⟨false,15,rfl⟩
    refine tw ?_
    rcases AL (BA BinOp.and (CS l (Bl lo).toNat) 1) 0 with hc12|hc12
    ·refine tw ?_;exact hP _ ⟨false,13,rfl⟩
    refine tw ?_
    rcases AX m 0 with hc13|hc13
    ·refine tw ?_
     rcases AX m c with hc14|hc14
     ·rw[G8 zaa]
      conv=>arg 1;whnf
      rw[Ad]
      conv=>arg 1;whnf
      exact hP _ ⟨false,14,rfl⟩
     subst hc14;rw[Cf zaa]
     conv=>arg 1;whnf
     rw[Ad]
     conv=>arg 1;whnf
     rcases AX u (-1) with hc15|hc15
     ·refine tw ?_
      rcases AX u s.ru with hc16|hc16
      ·refine tw ?_;exact hP _ ⟨false,12,rfl⟩
      subst hc16;refine tw ?_;rw[Bq _ _ A7];refine tw ?_
      rcases Decidable.em (d=l8) with hc17|hc17
      ·refine tw ?_;exact hP _ ⟨b,0,rfl⟩
      refine tw ?_;exact hP _ ⟨false,11,rfl⟩
     subst hc15;refine tw ?_;rw[Bq _ _ A7];refine tw ?_
     rcases Decidable.em (d=l8) with hc18|hc18
     ·refine tw ?_;exact hP _ ⟨b,0,rfl⟩
     refine tw ?_;exact hP _ ⟨false,11,rfl⟩
    subst hc13;refine tw ?_
    rcases AX u (-1) with hc19|hc19
    ·rw[G8 zaa]
     conv=>arg 1;whnf
     rw[Ad]
     conv=>arg 1;whnf
     rcases AX u s.ru with hc20|hc20
     ·refine tw ?_;exact hP _ ⟨false,12,rfl⟩
     subst hc20;refine tw ?_;rw[Bq _ _ A7];refine tw ?_
     rcases Decidable.em (d=l8) with hc21|hc21
     ·refine tw ?_;exact hP _ ⟨b,0,rfl⟩
     refine tw ?_;exact hP _ ⟨false,11,rfl⟩
    subst hc19;refine tw ?_;rw[Bq _ _ A7];refine tw ?_
    rcases Decidable.em (d=l8) with hc22|hc22
    ·refine tw ?_;exact hP _ ⟨b,0,rfl⟩
    refine tw ?_;exact hP _ ⟨false,11,rfl⟩
   subst hc10;refine tw ?_
   rcases AL (BA BinOp.and (CS l (Bl lo).toNat) 1) 0 with hc23|hc23
   ·refine tw ?_;exact hP _ ⟨false,13,rfl⟩
   refine tw ?_
   rcases AX m 0 with hc24|hc24
   ·refine tw ?_
    rcases AX m c with hc25|hc25
    ·refine tw ?_;exact hP _ ⟨false,14,rfl⟩
    subst hc25;refine tw ?_
    rcases AX u (-1) with hc26|hc26
    ·refine tw ?_
     rcases AX u s.ru with hc27|hc27
     ·refine tw ?_;exact hP _ ⟨false,12,rfl⟩
     subst hc27;refine tw ?_;rw[Bq _ _ A7];refine tw ?_
     rcases Decidable.em (d=l8) with hc28|hc28
     ·refine tw ?_;exact hP _ ⟨b,0,rfl⟩
     refine tw ?_;exact hP _ ⟨false,11,rfl⟩
    subst hc26;refine tw ?_;rw[Bq _ _ A7];refine tw ?_
    rcases Decidable.em (d=l8) with hc29|hc29
    ·refine tw ?_;exact hP _ ⟨b,0,rfl⟩
    refine tw ?_;exact hP _ ⟨false,11,rfl⟩
   subst hc24;refine tw ?_
   rcases AX u (-1) with hc30|hc30
   ·rw[G8 zaa]
    conv=>arg 1;whnf
    rw[Ad]
    conv=>arg 1;whnf
    rcases AX u s.ru with hc31|hc31
    ·refine tw ?_;exact hP _ ⟨false,12,rfl⟩
    subst hc31;refine tw ?_;rw[Bq _ _ A7];refine tw ?_
    rcases Decidable.em (d=l8) with hc32|hc32
    ·refine tw ?_;exact hP _ ⟨b,0,rfl⟩
    refine tw ?_;exact hP _ ⟨false,11,rfl⟩
   subst hc30;refine tw ?_;rw[Bq _ _ A7];refine tw ?_
   rcases Decidable.em (d=l8) with hc33|hc33
   ·refine tw ?_;exact hP _ ⟨b,0,rfl⟩
   refine tw ?_;exact hP _ ⟨false,11,rfl⟩
  refine tw ?_;obtain⟨l34,h34_1,yy34⟩:=MK s h hi;refine Aq yy34 ?_
  rcases AL (↑l34.length) 0 with hc35|hc35
  ·refine tw ?_;exact hP _ ⟨false,11,rfl⟩
  refine tw ?_
  rcases AX t 0 with hc36|hc36
  ·refine tw ?_
   rcases DJ t s.vc with hc37|hc37
   ·refine tw ?_;exact hP _ ⟨false,15,rfl⟩
   refine tw ?_
   rcases AL (BA BinOp.and (CS l (Bl lo).toNat) 1) 0 with hc38|hc38
   ·refine tw ?_;exact hP _ ⟨false,13,rfl⟩
   refine tw ?_
   rcases AX m 0 with hc39|hc39
   ·refine tw ?_
    rcases AX m c with hc40|hc40
    ·refine tw ?_;exact hP _ ⟨false,14,rfl⟩
    subst hc40;refine tw ?_
    rcases AX u (-1) with hc41|hc41
    ·rw[G8 zaa]
     conv=>arg 1;whnf
     rw[Ad]
     conv=>arg 1;whnf
     rcases AX u s.ru with hc42|hc42
     ·refine tw ?_;exact hP _ ⟨false,12,rfl⟩
     subst hc42;refine tw ?_;rw[Bq _ _ A7];refine tw ?_
     rcases Decidable.em (d=l34) with hc43|hc43
     ·refine tw ?_;exact hP _ ⟨b,0,rfl⟩
     refine tw ?_;exact hP _ ⟨false,11,rfl⟩
    subst hc41;refine tw ?_;rw[Bq _ _ A7];refine tw ?_
    rcases Decidable.em (d=l34) with hc44|hc44
    ·rw[decide_eq_true zan]
     conv=>arg 1;whnf
     rw[Ad]
     conv=>arg 1;whnf
     exact hP _ ⟨b,0,rfl⟩
    rw[decide_eq_false zan]
    conv=>arg 1;whnf
    rw[Ad]
    conv=>arg 1;whnf
    exact hP _ ⟨false,11,rfl⟩
   subst hc39;refine tw ?_
   rcases AX u (-1) with hc45|hc45
   ·refine tw ?_
    rcases AX u s.ru with hc46|hc46
    ·rw[G8 zaa]
     conv=>arg 1;whnf
     rw[Ad]
     conv=>arg 1;whnf
     exact hP _ ⟨false,12,rfl⟩
    subst hc46;refine tw ?_;rw[Bq _ _ A7];refine tw ?_
    rcases Decidable.em (d=l34) with hc47|hc47
    ·refine tw ?_;exact hP _ ⟨b,0,rfl⟩
    refine tw ?_;exact hP _ ⟨false,11,rfl⟩
   subst hc45;refine tw ?_;rw[Bq _ _ A7];refine tw ?_
   rcases Decidable.em (d=l34) with hc48|hc48
   ·refine tw ?_;exact hP _ ⟨b,0,rfl⟩
   refine tw ?_;exact hP _ ⟨false,11,rfl⟩
  subst hc36;refine tw ?_
  rcases AL (BA BinOp.and (CS l (Bl lo).toNat) 1) 0 with hc49|hc49
  ·refine tw ?_;exact hP _ ⟨false,13,rfl⟩
  refine tw ?_
  rcases AX m 0 with hc50|hc50
  ·refine tw ?_
   rcases AX m c with hc51|hc51
   ·refine tw ?_;exact hP _ ⟨false,14,rfl⟩
   subst hc51;refine tw ?_
   rcases AX u (-1) with hc52|hc52
   ·refine tw ?_
    rcases AX u s.ru with hc53|hc53
    ·refine tw ?_;exact hP _ ⟨false,12,rfl⟩
    subst hc53;refine tw ?_;rw[Bq _ _ A7]
    conv=>arg 1;whnf
    rw[Ad]
    conv=>arg 1;whnf
    rw[DT];conv=>arg 1;whnf
    rcases Decidable.em (d=l34) with hc54|hc54
    ·refine tw ?_;exact hP _ ⟨b,0,rfl⟩
    refine tw ?_;exact hP _ ⟨false,11,rfl⟩
   subst hc52;refine tw ?_;rw[Bq _ _ A7];refine tw ?_
   rcases Decidable.em (d=l34) with hc55|hc55
   ·refine tw ?_;exact hP _ ⟨b,0,rfl⟩
   refine tw ?_;exact hP _ ⟨false,11,rfl⟩
  subst hc50;refine tw ?_
  rcases AX u (-1) with hc56|hc56
  ·refine tw ?_
   rcases AX u s.ru with hc57|hc57
   ·refine tw ?_;exact hP _ ⟨false,12,rfl⟩
   subst hc57;refine tw ?_;rw[Bq _ _ A7];refine tw ?_
   rcases Decidable.em (d=l34) with hc58|hc58
   ·refine tw ?_;exact hP _ ⟨b,0,rfl⟩
   refine tw ?_;exact hP _ ⟨false,11,rfl⟩
  subst hc56;refine tw ?_;rw[Bq _ _ A7];refine tw ?_
  rcases Decidable.em (d=l34) with hc59|hc59
  ·refine tw ?_;exact hP _ ⟨b,0,rfl⟩
  refine tw ?_;exact hP _ ⟨false,11,rfl⟩
 refine tw ?_;obtain⟨i60,⟨h60_1,h60_2⟩,yy60⟩:=I9 s h hi;refine Aq yy60 ?_
 rcases DJ 0 i60 with hc61|hc61
 ·refine tw ?_;obtain⟨⟨x62a,x62b,x62c,x62d,x62e,x62f,x62g,x62h⟩,f62,g62⟩:=Dc hi.ixm (i:=i60) A7;simp only[Gh,GY,Gz,FZ,CZ,Df,Dh,DC] at f62;rw[g62];refine tw ?_;obtain⟨b63,yy63⟩:=Qp c;refine Aq yy63 ?_;obtain⟨z64,yy64⟩:=PQ b63 4 8;rw[yy64]
  conv=>arg 1;whnf
  try dsimp -iota -beta -eta -zeta only
  rw[drw zas];conv=>arg 1;whnf
  rw[Ad]
  conv=>arg 1;whnf
  rcases AL (BA BinOp.and x62c z64) 0 with hc65|hc65
  ·refine tw ?_;exact hP _ ⟨false,20,rfl⟩
  refine tw ?_;obtain⟨l66,h66_1,yy66⟩:=MK s h hi;refine Aq yy66 ?_
  rcases AL (↑l66.length) 0 with hc67|hc67
  ·refine tw ?_;exact hP _ ⟨false,11,rfl⟩
  refine tw ?_
  rcases AX t 0 with hc68|hc68
  ·refine tw ?_
   rcases DJ t s.vc with hc69|hc69
   ·refine tw ?_;exact hP _ ⟨false,15,rfl⟩
   refine tw ?_
   rcases AL (BA BinOp.and (CS l (Bl lo).toNat) 1) 0 with hc70|hc70
   ·refine tw ?_;exact hP _ ⟨false,13,rfl⟩
   refine tw ?_
   rcases AX m 0 with hc71|hc71
   ·refine tw ?_
    rcases AX m c with hc72|hc72
    ·refine tw ?_;exact hP _ ⟨false,14,rfl⟩
    subst hc72;refine tw ?_
    rcases AX u (-1) with hc73|hc73
    ·refine tw ?_
     rcases AX u s.ru with hc74|hc74
     ·refine tw ?_;exact hP _ ⟨false,12,rfl⟩
     subst hc74;refine tw ?_;rw[Bq _ _ A7];refine tw ?_
     rcases Decidable.em (d=l66) with hc75|hc75
     ·refine tw ?_;exact hP _ ⟨b,0,rfl⟩
     refine tw ?_;exact hP _ ⟨false,11,rfl⟩
    subst hc73;refine tw ?_;rw[Bq _ _ A7];refine tw ?_
    rcases Decidable.em (d=l66) with hc76|hc76
    ·refine tw ?_;exact hP _ ⟨b,0,rfl⟩
    refine tw ?_;exact hP _ ⟨false,11,rfl⟩
   subst hc71;refine tw ?_
   rcases AX u (-1) with hc77|hc77
   ·rw[G8 zaa]
    conv=>arg 1;whnf
    rw[Ad]
    conv=>arg 1;whnf
    rcases AX u s.ru with hc78|hc78
    ·refine tw ?_;exact hP _ ⟨false,12,rfl⟩
    subst hc78;refine tw ?_;rw[Bq _ _ A7];refine tw ?_
    rcases Decidable.em (d=l66) with hc79|hc79
    ·refine tw ?_;exact hP _ ⟨b,0,rfl⟩
    refine tw ?_;exact hP _ ⟨false,11,rfl⟩
   subst hc77;refine tw ?_;rw[Bq _ _ A7];refine tw ?_
   rcases Decidable.em (d=l66) with hc80|hc80
   ·refine tw ?_;exact hP _ ⟨b,0,rfl⟩
   refine tw ?_;exact hP _ ⟨false,11,rfl⟩
  subst hc68;refine tw ?_
  rcases AL (BA BinOp.and (CS l (Bl lo).toNat) 1) 0 with hc81|hc81
  ·refine tw ?_;exact hP _ ⟨false,13,rfl⟩
  refine tw ?_
  rcases AX m 0 with hc82|hc82
  ·refine tw ?_
   rcases AX m c with hc83|hc83
   ·refine tw ?_;exact hP _ ⟨false,14,rfl⟩
   subst hc83;refine tw ?_
   rcases AX u (-1) with hc84|hc84
   ·refine tw ?_
    rcases AX u s.ru with hc85|hc85
    ·refine tw ?_;exact hP _ ⟨false,12,rfl⟩
    subst hc85;refine tw ?_;rw[Bq _ _ A7];refine tw ?_
    rcases Decidable.em (d=l66) with hc86|hc86
    ·refine tw ?_;exact hP _ ⟨b,0,rfl⟩
    refine tw ?_;exact hP _ ⟨false,11,rfl⟩
   subst hc84;refine tw ?_;rw[Bq _ _ A7];refine tw ?_
   rcases Decidable.em (d=l66) with hc87|hc87
   ·refine tw ?_;exact hP _ ⟨b,0,rfl⟩
   refine tw ?_;exact hP _ ⟨false,11,rfl⟩
  subst hc82;refine tw ?_
  rcases AX u (-1) with hc88|hc88
  ·rw[G8 zaa]
   conv=>arg 1;whnf
   rw[Ad]
   conv=>arg 1;whnf
   rcases AX u s.ru with hc89|hc89
   ·refine tw ?_;exact hP _ ⟨false,12,rfl⟩
   subst hc89;refine tw ?_;rw[Bq _ _ A7];refine tw ?_
   rcases Decidable.em (d=l66) with hc90|hc90
   ·refine tw ?_;exact hP _ ⟨b,0,rfl⟩
   refine tw ?_;exact hP _ ⟨false,11,rfl⟩
  subst hc88;refine tw ?_;rw[Bq _ _ A7];refine tw ?_
  rcases Decidable.em (d=l66) with hc91|hc91
  ·rw[decide_eq_true zan]
   conv=>arg 1;whnf
   rw[Ad]
   conv=>arg 1;whnf
   exact hP _ ⟨b,0,rfl⟩
  rw[decide_eq_false zan]
  conv=>arg 1;whnf
  rw[Ad]
  conv=>arg 1;whnf
  exact hP _ ⟨false,11,rfl⟩
 refine tw ?_;obtain⟨l92,h92_1,yy92⟩:=MK s h hi;refine Aq yy92 ?_
 rcases AL (↑l92.length) 0 with hc93|hc93
 ·refine tw ?_;exact hP _ ⟨false,11,rfl⟩
 refine tw ?_
 rcases AX t 0 with hc94|hc94
 ·refine tw ?_
  rcases DJ t s.vc with hc95|hc95
  ·refine tw ?_;exact hP _ ⟨false,15,rfl⟩
  refine tw ?_
  rcases AL (BA BinOp.and (CS l (Bl lo).toNat) 1) 0 with hc96|hc96
  ·refine tw ?_;exact hP _ ⟨false,13,rfl⟩
  refine tw ?_
  rcases AX m 0 with hc97|hc97
  ·refine tw ?_
   rcases AX m c with hc98|hc98
   ·refine tw ?_;exact hP _ ⟨false,14,rfl⟩
   subst hc98;refine tw ?_
   rcases AX u (-1) with hc99|hc99
   ·refine tw ?_
    rcases AX u s.ru with hc100|hc100
    ·refine tw ?_;exact hP _ ⟨false,12,rfl⟩
    subst hc100;refine tw ?_;rw[Bq _ _ A7];refine tw ?_
    rcases Decidable.em (d=l92) with hc101|hc101
    ·refine tw ?_;exact hP _ ⟨b,0,rfl⟩
    refine tw ?_;exact hP _ ⟨false,11,rfl⟩
   subst hc99;refine tw ?_;rw[Bq _ _ A7];refine tw ?_
   rcases Decidable.em (d=l92) with hc102|hc102
   ·rw[decide_eq_true zan]
    conv=>arg 1;whnf
    rw[Ad]
    conv=>arg 1;whnf
    exact hP _ ⟨b,0,rfl⟩
   refine tw ?_;exact hP _ ⟨false,11,rfl⟩
  subst hc97;refine tw ?_
  rcases AX u (-1) with hc103|hc103
  ·refine tw ?_
   rcases AX u s.ru with hc104|hc104
   ·refine tw ?_;exact hP _ ⟨false,12,rfl⟩
   subst hc104;refine tw ?_;rw[Bq _ _ A7];refine tw ?_
   rcases Decidable.em (d=l92) with hc105|hc105
   ·rw[decide_eq_true zan]
    conv=>arg 1;whnf
    rw[Ad]
    conv=>arg 1;whnf
    exact hP _ ⟨b,0,rfl⟩
   rw[decide_eq_false zan]
   conv=>arg 1;whnf
   rw[Ad]
   conv=>arg 1;whnf
   exact hP _ ⟨false,11,rfl⟩
  subst hc103;refine tw ?_;rw[Bq _ _ A7];refine tw ?_
  rcases Decidable.em (d=l92) with hc106|hc106
  ·refine tw ?_;exact hP _ ⟨b,0,rfl⟩
  refine tw ?_;exact hP _ ⟨false,11,rfl⟩
 subst hc94;refine tw ?_
 rcases AL (BA BinOp.and (CS l (Bl lo).toNat) 1) 0 with hc107|hc107
 ·refine tw ?_;exact hP _ ⟨false,13,rfl⟩
 refine tw ?_
 rcases AX m 0 with hc108|hc108
 ·refine tw ?_
  rcases AX m c with hc109|hc109
  ·refine tw ?_;exact hP _ ⟨false,14,rfl⟩
  subst hc109;refine tw ?_
  rcases AX u (-1) with hc110|hc110
  ·refine tw ?_
   rcases AX u s.ru with hc111|hc111
   ·refine tw ?_;exact hP _ ⟨false,12,rfl⟩
   subst hc111;refine tw ?_;rw[Bq _ _ A7];refine tw ?_
   rcases Decidable.em (d=l92) with hc112|hc112
   ·rw[decide_eq_true zan]
    conv=>arg 1;whnf
    rw[Ad]
    conv=>arg 1;whnf
    exact hP _ ⟨b,0,rfl⟩
   rw[decide_eq_false zan]
   conv=>arg 1;whnf
   rw[Ad]
   conv=>arg 1;whnf
   exact hP _ ⟨false,11,rfl⟩
  subst hc110;refine tw ?_;rw[Bq _ _ A7];refine tw ?_
  rcases Decidable.em (d=l92) with hc113|hc113
  ·refine tw ?_;exact hP _ ⟨b,0,rfl⟩
  refine tw ?_;exact hP _ ⟨false,11,rfl⟩
 subst hc108;refine tw ?_
 rcases AX u (-1) with hc114|hc114
 ·refine tw ?_
  rcases AX u s.ru with hc115|hc115
  ·refine tw ?_;exact hP _ ⟨false,12,rfl⟩
  subst hc115;refine tw ?_;rw[Bq _ _ A7];refine tw ?_
  rcases Decidable.em (d=l92) with hc116|hc116
  ·refine tw ?_;exact hP _ ⟨b,0,rfl⟩
  refine tw ?_;exact hP _ ⟨false,11,rfl⟩
 subst hc114;refine tw ?_;rw[Bq _ _ A7];refine tw ?_
 rcases Decidable.em (d=l92) with hc117|hc117
 ·refine tw ?_;exact hP _ ⟨b,0,rfl⟩
 refine tw ?_;exact hP _ ⟨false,11,rfl⟩
theorem oP(s:MS)(lo c h:Int)(hs:List Int)(y1:Int)(y2 y3:List UInt8)(az:List (El AY))(is:List Int)(bs:List (List UInt8))(hi:Kp a k s)(hf:Few (h::hs) ((y1,y2,y3)::az) is bs)(hlo:0<=lo/\lo<=4)(hy:0<=y1/\y1<=65535):Ah E0 (.call 207 [av s,.i lo,rq c (h::hs) ((y1,y2,y3)::az) is bs] []) fun r=>∃(t:MS) (e:Int),(Kp a k t)/\r=some (.ret (.tup [av t,.i e]) []):=by
 have ham:y2.length<=1000/\y3.length<=1000:=hf.am (y1,y2,y3) List.mem_cons_self
 refine CU fun P hP=>tw ?_
 obtain⟨e0,c0_1,n0_2,d0_3,u0_4,l0_5,m0_6,t0_7,b0_8,⟨h0_9,h0_10,h0_11⟩,yy0⟩:=Iy s y1 hi A7;refine Aq yy0 ?_
 rcases AX y1 0 with hc1|hc1
 ·refine tw ?_
  rcases AX e0 0 with hc2|hc2
  ·refine tw ?_;exact hP _ ⟨s,8,A7,rfl⟩
  subst hc2
  replace h0_9:=h0_9 rfl
  refine tw ?_
  rcases AL c0_1 3 with hc3|hc3
  ·subst hc3;refine tw ?_;exact hP _ ⟨s,8,A7,rfl⟩
  refine tw ?_;obtain⟨l4,h4_1,yy4⟩:=Qj s h hi;refine Aq yy4 ?_
  rcases AL c0_1 2 with hc5|hc5
  ·subst hc5;refine tw ?_;obtain⟨b6,e6_1,yy6⟩:=A0e s lo c h hs ((y1,y2,y3)::az) is bs 2 n0_2 d0_3 u0_4 l0_5 m0_6 t0_7 b0_8 hi A7 A7 A7;refine Aq yy6 ?_
   rcases AX e6_1 0 with hc7|hc7
   ·refine tw ?_;exact hP _ ⟨s,e6_1,A7,rfl⟩
   subst hc7;rw[Cf zaa]
   conv=>arg 1;whnf
   rw[Ad]
   conv=>arg 1;whnf
   rw[DT];conv=>arg 1;whnf
   rcases bo b6 with rfl|rfl
   ·refine tw ?_;obtain⟨b9,yy9⟩:=PR s h hi;refine Aq yy9 ?_
    rcases bo b9 with rfl|rfl
    ·refine tw ?_;exact hP _ ⟨s,10,A7,rfl⟩
    refine tw ?_;rw[Bq _ _ A7];refine tw ?_;obtain⟨t11,e11_1,h11_2,yy11⟩:=Qq s h (decide (y3=l4)) hi;refine Aq yy11 ?_;exact hP _ ⟨t11,e11_1,A7,rfl⟩
   refine tw ?_;exact hP _ ⟨s,0,A7,rfl⟩
  refine tw ?_;obtain⟨b12,yy12⟩:=aI s c h hs ((y1,y2,y3)::az) is bs hi A7;rw[yy12]
  conv=>arg 1;whnf
  rw[Ad]
  conv=>arg 1;whnf
  rw[DT];conv=>arg 1;whnf
  rcases bo b12 with rfl|rfl
  ·refine tw ?_;obtain⟨b14,yy14⟩:=PR s h hi;refine Aq yy14 ?_
   rcases bo b14 with rfl|rfl
   ·refine tw ?_;exact hP _ ⟨s,10,A7,rfl⟩
   refine tw ?_;obtain⟨ns16,⟨h16_1,h16_2⟩,yy16⟩:=Xi s c (h::hs) ((y1,y2,y3)::az) is bs hi A7;refine Aq yy16 ?_;obtain⟨l17,h17_1,yy17⟩:=X8 c (h::hs) ((y1,y2,y3)::az) is bs ns16 A7 A7 A7;refine Aq yy17 ?_;obtain⟨l18,h18_1,yy18⟩:=X9 l4 l17 n0_2 y2 A7 A7 A7 A7;refine Aq yy18 ?_;rw[Bq _ _ A7];refine tw ?_;obtain⟨t19,e19_1,h19_2,yy19⟩:=Qq s h (decide (y3=l18)) hi;refine Aq yy19 ?_;exact hP _ ⟨t19,e19_1,A7,rfl⟩
  refine tw ?_;exact hP _ ⟨s,20,A7,rfl⟩
 subst hc1;refine tw ?_;obtain⟨l20,h20_1,yy20⟩:=Qj s h hi;refine Aq yy20 ?_;obtain⟨b21,yy21⟩:=aI s c h hs ((0,y2,y3)::az) is bs hi A7;refine Aq yy21 ?_
 rcases bo b21 with rfl|rfl
 ·refine tw ?_;obtain⟨b23,yy23⟩:=PR s h hi;refine Aq yy23 ?_
  rcases bo b23 with rfl|rfl
  ·refine tw ?_;exact hP _ ⟨s,10,A7,rfl⟩
  refine tw ?_;rw[Bq _ _ A7];refine tw ?_;obtain⟨t25,e25_1,h25_2,yy25⟩:=Qq s h (decide (y3=l20)) hi;refine Aq yy25 ?_;exact hP _ ⟨t25,e25_1,A7,rfl⟩
 refine tw ?_;exact hP _ ⟨s,20,A7,rfl⟩
variable (sd au:List (List UInt8))(en:List UInt8)(ac re rs ck:Int)(od:Bool)(sb:List (List (List UInt8)))(su mc:Int)(ix:List (El Gp))(l1 l2 l3 l4 l5 l6:Int)(ks:List (El J8))(st sp:Bool)(rb:List (List (List UInt8)))(ru vc:Int)(sf:Bool)(dr:Int)(ss:List (El sesT))(ob:List (El objT))(rl wl:List Int)
theorem NQ(h:Int)(hl:ss.length<=1000)(hh : -100000<=h/\h<=1099511627776):Y E0 (.call 197 [(sX sd au en ac re rs ck od sb su mc ix l1 l2 l3 l4 l5 l6 ks st sp rb ru vc sf dr ss ob rl wl),.i h] [])=some (.ret (.i (Xx h ss)) []):=by
 unfold Xx
 by_cases h0:768<=h
 ·rw[if_pos h0]
  by_cases h1:(h-768).toNat<ss.length
  ·rw[List.getElem?_eq_getElem h1]
   have hg:BO ss (h-768)=some (ss[(h-768).toNat]'h1):=DZ zaa
   generalize ss[(h-768).toNat]'h1=x at *
   obtain⟨x1,x2,x3,x4,x5,x6,x7,x8⟩:=x
   dsimp only
   by_cases h2:x1=0
   ·rw[if_pos h2];refine tq ?_;rw[hg];exact tq rfl
   ·rw[if_neg h2];refine tq ?_;rw[hg];exact tq rfl
  ·rw[List.getElem?_eq_none zaa]
   dsimp only
   exact tq rfl
 ·rw[if_neg h0];exact tq rfl
theorem jR(s:MS)(h:Int)(hi:Kp a k s)(hh : -100000<=h/\h<=1099511627776)(hz:0<=Xx h s.ss):Ah E0 (.call 145 [av s,.i h] []) fun r=>∃(c:Int) (n d:List UInt8) (u l m t:Int) (b:Bool),(0<=h-768/\h-768<3/\n.length<=32/\d.length<=32)/\r=some (.ret (.tup [seA c n d u l m t b,.i 0]) []):=by
 have hl:=hi.ssl
 have hq:=aH hz
 rw[hl] at hq
 refine CU fun P hP=>tw ?_
 rw[NQ (hl:=A7) (hh:=A7) ..];refine tw ?_;obtain⟨⟨x0a,x0b,x0c,x0d,x0e,x0f,x0g,x0h⟩,f0,g0⟩:=Dc hi.ssm (i:=Xx h s.ss) A7;simp only[Gh,GY,Gz,FZ,CZ,Df,Dh,DC] at f0;rw[g0];refine tw ?_;exact hP _ ⟨x0a,x0b,x0c,x0d,x0e,x0f,x0g,x0h,A7,rfl⟩
theorem jS(h:Int)(hl:ss.length<=1000)(hh : -100000<=h/\h<=1099511627776)(hz:Xx h ss<0):Y E0 (.call 145 [(sX sd au en ac re rs ck od sb su mc ix l1 l2 l3 l4 l5 l6 ks st sp rb ru vc sf dr ss ob rl wl),.i h] [])=some (.ret (.tup [seA 0 [] [] 0 0 0 0 false,.i 8]) []):=by
 refine tq ?_;rw[NQ (hl:=A7) (hh:=A7) ..];exact tq rfl
theorem bD(s:MS)(h:Int)(hi:Kp a k s)(hh : -100000<=h/\h<=1099511627776)(hz:0<=Xx h s.ss):Ah E0 (.call 135 [av s,.i h] []) fun r=>∃ t:MS,(Kp a k t/\t.ob=s.ob/\t.sd=s.sd/\t.au=s.au)/\r=some (.ret (.tup [av t,.i 0]) []):=by
 have hl:=hi.ssl
 have hq:=aH hz
 rw[hl] at hq
 refine CU fun P hP=>tw ?_
 rw[NQ (hl:=A7) (hh:=A7) ..];refine tw ?_
 obtain⟨t0,⟨h0_1,h0_2,h0_3,h0_4⟩,yy0⟩:=EP s (Xx h s.ss) 0 [] [] 0 0 0 0 false hi A7 (by(simp only[Dh,CZ,Df,DC]<;>(simp only[A8,Aj,Ae,Af,Aa,BP,AB,AC,AU,AO,Ap,LL] at *<;>omega)))
 refine Aq yy0 ?_;exact hP _ ⟨t0,clo,rfl⟩
theorem jT(s:MS)(c:Int)(hs:List Int)(y1:Int)(y2 y3:List UInt8)(az:List (El AY))(is:List Int)(bs:List (List UInt8))(hi:Kp a k s)(hk:k<=900)(hf:Few hs ((y1,y2,y3)::az) is bs)(hy:0<=y1/\y1<=65535):Ah E0 (.call 209 [av s,rq c hs ((y1,y2,y3)::az) is bs] []) fun r=>∃(t:MS) (ns:List (List UInt8)),(Kp a (k+1) t)/\r=some (.ret (.tup [av t,.sl (.sl .u8) ns]) []):=by
 have ham:y2.length<=1000/\y3.length<=1000:=hf.am (y1,y2,y3) List.mem_cons_self
 have hsl:=hi.ssl
 by_cases hz:0<=Xx y1 s.ss
 ·refine CU fun P hP=>tw ?_
  obtain⟨c',n',d',u',l',m',t',b',hx',e'⟩:=jR s y1 hi zaa hz;rw[e'];refine tw ?_
  rcases AL c' 1 with hc0|hc0
  ·subst hc0;refine tw ?_;obtain⟨t1,b1_1,⟨h1_2,h1_3,h1_4⟩,yy1⟩:=VM s 16 hi A7 A7;refine Aq yy1 ?_;obtain⟨t2,⟨h2_1,h2_2,h2_3,h2_4⟩,yy2⟩:=EP t1 (y1-768) 1 b1_1 d' u' l' m' t' b' h1_2 (by(rw[Kp.ssl zav];omega)) zaw
   refine Aq yy2 ?_;exact hP _ ⟨t2,[b1_1],A7,rfl⟩
  refine tw ?_
  rcases AL c' 2 with hc3|hc3
  ·subst hc3;refine tw ?_;obtain⟨q,hq,e''⟩:=bD s y1 hi zaa hz;rw[e''];refine tw ?_;refine hP _ ⟨q,[],?_,rfl⟩;exact hq.1.up zau
  refine tw ?_;exact hP _ ⟨s,[],clo,rfl⟩
 ·refine CU fun P hP=>tw ?_
  rw[jS _ _ _ _ _ _ _ _ _ _ _ _ _ _ _ _ _ _ _ _ _ _ _ _ _ _ _ _ _ _ _ zaa zaa zaa];refine tw ?_
  rcases AL y1 0 with hc0|hc0
  ·subst hc0;refine tw ?_;exact hP _ ⟨s,[],clo,rfl⟩
  refine tw ?_;exact hP _ ⟨s,[],clo,rfl⟩
end
end Go.Proofs.YtnhgnfdbdflhcaaGreatDoor
