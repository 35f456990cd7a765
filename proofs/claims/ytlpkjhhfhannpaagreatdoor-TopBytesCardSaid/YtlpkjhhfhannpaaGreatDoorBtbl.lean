/- Own texts of this claim: contracts of functions. -/
import Derived.Test.YtlpkjhhfhannpaaGreatDoorBtau
import Derived.Test.YtlpkjhhfhannpaaGreatDoorBtbc
set_option linter.all false
set_option maxHeartbeats 40000000
set_option maxRecDepth 100000
namespace Go.Proofs.YtlpkjhhfhannpaaGreatDoor
open Go Go.Ax Go.Eng
attribute [local irreducible] CS Cj CP CW CQ BC Cm ED ES Dx EG CJ Bi Ce CX and' Cf CU BL Au BI BP BR Ag Ai AY Ae D5 EJ D6 DX Cb BZ BQ BM BO BJ AZ BK Aj Ak Ap D7 BB CV BU BF CO D8 Cc fits D9 Ci AC AQ Ah
variable (b:List (List UInt8))(u:Int)(nn:List UInt8)
theorem A5o(k z:Int):∃ r:Bool,(r=true->1<=z/\z<=128/\(k=3->z=8))/\Y E0 (.call 318 [.i k,.i z] [])=some (.ret (.b r) []):=by
 by_cases h1:k=1
 ·subst h1
  by_cases h2:1<=z/\z<=128
  ·refine⟨true,fun _=>⟨h2.1,h2.2,fun h=>absurd h zaj⟩,?_⟩
   refine tq ?_
   with_reducible rfl
  ·refine⟨false,fun h=>absurd h zaj,?_⟩
   refine tq ?_
   rcases Gw 1 z with hc0|hc0
   ·
    rw[Fb zaa]
    conv=>lhs;whnf
    exact zas
   exact tq rfl
 by_cases h2:k=2\/k=3
 ·refine⟨ED z 8,fun h=>by have:=PY h;omega,?_⟩
  rcases h2 with rfl|rfl
  ·refine tq ?_
   with_reducible rfl
  ·refine tq ?_
   with_reducible rfl
 by_cases h3:k=4
 ·subst h3
  refine⟨ED z 32,fun h=>by have:=PY h;omega,?_⟩
  refine tq ?_
  with_reducible rfl
 ·refine⟨false,fun h=>absurd h zaj,?_⟩
  refine tq ?_
  with_reducible rfl
theorem AAt(n k a z:Int)(au po:List UInt8)(hu:au.length<=1024)(hp:po.length<=1024):EC E0 (.call 264 [.i n,.i k,.i a,.i z,.sl .u8 au,.sl .u8 po] []) fun r=>(∃ e:Int,(0<e/\e<=255)/\r=some (.ret (.tup [.agg [.i 0,.i 0,.i 0,.i 0,.sl .u8 [],.sl .u8 [],.b false,.sl .u8 []],.i e]) []))\/(0<=n/\n<=255/\au.length<=32/\po.length<=32/\1<=z/\z<=128/\(k=3->z=8))/\r=some (.ret (.tup [.agg [.i n,.i k,.i a,.i z,.sl .u8 po,.sl .u8 au,.b false,.sl .u8 (BU z 0)],.i 0]) []):=by
 obtain⟨r,hr,ks⟩:=A5o k z
 refine G5 fun P hP=>?_
 refine tw ?_
 rcases Bc n 0 with hc0|hc0
 ·
  refine tw ?_
  exact hP _ (Or.inl ⟨1,AA,rfl⟩)
 refine tw ?_
 rcases Bc 255 n with hc1|hc1
 ·
  refine tw ?_
  exact hP _ (Or.inl ⟨1,AA,rfl⟩)
 refine tw ?_
 rw[ks]
 refine tw ?_
 rcases bo r with rfl|rfl
 ·
  replace hr:=hr rfl
  refine tw ?_
  rcases CE (↑po.length) 0 with hc3|hc3
  ·
   refine tw ?_
   rcases CE (↑po.length) 32 with hc4|hc4
   ·
    refine tw ?_
    exact hP _ (Or.inl ⟨1,AA,rfl⟩)
   refine tw ?_
   rcases Bc 32 (↑au.length) with hc5|hc5
   ·
    refine tw ?_
    exact hP _ (Or.inl ⟨4,AA,rfl⟩)
   refine tw ?_
   rcases Bc a 0 with hc6|hc6
   ·
    refine tw ?_
    exact hP _ (Or.inl ⟨20,AA,rfl⟩)
   refine tw ?_
   rcases Bc 127 a with hc7|hc7
   ·
    refine tw ?_
    exact hP _ (Or.inl ⟨20,AA,rfl⟩)
   refine tw ?_
   rcases Ar (BC BinOp.and a 21) 0 with hc8|hc8
   ·
    refine tw ?_
    exact hP _ (Or.inl ⟨20,AA,rfl⟩)
   refine tw ?_
   rcases Ar (BC BinOp.and a 42) 0 with hc9|hc9
   ·
    refine tw ?_
    exact hP _ (Or.inl ⟨20,AA,rfl⟩)
   refine tw ?_
   rcases CE (BC BinOp.and a 12) 0 with hc10|hc10
   ·
    refine tw ?_
    exact hP _ (Or.inr ⟨AA,rfl⟩)
   rw[FH zaa]
   conv=>arg 1;whnf
   rw[AL]
   conv=>arg 1;whnf
   rw[AL]
   conv=>arg 1;whnf
   rw[LM zaa]
   conv=>arg 1;whnf
   rw[Dz zaa]
   conv=>arg 1;whnf
   try dsimp -iota -beta -eta -zeta only
   exact hP _ (Or.inr ⟨AA,rfl⟩)
  refine tw ?_
  rcases Bc 32 (↑au.length) with hc11|hc11
  ·
   refine tw ?_
   exact hP _ (Or.inl ⟨4,AA,rfl⟩)
  refine tw ?_
  rcases Bc a 0 with hc12|hc12
  ·
   refine tw ?_
   exact hP _ (Or.inl ⟨20,AA,rfl⟩)
  refine tw ?_
  rcases Bc 127 a with hc13|hc13
  ·
   refine tw ?_
   exact hP _ (Or.inl ⟨20,AA,rfl⟩)
  refine tw ?_
  rcases Ar (BC BinOp.and a 21) 0 with hc14|hc14
  ·
   refine tw ?_
   exact hP _ (Or.inl ⟨20,AA,rfl⟩)
  refine tw ?_
  rcases Ar (BC BinOp.and a 42) 0 with hc15|hc15
  ·
   refine tw ?_
   exact hP _ (Or.inl ⟨20,AA,rfl⟩)
  refine tw ?_
  rcases CE (BC BinOp.and a 12) 0 with hc16|hc16
  ·
   rw[Ih zaa]
   conv=>arg 1;whnf
   rw[Dz zah]
   conv=>arg 1;whnf
   rw[AL]
   conv=>arg 1;whnf
   try dsimp -iota -beta -eta -zeta only
   exact hP _ (Or.inl ⟨20,AA,rfl⟩)
  refine tw ?_
  exact hP _ (Or.inr ⟨AA,rfl⟩)
 refine tw ?_
 exact hP _ (Or.inl ⟨1,AA,rfl⟩)
theorem A5p(f:Nat)(n k a z:Int)(po au dd:List UInt8):Y E0 (.loop 319 0 1 1 [(0,.sl Bf []),(1,.fn f [] [.pa 0 0]),(7,.i 0),(8,.i 0)] [(0,some (.var [.i n,.i k,.i a,.i z,.sl .u8 po,.sl .u8 au,.b false,.sl .u8 dd]))])=some (.fin (.exit 0) 1 [] [(0,some (.var [.i n,.i k,.i a,.i z,.sl .u8 po,.sl .u8 au,.b false,.sl .u8 dd]))]):=by
 rw[AL];conv=>lhs;whnf
 refine tq ?_
 with_reducible rfl
theorem AAu(f:Nat)(n k a z:Int)(po au dd:List UInt8):Y E0 (.call 319 [.sl Bf [],.fn f [] [.pa 0 0]] [.var [.i n,.i k,.i a,.i z,.sl .u8 po,.sl .u8 au,.b false,.sl .u8 dd]])=some (.ret (.i (-1)) [some (.var [.i n,.i k,.i a,.i z,.sl .u8 po,.sl .u8 au,.b false,.sl .u8 dd])]):=by
 have e:Ak ([]:List (El Bf))=0:=zaV
 refine tq ?_
 rw[e,A5p]
 exact tq rfl
theorem AAv(n k a z:Int)(po au dd:List UInt8):Y E0 (.call 265 [.sl Bf [],.fn 266 [] [.pa 0 0]] [.var [.i n,.i k,.i a,.i z,.sl .u8 po,.sl .u8 au,.b false,.sl .u8 dd]])=some (.ret (.b false) [some (.var [.i n,.i k,.i a,.i z,.sl .u8 po,.sl .u8 au,.b false,.sl .u8 dd])]):=by
 have k:=AAu 266 n k a z po au dd
 refine tq ?_
 rw[k]
 conv=>lhs;whnf
 exact zas
theorem AAw(h n k a z e:Int)(x y:List UInt8)(he:0<e/\e<=255)(kn:Y E0 (.call 264 [.i n,.i k,.i a,.i z,.sl .u8 x,.sl .u8 y] [])=some (.ret (.tup [.agg [.i 0,.i 0,.i 0,.i 0,.sl .u8 [],.sl .u8 [],.b false,.sl .u8 []],.i e]) [])):Y E0 (.call 203 [tb b u,rq 21 [h] [(0,nn,[])] [n,k,a,z] [x,y]] [])=some (.ret (.tup [tb b u,Hr e [] [] []]) []):=by
 have g3:Ap ([n,k,a,z]:List Int) 3=some z:=zbv
 have kf:=Eu (Ad zen) [[],[],[],[]] (BG zen BN [] 32) 2 1 0 0 false 0 0 [] 0 5 100 0 0 1000 [] true false [[],b] u 0 true 0 noSs noOb [] [] e
 refine tq ?_
 rw[g3]
 refine tq ?_
 rw[kn]
 refine tq ?_
 rw[kf]
 exact tq rfl
theorem AAx(h n k a z:Int)(x y:List UInt8)(kn:Y E0 (.call 264 [.i n,.i k,.i a,.i z,.sl .u8 x,.sl .u8 y] [])=some (.ret (.tup [.agg [.i n,.i k,.i a,.i z,.sl .u8 y,.sl .u8 x,.b false,.sl .u8 (BU z 0)],.i 0]) [])):Y E0 (.call 203 [tb b u,rq 21 [h] [(0,nn,[])] [n,k,a,z] [x,y]] [])=some (.ret (.tup [(sX (Ad zen) [[],[],[],[]] (BG zen BN [] 32) 2 1 0 0 false [] 0 0 [(n,k,a,z,y,x,false,BU z 0)] 0 5 100 0 0 1000 [] true false [[],b] u 0 true 0 noSs noOb [] []),Hr 0 [] [] []]) []):=by
 have g3:Ap ([n,k,a,z]:List Int) 3=some z:=zbv
 have e0:Ak ([]:List (El Bf))=0:=zaV
 have kc:=AAv n k a z y x (BU z 0)
 have ea:BF ([]:List (El Bf)) [(n,k,a,z,y,x,false,BU z 0)]=[(n,k,a,z,y,x,false,BU z 0)]:=by rw[Ac];rfl
 refine tq ?_
 rw[g3]
 refine tq ?_
 rw[kn]
 refine tq ?_
 rw[kc]
 conv=>lhs;whnf
 rw[e0]
 refine tq ?_
 rw[rW]
 refine tq ?_
 simp only[NO];try with_reducible rfl
theorem ACp(h n k a z:Int)(x y:List UInt8)(hx:x.length<=1024)(hy:y.length<=1024):Vk (.call 140 [tb b u,rq 21 [h] [(0,nn,[])] [n,k,a,z] [x,y]] []):=by
 rcases AAt n k a z x y hx hy with⟨e,he,hr⟩|⟨hb,hr⟩
 ·have kd:=AAw b u nn h n k a z e x y he hr
  refine rP (b:=b) (u:=u) (e:=e) he ?_
  refine tq ?_
  rw[kd]
  exact tq rfl
 ·have kd:=AAx b u nn h n k a z x y hr
  refine⟨{Wx b u with ix:=[(n,k,a,z,y,x,false,BU z 0)]},0,[],[],rfl,Um _ rfl ?_,jS,?_⟩
  ·have o:=JF 1 zaj
   have hl:(BU z (0:UInt8)).length=z.toNat:=by rw[Ea,List.length_replicate]
   exact⟨o.sl,o.al,o.sm,o.am,o.en,o.ac,o.re,o.rs,o.ck,o.su,o.mc,by simp,by intro w hw;simp at hw;subst hw;unfold Gv Jf;dsimp only;refine⟨hb.1,hb.2.1,hb.2.2.2.1,hb.2.2.1,by omega,?_⟩;by_cases h3:k=3;exact .inr (by have:=hb.2.2.2.2.2.2 h3;omega);exact .inl h3,o.lk,o.kl,o.km⟩
  ·refine tq ?_
   rw[kd]
   exact tq rfl
theorem A5q(n:Int):Y E0 (.loop 319 0 1 1 [(0,.sl Bf []),(1,.fn 269 [] [.pa 0 0]),(7,.i 0),(8,.i 0)] [(0,some (.var [.i n]))])=some (.fin (.exit 0) 1 [] [(0,some (.var [.i n]))]):=by
 rw[AL];conv=>lhs;whnf
 refine tq ?_
 with_reducible rfl
theorem AAy(n:Int):Y E0 (.call 319 [.sl Bf [],.fn 269 [] [.pa 0 0]] [.var [.i n]])=some (.ret (.i (-1)) [some (.var [.i n])]):=by
 have e:Ak ([]:List (El Bf))=0:=zaV
 refine tq ?_
 rw[e,A5q]
 exact tq rfl
theorem AAz(n:Int):Y E0 (.call 268 [.nm 0,.fn 269 [] [.pa 1 0]] [.row 152 Bf [],.var [.i n]])=some (.ret (.nm 0) [some (.row 152 Bf []),some (.var [.i n])]):=by
 have k:=AAy n
 refine tq ?_
 rw[k]
 exact tq rfl
theorem AB0(n:Int):Y E0 (.call 204 [tb b u,.i n] [])=some (.ret (.tup [tb b u,Hr 7 [] [] []]) []):=by
 have e0:Ak ([]:List (El Bf))=0:=zaV
 have k:=AAz n
 have kf:=Eu (Ad zen) [[],[],[],[]] (BG zen BN [] 32) 2 1 0 0 false 0 0 [] 0 5 100 0 0 1000 [] true false [[],b] u 0 true 0 noSs noOb [] [] 7
 refine tq ?_
 rw[rW]
 refine tq ?_
 rw[k]
 conv=>lhs;whnf
 rw[e0]
 refine tq ?_
 rw[kf]
 exact tq rfl
theorem ACq(h n:Int):Vk (.call 140 [tb b u,rq 22 [h] [(0,nn,[])] [n] []] []):=by
 refine rP (b:=b) (u:=u) (e:=7) zaj ?_
 have k:=AB0 b u n
 refine tq ?_
 rw[k]
 exact tq rfl
end Go.Proofs.YtlpkjhhfhannpaaGreatDoor
