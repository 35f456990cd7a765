/-
  Own texts, laid together for this claim: contracts of functions of the program and its references, used by the statements of this seat.
-/
import Derived.Test.YtanagnimhaemgaaGreatDoorQtac
import Derived.Test.YtanagnimhaemgaaGreatDoorQtaf
import Derived.Test.YtanagnimhaemgaaGreatDoorQtag
import Derived.Test.YtanagnimhaemgaaGreatDoorQtai
import Derived.Test.YtanagnimhaemgaaGreatDoorQtaj
import Derived.Test.YtanagnimhaemgaaGreatDoorQtak
import Derived.Test.YtanagnimhaemgaaGreatDoorQtan
import Derived.Test.YtanagnimhaemgaaGreatDoorQtas
import Derived.Test.YtanagnimhaemgaaGreatDoorQtau
import Derived.Test.YtanagnimhaemgaaGreatDoorQtaw
set_option linter.all false
set_option maxHeartbeats 40000000
set_option maxRecDepth 100000
namespace Go.Ax
open Go Go.Eng
theorem kv0:Yf 0=127894861434642472089084290248086429676:=zaA
theorem kv1:Yf 1=126961214862514514084021921222390649067:=zaA
theorem kv2:Yf 2=59191253802221003653174808664126317634:=zaA
theorem kv3:Yf 3=41479665218320661572137449806739838059:=zaA
theorem kv4:Yf 4=309038992622387843122277988787277161252:=zaA
theorem kv5:Yf 5=22259179008044760494150007105872581503:=zaA
theorem kv6:Yf 6=271696597467034403884951769946370250051:=zaA
theorem kv7:Yf 7=122655956217476941223774156934417862834:=zaA
def A99:List Nat:=[127894861434642472089084290248086429676,126961214862514514084021921222390649067,59191253802221003653174808664126317634,41479665218320661572137449806739838059,309038992622387843122277988787277161252,22259179008044760494150007105872581503,271696597467034403884951769946370250051,122655956217476941223774156934417862834]
theorem A7c(i:Nat)(hi:i<8):Yf i=A99.getD i 0:=by
 match i,hi with
 | 0,_=>exact kv0
 | 1,_=>exact kv1
 | 2,_=>exact kv2
 | 3,_=>exact kv3
 | 4,_=>exact kv4
 | 5,_=>exact kv5
 | 6,_=>exact kv6
 | 7,_=>exact kv7
theorem AAf(i j:Nat)(hi:i<8)(hj:j<8)(h:qU i=qU j):i=j:=by
 obtain⟨v,a1,a2⟩:=A7b i zaa
 obtain⟨w,b1,b2⟩:=A7b j zaa
 rw[a2,b2] at h
 injection h with _ h
 subst h
 rw[<-b1,A7c i hi,A7c j hj] at a1
 have:∀ i j:Fin 8,A99.getD i.val 0=A99.getD j.val 0->i=j:=zad
 exact congrArg Fin.val (this ⟨i,hi⟩ ⟨j,hj⟩ a1)
end Go.Ax
namespace Go.Proofs.YtanagnimhaemgaaGreatDoor
open Go Go.Ax Go.Eng
section
attribute [local irreducible] Bl CQ CS Bo Bg Ar CU Dw EN Dy EC Bf BU Bv Bz and' C9 CB BK Au BA BL BN Aa Ad AP AZ CV Dq CW DI CE BP BM BF BG BB AU BC Ae Ap Ai CX BH Bh Ba BO CG CY CJ fits CZ CO A8 AA Ac
attribute [local irreducible] Aw Di DC nameB EL EJ Ag Ei Eo FU FD Fb BQ Iu ES G6 Ef FN
theorem A8u{α:Type}(x:α)(l:List α):CJ (x::l)=false:=by rw[A1J];rfl
theorem A6Z(x1 x4 x5 x6 x7:Int)(x2 x3:List UInt8)(x8:Bool)(l:List (El sesT))(hl:l.length<=1000):Y E0 (.call 208 [.sl sesT ((x1,x2,x3,x4,x5,x6,x7,x8)::l)] [])=some (.ret (.nm 0) [some (.row 256 sesT ((x1,x2,x3,x4,x5,x6,x7,x8)::l))]):=by
 refine tq ?_
 rw[A8u]
 conv=>lhs;whnf
 refine tq ?_
 simp only[NO];try with_reducible rfl
variable (sd au:List (List UInt8))(en:List UInt8)(ac re rs ck:Int)(od:Bool)(sb:List (List (List UInt8)))(su mc:Int)(ix:List (El AL))(l1 l2 l3 l4 l5 l6:Int)(ks:List (El BR))(st sp:Bool)(rb:List (List (List UInt8)))(ru vc:Int)(sf:Bool)(dr:Int)(ss:List (El sesT))(ob:List (El objT))(rl wl:List Int)
theorem tY(h:Int)(hl:ss.length<=1000)(hh : -100000<=h/\h<=1099511627776)(hz:ssI h ss<0):Y E0 (.call 234 [(sX sd au en ac re rs ck od sb su mc ix l1 l2 l3 l4 l5 l6 ks st sp rb ru vc sf dr ss ob rl wl),.i h] [])=some (.ret (.tup [.i 0,zH 0 [] [] 0 0 0 0 false,.b false]) []):=by
 unfold ssI at hz
 by_cases h0:768<=h
 ·rw[if_pos h0] at hz
  by_cases h1:(h-768).toNat<ss.length
  ·rw[List.getElem?_eq_getElem h1] at hz
   have hg:Ai ss (h-768)=some (ss[(h-768).toNat]'h1):=D8 zaa
   generalize ss[(h-768).toNat]'h1=x at *
   obtain⟨x1,x2,x3,x4,x5,x6,x7,x8⟩:=x
   dsimp only at hz
   by_cases h2:x1=0
   ·refine tq ?_
    rw[hg]
    conv=>lhs;whnf
    refine tq ?_
    with_reducible rfl
   ·rw[if_neg h2] at hz
    exfalso;omega
  ·refine tq ?_
   with_reducible rfl
 ·refine tq ?_
  with_reducible rfl
theorem Rn(h:Int)(x1 x4 x5 x6 x7:Int)(x2 x3:List UInt8)(x8:Bool)(hl:ss.length<=1000)(hh:0<=h-768/\h-768<ss.length)(hg:Ai ss (h-768)=some (x1,x2,x3,x4,x5,x6,x7,x8))(hz:x1≠0):Y E0 (.call 234 [(sX sd au en ac re rs ck od sb su mc ix l1 l2 l3 l4 l5 l6 ks st sp rb ru vc sf dr ss ob rl wl),.i h] [])=some (.ret (.tup [.i (h-768),zH x1 x2 x3 x4 x5 x6 x7 x8,.b true]) []):=by
 refine tq ?_
 rw[hg]
 conv=>lhs;whnf
 refine tq ?_
 rw[hg]
 conv=>lhs;whnf
 refine tq ?_
 with_reducible rfl
theorem fK(k:Int)(y1 y4 y5 y6 y7:Int)(y2 y3:List UInt8)(y8:Bool)(hl:ss.length<=1000)(hk:0<=k/\k<ss.length):Y E0 (.call 276 [(sX sd au en ac re rs ck od sb su mc ix l1 l2 l3 l4 l5 l6 ks st sp rb ru vc sf dr ss ob rl wl),.i k,zH y1 y2 y3 y4 y5 y6 y7 y8] [])=some (.ret ((sX sd au en ac re rs ck od sb su mc ix l1 l2 l3 l4 l5 l6 ks st sp rb ru vc sf dr (BH ss k (y1,y2,y3,y4,y5,y6,y7,y8)) ob rl wl)) []):=by
 obtain⟨⟨x1,x2,x3,x4,x5,x6,x7,x8⟩,l,rfl⟩:∃ x l,ss=x::l:=by cases ss with|nil=>simp at hk;omega|cons x l=>exact⟨x,l,rfl⟩
 rw[List.length_cons] at hl
 refine tq ?_
 rw[A6Z _ _ _ _ _ _ _ _ _ zaa]
 conv=>lhs;whnf
 rw[GL zaa]
 conv=>lhs;whnf
 rw[D8 zaa]
 conv=>lhs;whnf
theorem nY(h:Int)(hl:ss.length<=1000)(hh : -100000<=h/\h<=1099511627776)(hz:ssI h ss<0):Y E0 (.call 209 [(sX sd au en ac re rs ck od sb su mc ix l1 l2 l3 l4 l5 l6 ks st sp rb ru vc sf dr ss ob rl wl),.i h] [])=some (.ret (.tup [.agg [.sl (.sl .u8) [],.sl (.sl .u8) [],.sl .u8 [],.i 0,.i 0,.i 0,.i 0,.b false,.sl (.sl (.sl .u8)) [],.i 0,.i 0,.sl AL [],.i 0,.i 0,.i 0,.i 0,.i 0,.i 0,.sl BR [],.b false,.b false,.sl (.sl (.sl .u8)) [],.i 0,.i 0,.b false,.i 0,.sl sesT [],.sl objT [],.sl .i64 [],.sl .i64 []],.i 8]) []):=by
 refine tq ?_
 rw[tY _ _ _ _ _ _ _ _ _ _ _ _ _ _ _ _ _ _ _ _ _ _ _ _ _ _ _ _ _ _ _ hl hh hz]
 exact tq rfl
theorem nZ(h:Int)(x1 x4 x5 x6 x7:Int)(x2 x3:List UInt8)(x8:Bool)(hl:ss.length<=1000)(hh:0<=h-768/\h-768<ss.length)(hg:Ai ss (h-768)=some (x1,x2,x3,x4,x5,x6,x7,x8))(hz:x1≠0):Y E0 (.call 209 [(sX sd au en ac re rs ck od sb su mc ix l1 l2 l3 l4 l5 l6 ks st sp rb ru vc sf dr ss ob rl wl),.i h] [])=some (.ret (.tup [(sX sd au en ac re rs ck od sb su mc ix l1 l2 l3 l4 l5 l6 ks st sp rb ru vc sf dr (BH ss (h-768) A3B) ob rl wl),.i 0]) []):=by
 refine tq ?_
 rw[Rn _ _ _ _ _ _ _ _ _ _ _ _ _ _ _ _ _ _ _ _ _ _ _ _ _ _ _ _ _ _ _ _ _ _ _ _ _ _ _ hl hh hg hz]
 refine tq ?_
 rw[fK _ _ _ _ _ _ _ _ _ _ _ _ _ _ _ _ _ _ _ _ _ _ _ _ _ _ _ _ _ _ _ _ _ _ _ _ _ _ _ hl hh]
 refine tq ?_
 rfl
theorem ng(c h:Int)(hs:List Int)(az:List (El AQ))(is:List Int)(bs:List (List UInt8))(p1 p2 p3:Int)(p4 p5 s1 s2 s3:List UInt8)(hr:Int)(hl:ss.length<=1000)(hol:ob.length<=1000)(his:is.length<=100)(hh : -100000<=h/\h<=1099511627776)(hz:ssI h ss<0)(hx:En ob h=some ((p1,p2,p3,p4,p5),(s1,s2,s3),hr))(hk:0<=h-512/\h-512<ob.length):Y E0 (.call 188 [(sX sd au en ac re rs ck od sb su mc ix l1 l2 l3 l4 l5 l6 ks st sp rb ru vc sf dr ss ob rl wl),rq c hs az (h::is) bs] [])=some (.ret (.tup [(sX sd au en ac re rs ck od sb su mc ix l1 l2 l3 l4 l5 l6 ks st sp rb ru vc sf dr ss (BH ob (h-512) ((0,0,0,[],[]),([],[],[]),0)) rl wl),rp 0 [] [] []]) []):=by
 refine tq ?_
 rw[YM (hl:=Aq) ..]
 refine tq ?_
 rw[nY _ _ _ _ _ _ _ _ _ _ _ _ _ _ _ _ _ _ _ _ _ _ _ _ _ _ _ _ _ _ _ hl hh hz]
 refine tq ?_
 rw[JR _ _ _ _ _ _ _ _ _ _ _ _ _ _ _ _ _ _ _ _ _ _ _ _ _ _ _ _ _ _ _ _ _ _ _ _ _ _ _ _ hol hx]
 refine tq ?_
 rw[A2U _ Aq]
 conv=>lhs;whnf
 rw[DU zaa]
 rw[GL zaa]
 conv=>lhs;whnf
 rw[D8 zaa]
 conv=>lhs;whnf
end
section
attribute [local irreducible] Bl CQ CS Bo Bg Ar CU Dw EN Dy EC Bf BU Bv Bz and' C9 CB BK Au BA BL BN Aa Ad AP AZ CV Dq CW DI CE BP BM BF BG BB AU BC Ae Ap Ai CX BH Bh Ba BO CG CY CJ fits CZ CO A8 AA Ac
theorem aQ(h:Int)(hh:0<=h/\h<=3)(ix:List (El AL))(hl:ix.length<=10)(hx:∀ x∈ix,NQ x):∀(k j:Nat),j+k=ix.length ->
  Y E0 (.loop 183 0 0 0 [(1,.i h),(10,.sl AL ix),(11,.i (ix.length:Int)),(12,.i (j:Int))] [])=some (.fin (.exit 0) 0 [] [])
 | 0,j,hj=>by
  obtain rfl:j=ix.length:=zaa
  rw[AO];conv=>lhs;whnf
  refine tq ?_
  with_reducible rfl
 | k+1,j,hj=>by
  obtain⟨x,hm,hg⟩:=Gp (l:=ix) (i:=(j:Int)) zaa
  have ho:=hx x hm
  obtain⟨x1,x2,x3,x4,x5,x6,x7,x8⟩:=x
  have h1:(0:Int)<=(x1:Int):=ho.1
  have hne:h-256≠(x1:Int):=zaa
  have ih:=aQ h hh ix hl hx k (j+1) zaa
  rw[show((j+1:Nat):Int)=(j:Int)+1 from by omega] at ih
  rw[AO];conv=>lhs;whnf
  refine to ?_
  rw[hg]
  conv=>lhs;whnf
  try dsimp -iota -beta -eta -zeta only
  rw[DU zaa]
  rw[Jc hne]
  refine tq ?_
  exact ih
theorem aS(sd:List (List UInt8))(au:List (List UInt8))(en:List UInt8)(ac:Int)(re:Int)(rs:Int)(ck:Int)(od:Bool)(su:Int)(mc:Int)(ix:List (El AL))(l1:Int)(l2:Int)(l3:Int)(l4:Int)(l5:Int)(l6:Int)(ks:List (El BR))(st:Bool)(sp:Bool)(rb:List (List (List UInt8)))(ru:Int)(vc:Int)(sf:Bool)(dr:Int)(ss:List (El sesT))(ob:List (El objT))(rl:List Int)(wl:List Int)(h:Int)(hh:0<=h/\h<=3)(hl:ix.length<=10)(hx:∀ x∈ix,NQ x):Y E0 (.call 183 [.agg [.sl (.sl .u8) sd,.sl (.sl .u8) au,.sl .u8 en,.i ac,.i re,.i rs,.i ck,.b od,.sl (.sl (.sl .u8)) [],.i su,.i mc,.sl AL ix,.i l1,.i l2,.i l3,.i l4,.i l5,.i l6,.sl BR ks,.b st,.b sp,.sl (.sl (.sl .u8)) rb,.i ru,.i vc,.b sf,.i dr,.sl sesT ss,.sl objT ob,.sl .i64 rl,.sl .i64 wl],.i h] [])=some (.ret (.tup [.i 0,.i 7]) []):=by
 have l0:=aQ h hh ix hl hx ix.length 0 zaa
 rw[show((0:Nat):Int)=0 from rfl,<-AC] at l0
 refine tq ?_
 rw[l0]
 exact tq rfl
theorem Ro(sd:List (List UInt8))(au:List (List UInt8))(en:List UInt8)(ac:Int)(re:Int)(rs:Int)(ck:Int)(od:Bool)(su:Int)(mc:Int)(ix:List (El AL))(l1:Int)(l2:Int)(l3:Int)(l4:Int)(l5:Int)(l6:Int)(ks:List (El BR))(st:Bool)(sp:Bool)(rb:List (List (List UInt8)))(ru:Int)(vc:Int)(sf:Bool)(dr:Int)(ss:List (El sesT))(ob:List (El objT))(rl:List Int)(wl:List Int)(h:Int)(v:List UInt8)(hh:0<=h/\h<=3)(hl:ix.length<=10)(hx:∀ x∈ix,NQ x)(ho:ob.length<=1000)(ha:au.length=4)(hv:Ai au h=some v):Y E0 (.call 216 [.agg [.sl (.sl .u8) sd,.sl (.sl .u8) au,.sl .u8 en,.i ac,.i re,.i rs,.i ck,.b od,.sl (.sl (.sl .u8)) [],.i su,.i mc,.sl AL ix,.i l1,.i l2,.i l3,.i l4,.i l5,.i l6,.sl BR ks,.b st,.b sp,.sl (.sl (.sl .u8)) rb,.i ru,.i vc,.b sf,.i dr,.sl sesT ss,.sl objT ob,.sl .i64 rl,.sl .i64 wl],.i h] [])=some (.ret (.tup [.agg [.sl .u8 (Zt h),.sl .u8 v,.sl .u8 [],.b false],.i 0]) []):=by
 have hi:=aS sd au en ac re rs ck od su mc ix l1 l2 l3 l4 l5 l6 ks st sp rb ru vc sf dr ss ob rl wl h hh hl hx
 have hb:=aG sd au en ac re rs ck od [] su mc ix l1 l2 l3 l4 l5 l6 ks st sp rb ru vc sf dr ss ob rl wl h ho zaa (by rw[En,if_neg zaa])
 refine tq ?_
 rw[hi]
 refine tq ?_
 rw[hb]
 refine tq ?_
 rw[A3K _]
 refine tq ?_
 rw[hv]
 exact tq rfl
theorem tZ(sd:List (List UInt8))(au:List (List UInt8))(en:List UInt8)(ac:Int)(re:Int)(rs:Int)(ck:Int)(od:Bool)(su:Int)(mc:Int)(ix:List (El AL))(l1:Int)(l2:Int)(l3:Int)(l4:Int)(l5:Int)(l6:Int)(ks:List (El BR))(st:Bool)(sp:Bool)(rb:List (List (List UInt8)))(ru:Int)(vc:Int)(sf:Bool)(dr:Int)(ss:List (El sesT))(ob:List (El objT))(rl:List Int)(wl:List Int)(h:Int)(v:List UInt8)(hh:0<=h/\h<=3)(hl:ix.length<=10)(hx:∀ x∈ix,NQ x)(ho:ob.length<=1000)(ha:au.length=4)(hv:Ai au h=some v):Y E0 (.call 181 [.agg [.sl (.sl .u8) sd,.sl (.sl .u8) au,.sl .u8 en,.i ac,.i re,.i rs,.i ck,.b od,.sl (.sl (.sl .u8)) [],.i su,.i mc,.sl AL ix,.i l1,.i l2,.i l3,.i l4,.i l5,.i l6,.sl BR ks,.b st,.b sp,.sl (.sl (.sl .u8)) rb,.i ru,.i vc,.b sf,.i dr,.sl sesT ss,.sl objT ob,.sl .i64 rl,.sl .i64 wl],.i h] [])=some (.ret (.tup [.sl .u8 (Zt h),.i 0]) []):=by
 have hf:=Ro sd au en ac re rs ck od su mc ix l1 l2 l3 l4 l5 l6 ks st sp rb ru vc sf dr ss ob rl wl h v hh hl hx ho ha hv
 refine tq ?_
 rw[hf]
 exact tq rfl
theorem A0C(sd:List (List UInt8))(au:List (List UInt8))(en:List UInt8)(ac:Int)(re:Int)(rs:Int)(ck:Int)(od:Bool)(su:Int)(mc:Int)(ix:List (El AL))(l1:Int)(l2:Int)(l3:Int)(l4:Int)(l5:Int)(l6:Int)(ks:List (El BR))(st:Bool)(sp:Bool)(rb:List (List (List UInt8)))(ru:Int)(vc:Int)(sf:Bool)(dr:Int)(ss:List (El sesT))(ob:List (El objT))(rl:List Int)(wl:List Int)(h:Int)(v:List UInt8)(hh:0<=h/\h<=3)(hl:ix.length<=10)(hx:∀ x∈ix,NQ x)(ho:ob.length<=1000)(ha:au.length=4)(hv:Ai au h=some v):Y E0 (.call 237 [.agg [.sl (.sl .u8) sd,.sl (.sl .u8) au,.sl .u8 en,.i ac,.i re,.i rs,.i ck,.b od,.sl (.sl (.sl .u8)) [],.i su,.i mc,.sl AL ix,.i l1,.i l2,.i l3,.i l4,.i l5,.i l6,.sl BR ks,.b st,.b sp,.sl (.sl (.sl .u8)) rb,.i ru,.i vc,.b sf,.i dr,.sl sesT ss,.sl objT ob,.sl .i64 rl,.sl .i64 wl],.i h] [])=some (.ret (.tup [.sl .u8 v,.i 0]) []):=by
 have hf:=Ro sd au en ac re rs ck od su mc ix l1 l2 l3 l4 l5 l6 ks st sp rb ru vc sf dr ss ob rl wl h v hh hl hx ho ha hv
 refine tq ?_
 rw[hf]
 exact tq rfl
theorem tu(sd:List (List UInt8))(au:List (List UInt8))(en:List UInt8)(ac:Int)(re:Int)(rs:Int)(ck:Int)(od:Bool)(su:Int)(mc:Int)(ix:List (El AL))(l1:Int)(l2:Int)(l3:Int)(l4:Int)(l5:Int)(l6:Int)(ks:List (El BR))(st:Bool)(sp:Bool)(rb:List (List (List UInt8)))(ru:Int)(vc:Int)(sf:Bool)(dr:Int)(ss:List (El sesT))(ob:List (El objT))(rl:List Int)(wl:List Int)(h:Int)(v:List UInt8)(hh:0<=h/\h<=3)(hl:ix.length<=10)(hx:∀ x∈ix,NQ x)(ho:ob.length<=1000)(ha:au.length=4)(hv:Ai au h=some v):Y E0 (.call 293 [.agg [.sl (.sl .u8) sd,.sl (.sl .u8) au,.sl .u8 en,.i ac,.i re,.i rs,.i ck,.b od,.sl (.sl (.sl .u8)) [],.i su,.i mc,.sl AL ix,.i l1,.i l2,.i l3,.i l4,.i l5,.i l6,.sl BR ks,.b st,.b sp,.sl (.sl (.sl .u8)) rb,.i ru,.i vc,.b sf,.i dr,.sl sesT ss,.sl objT ob,.sl .i64 rl,.sl .i64 wl],.i h] [])=some (.ret (.b false) []):=by
 have hf:=Ro sd au en ac re rs ck od su mc ix l1 l2 l3 l4 l5 l6 ks st sp rb ru vc sf dr ss ob rl wl h v hh hl hx ho ha hv
 refine tq ?_
 rw[hf]
 exact tq rfl
end
section
attribute [local irreducible] Bl CQ CS Bo Bg Ar CU Dw EN Dy EC Bf BU Bv Bz and' C9 CB BK Au BA BL BN Aa Ad AP AZ CV Dq CW DI CE BP BM BF BG BB AU BC Ae Ap Ai CX BH Bh Ba BO CG CY CJ fits CZ CO A8 AA Ac
theorem A0D(sd:List (List UInt8))(au:List (List UInt8))(en:List UInt8)(ac:Int)(re:Int)(rs:Int)(ck:Int)(od:Bool)(su:Int)(mc:Int)(ix:List (El AL))(l1:Int)(l2:Int)(l3:Int)(l4:Int)(l5:Int)(l6:Int)(ks:List (El BR))(st:Bool)(sp:Bool)(rb:List (List (List UInt8)))(ru:Int)(vc:Int)(sf:Bool)(dr:Int)(ss:List (El sesT))(ob:List (El objT))(rl:List Int)(wl:List Int)(c:Int)(hs:List Int)(az:List (El AQ))(qi:List Int)(qb:List (List UInt8))(se:Int)(nn v:List UInt8)(h:Int):Y E0 (.call 244 [.agg [.sl (.sl .u8) sd,.sl (.sl .u8) au,.sl .u8 en,.i ac,.i re,.i rs,.i ck,.b od,.sl (.sl (.sl .u8)) [],.i su,.i mc,.sl AL ix,.i l1,.i l2,.i l3,.i l4,.i l5,.i l6,.sl BR ks,.b st,.b sp,.sl (.sl (.sl .u8)) rb,.i ru,.i vc,.b sf,.i dr,.sl sesT ss,.sl objT ob,.sl .i64 rl,.sl .i64 wl,.i c,.sl .i64 hs,.sl AQ az,.sl .i64 qi,.sl (.sl .u8) qb,.i se,.sl .u8 nn,.sl .u8 v,.i h]] [])=some (.ret (.i vc) []):=by
 refine tq ?_
 with_reducible rfl
theorem A4G(sd:List (List UInt8))(au:List (List UInt8))(en:List UInt8)(ac:Int)(re:Int)(rs:Int)(ck:Int)(od:Bool)(su:Int)(mc:Int)(ix:List (El AL))(l1:Int)(l2:Int)(l3:Int)(l4:Int)(l5:Int)(l6:Int)(ks:List (El BR))(st:Bool)(sp:Bool)(rb:List (List (List UInt8)))(ru:Int)(vc:Int)(sf:Bool)(dr:Int)(ss:List (El sesT))(ob:List (El objT))(rl:List Int)(wl:List Int)(c:Int)(hs:List Int)(az:List (El AQ))(qi:List Int)(qb:List (List UInt8))(se:Int)(nn v:List UInt8)(h:Int)(hh:0<=h/\h<=3)(hl:ix.length<=10)(hx:∀ x∈ix,NQ x):Y E0 (.call 242 [.agg [.sl (.sl .u8) sd,.sl (.sl .u8) au,.sl .u8 en,.i ac,.i re,.i rs,.i ck,.b od,.sl (.sl (.sl .u8)) [],.i su,.i mc,.sl AL ix,.i l1,.i l2,.i l3,.i l4,.i l5,.i l6,.sl BR ks,.b st,.b sp,.sl (.sl (.sl .u8)) rb,.i ru,.i vc,.b sf,.i dr,.sl sesT ss,.sl objT ob,.sl .i64 rl,.sl .i64 wl,.i c,.sl .i64 hs,.sl AQ az,.sl .i64 qi,.sl (.sl .u8) qb,.i se,.sl .u8 nn,.sl .u8 v,.i h],.i h] [])=some (.ret (.tup [.i 0,.b false]) []):=by
 have hi:=aS sd au en ac re rs ck od su mc ix l1 l2 l3 l4 l5 l6 ks st sp rb ru vc sf dr ss ob rl wl h hh hl hx
 refine tq ?_
 rw[hi]
 exact tq rfl
theorem A4H(sd:List (List UInt8))(au:List (List UInt8))(en:List UInt8)(ac:Int)(re:Int)(rs:Int)(ck:Int)(od:Bool)(su:Int)(mc:Int)(ix:List (El AL))(l1:Int)(l2:Int)(l3:Int)(l4:Int)(l5:Int)(l6:Int)(ks:List (El BR))(st:Bool)(sp:Bool)(rb:List (List (List UInt8)))(ru:Int)(vc:Int)(sf:Bool)(dr:Int)(ss:List (El sesT))(ob:List (El objT))(rl:List Int)(wl:List Int)(c:Int)(hs:List Int)(az:List (El AQ))(qi:List Int)(qb:List (List UInt8))(se:Int)(nn v:List UInt8)(h:Int)(hh:0<=h/\h<=3)(hl:ix.length<=10)(hx:∀ x∈ix,NQ x)(ho:ob.length<=1000)(hc:c<23\/29<c):Y E0 (.call 235 [.agg [.sl (.sl .u8) sd,.sl (.sl .u8) au,.sl .u8 en,.i ac,.i re,.i rs,.i ck,.b od,.sl (.sl (.sl .u8)) [],.i su,.i mc,.sl AL ix,.i l1,.i l2,.i l3,.i l4,.i l5,.i l6,.sl BR ks,.b st,.b sp,.sl (.sl (.sl .u8)) rb,.i ru,.i vc,.b sf,.i dr,.sl sesT ss,.sl objT ob,.sl .i64 rl,.sl .i64 wl,.i c,.sl .i64 hs,.sl AQ az,.sl .i64 qi,.sl (.sl .u8) qb,.i se,.sl .u8 nn,.sl .u8 v,.i h]] [])=some (.ret (.b false) []):=by
 have hi:=A4G sd au en ac re rs ck od su mc ix l1 l2 l3 l4 l5 l6 ks st sp rb ru vc sf dr ss ob rl wl c hs az qi qb se nn v h hh hl hx
 have hb:=aG sd au en ac re rs ck od [] su mc ix l1 l2 l3 l4 l5 l6 ks st sp rb ru vc sf dr ss ob rl wl h ho zaa (by rw[En,if_neg zaa])
 rcases hc with hc|hc
 ·by_cases h1:h=1
  ·subst h1
   refine tq ?_
   rw[hb]
   refine tq ?_
   rw[hi]
   exact tq rfl
  ·refine tq ?_
   rw[hb]
   refine tq ?_
   rw[hi]
   exact tq rfl
 ·by_cases h1:h=1
  ·subst h1
   refine tq ?_
   rw[hb]
   refine tq ?_
   rw[hi]
   exact tq rfl
  ·refine tq ?_
   rw[hb]
   refine tq ?_
   rw[hi]
   exact tq rfl
theorem A4I(sd:List (List UInt8))(au:List (List UInt8))(en:List UInt8)(ac:Int)(re:Int)(rs:Int)(ck:Int)(od:Bool)(su:Int)(mc:Int)(ix:List (El AL))(l1:Int)(l2:Int)(l3:Int)(l4:Int)(l5:Int)(l6:Int)(ks:List (El BR))(st:Bool)(sp:Bool)(rb:List (List (List UInt8)))(ru:Int)(vc:Int)(sf:Bool)(dr:Int)(ss:List (El sesT))(ob:List (El objT))(rl:List Int)(wl:List Int)(c:Int)(hs:List Int)(az:List (El AQ))(qi:List Int)(qb:List (List UInt8))(se:Int)(nn v:List UInt8)(h:Int)(hh:0<=h/\h<=2)(w:List UInt8)(hl:ix.length<=10)(hx:∀ x∈ix,NQ x)(ho:ob.length<=1000)(ha:au.length=4)(hv:Ai au h=some w):Y E0 (.call 236 [.agg [.sl (.sl .u8) sd,.sl (.sl .u8) au,.sl .u8 en,.i ac,.i re,.i rs,.i ck,.b od,.sl (.sl (.sl .u8)) [],.i su,.i mc,.sl AL ix,.i l1,.i l2,.i l3,.i l4,.i l5,.i l6,.sl BR ks,.b st,.b sp,.sl (.sl (.sl .u8)) rb,.i ru,.i vc,.b sf,.i dr,.sl sesT ss,.sl objT ob,.sl .i64 rl,.sl .i64 wl,.i c,.sl .i64 hs,.sl AQ az,.sl .i64 qi,.sl (.sl .u8) qb,.i se,.sl .u8 nn,.sl .u8 v,.i h]] [])=some (.ret (.b false) []):=by
 have hp:=tu sd au en ac re rs ck od su mc ix l1 l2 l3 l4 l5 l6 ks st sp rb ru vc sf dr ss ob rl wl h w zaa hl hx ho ha hv
 refine tq ?_
 rw[hp]
 exact tq rfl
theorem aT(sd:List (List UInt8))(au:List (List UInt8))(en:List UInt8)(ac:Int)(re:Int)(rs:Int)(ck:Int)(od:Bool)(su:Int)(mc:Int)(ix:List (El AL))(l1:Int)(l2:Int)(l3:Int)(l4:Int)(l5:Int)(l6:Int)(ks:List (El BR))(st:Bool)(sp:Bool)(rb:List (List (List UInt8)))(ru:Int)(vc:Int)(sf:Bool)(dr:Int)(ss:List (El sesT))(ob:List (El objT))(rl:List Int)(wl:List Int)(c:Int)(hs:List Int)(az:List (El AQ))(qi:List Int)(qb:List (List UInt8))(se:Int)(nn v:List UInt8)(h:Int)(x:List UInt8)(hx:x.length<=100000):Y E0 (.call 238 [.agg [.sl (.sl .u8) sd,.sl (.sl .u8) au,.sl .u8 en,.i ac,.i re,.i rs,.i ck,.b od,.sl (.sl (.sl .u8)) [],.i su,.i mc,.sl AL ix,.i l1,.i l2,.i l3,.i l4,.i l5,.i l6,.sl BR ks,.b st,.b sp,.sl (.sl (.sl .u8)) rb,.i ru,.i vc,.b sf,.i dr,.sl sesT ss,.sl objT ob,.sl .i64 rl,.sl .i64 wl,.i c,.sl .i64 hs,.sl AQ az,.sl .i64 qi,.sl (.sl .u8) qb,.i se,.sl .u8 nn,.sl .u8 v,.i h],.sl .u8 x,.sl .u8 x] [])=some (.ret (.tup [.agg [.sl (.sl .u8) sd,.sl (.sl .u8) au,.sl .u8 en,.i ac,.i re,.i rs,.i ck,.b od,.sl (.sl (.sl .u8)) [],.i su,.i mc,.sl AL ix,.i l1,.i l2,.i l3,.i l4,.i l5,.i l6,.sl BR ks,.b st,.b sp,.sl (.sl (.sl .u8)) rb,.i ru,.i vc,.b sf,.i dr,.sl sesT ss,.sl objT ob,.sl .i64 rl,.sl .i64 wl],.i 0]) []):=by
 have he:=A3M x x zaa
 rw[decide_eq_true rfl] at he
 refine tq ?_
 rw[he]
 exact tq rfl
theorem A6c(sd:List (List UInt8))(au:List (List UInt8))(en:List UInt8)(ac:Int)(re:Int)(rs:Int)(ck:Int)(od:Bool)(su:Int)(mc:Int)(ix:List (El AL))(l1:Int)(l2:Int)(l3:Int)(l4:Int)(l5:Int)(l6:Int)(ks:List (El BR))(st:Bool)(sp:Bool)(rb:List (List (List UInt8)))(ru:Int)(vc:Int)(sf:Bool)(dr:Int)(ss:List (El sesT))(ob:List (El objT))(rl:List Int)(wl:List Int)(c:Int)(hs:List Int)(az:List (El AQ))(qi:List Int)(qb:List (List UInt8))(se:Int)(nn v:List UInt8)(h:Int)(hh:0<=h/\h<=2)(hl:ix.length<=10)(hx:∀ x∈ix,NQ x)(ho:ob.length<=1000)(ha:au.length=4)(hv:Ai au h=some v)(hc:c<23\/29<c)(hvl:v.length<=1000):Y E0 (.call 194 [.agg [.sl (.sl .u8) sd,.sl (.sl .u8) au,.sl .u8 en,.i ac,.i re,.i rs,.i ck,.b od,.sl (.sl (.sl .u8)) [],.i su,.i mc,.sl AL ix,.i l1,.i l2,.i l3,.i l4,.i l5,.i l6,.sl BR ks,.b st,.b sp,.sl (.sl (.sl .u8)) rb,.i ru,.i vc,.b sf,.i dr,.sl sesT ss,.sl objT ob,.sl .i64 rl,.sl .i64 wl,.i c,.sl .i64 hs,.sl AQ az,.sl .i64 qi,.sl (.sl .u8) qb,.i se,.sl .u8 nn,.sl .u8 v,.i h],zH 0 [] [] 0 0 0 0 false] [])=some (.ret (.tup [.agg [.sl (.sl .u8) sd,.sl (.sl .u8) au,.sl .u8 en,.i ac,.i re,.i rs,.i ck,.b od,.sl (.sl (.sl .u8)) [],.i su,.i mc,.sl AL ix,.i l1,.i l2,.i l3,.i l4,.i l5,.i l6,.sl BR ks,.b st,.b sp,.sl (.sl (.sl .u8)) rb,.i ru,.i vc,.b sf,.i dr,.sl sesT ss,.sl objT ob,.sl .i64 rl,.sl .i64 wl],.i 0]) []):=by
 have h1:=A4H sd au en ac re rs ck od su mc ix l1 l2 l3 l4 l5 l6 ks st sp rb ru vc sf dr ss ob rl wl c hs az qi qb se nn v h zaa hl hx ho hc
 have h2:=A4I sd au en ac re rs ck od su mc ix l1 l2 l3 l4 l5 l6 ks st sp rb ru vc sf dr ss ob rl wl c hs az qi qb se nn v h hh v hl hx ho ha hv
 have h3:=A0C sd au en ac re rs ck od su mc ix l1 l2 l3 l4 l5 l6 ks st sp rb ru vc sf dr ss ob rl wl h v zaa hl hx ho ha hv
 have h4:=aT sd au en ac re rs ck od su mc ix l1 l2 l3 l4 l5 l6 ks st sp rb ru vc sf dr ss ob rl wl c hs az qi qb se nn v h v zaa
 refine tq ?_
 rw[h1]
 refine tq ?_
 rw[h2]
 refine tq ?_
 rw[h3]
 refine tq ?_
 rw[h4]
 exact tq rfl
theorem A6d(sd:List (List UInt8))(au:List (List UInt8))(en:List UInt8)(ac:Int)(re:Int)(rs:Int)(ck:Int)(od:Bool)(su:Int)(mc:Int)(ix:List (El AL))(l1:Int)(l2:Int)(l3:Int)(l4:Int)(l5:Int)(l6:Int)(ks:List (El BR))(st:Bool)(sp:Bool)(rb:List (List (List UInt8)))(ru:Int)(vc:Int)(sf:Bool)(dr:Int)(ss:List (El sesT))(ob:List (El objT))(rl:List Int)(wl:List Int)(c h:Int)(hs:List Int)(nn v:List UInt8)(az:List (El AQ))(qi:List Int)(qb:List (List UInt8))(hh:0<=h/\h<=2)(hl:ix.length<=10)(hx:∀ x∈ix,NQ x)(ho:ob.length<=1000)(ha:au.length=4)(hv:Ai au h=some v)(hc:c<23\/29<c)(hv1:v.length<=1000):Y E0 (.call 164 [.agg [.sl (.sl .u8) sd,.sl (.sl .u8) au,.sl .u8 en,.i ac,.i re,.i rs,.i ck,.b od,.sl (.sl (.sl .u8)) [],.i su,.i mc,.sl AL ix,.i l1,.i l2,.i l3,.i l4,.i l5,.i l6,.sl BR ks,.b st,.b sp,.sl (.sl (.sl .u8)) rb,.i ru,.i vc,.b sf,.i dr,.sl sesT ss,.sl objT ob,.sl .i64 rl,.sl .i64 wl],.i 0,rq c (h::hs) ((0,nn,v)::az) qi qb] [])=some (.ret (.tup [.agg [.sl (.sl .u8) sd,.sl (.sl .u8) au,.sl .u8 en,.i ac,.i re,.i rs,.i ck,.b od,.sl (.sl (.sl .u8)) [],.i su,.i mc,.sl AL ix,.i l1,.i l2,.i l3,.i l4,.i l5,.i l6,.sl BR ks,.b st,.b sp,.sl (.sl (.sl .u8)) rb,.i ru,.i vc,.b sf,.i dr,.sl sesT ss,.sl objT ob,.sl .i64 rl,.sl .i64 wl],.i 0]) []):=by
 have hk:=A6c sd au en ac re rs ck od su mc ix l1 l2 l3 l4 l5 l6 ks st sp rb ru vc sf dr ss ob rl wl c (h::hs) ((0,nn,v)::az) qi qb 0 nn v h hh hl hx ho ha hv hc hv1
 refine tq ?_
 rw[hk]
 exact tq rfl
end
end Go.Proofs.YtanagnimhaemgaaGreatDoor
