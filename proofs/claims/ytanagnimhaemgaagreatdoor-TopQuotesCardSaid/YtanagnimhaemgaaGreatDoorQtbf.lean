/-
  Own texts, laid together for this claim: contracts of functions of the program and its references, used by the statements of this seat.
-/
import Derived.Test.YtanagnimhaemgaaGreatDoorQtac
import Derived.Test.YtanagnimhaemgaaGreatDoorQtae
import Derived.Test.YtanagnimhaemgaaGreatDoorQtaf
import Derived.Test.YtanagnimhaemgaaGreatDoorQtag
import Derived.Test.YtanagnimhaemgaaGreatDoorQtai
import Derived.Test.YtanagnimhaemgaaGreatDoorQtaj
import Derived.Test.YtanagnimhaemgaaGreatDoorQtak
import Derived.Test.YtanagnimhaemgaaGreatDoorQtao
import Derived.Test.YtanagnimhaemgaaGreatDoorQtaq
import Derived.Test.YtanagnimhaemgaaGreatDoorQtas
import Derived.Test.YtanagnimhaemgaaGreatDoorQtat
import Derived.Test.YtanagnimhaemgaaGreatDoorQtau
import Derived.Test.YtanagnimhaemgaaGreatDoorQtav
import Derived.Test.YtanagnimhaemgaaGreatDoorQtaw
import Derived.Test.YtanagnimhaemgaaGreatDoorQtax
import Derived.Test.YtanagnimhaemgaaGreatDoorQtay
import Derived.Test.YtanagnimhaemgaaGreatDoorQtaz
import Derived.Test.YtanagnimhaemgaaGreatDoorQtba
import Derived.Test.YtanagnimhaemgaaGreatDoorQtbb
import Derived.Test.YtanagnimhaemgaaGreatDoorQtbc
import Derived.Test.YtanagnimhaemgaaGreatDoorQtbd
import Derived.Test.YtanagnimhaemgaaGreatDoorQtbe
set_option linter.all false
set_option maxHeartbeats 40000000
set_option maxRecDepth 100000
namespace Go.Proofs.YtanagnimhaemgaaGreatDoor
open Go Go.Ax Go.Eng
variable {R1 P1 u1:Int}(cs:List UInt8)(ar:List (List UInt8))(mask:Int)(sd0 sd:List (List UInt8))(wr:Int)(au0 au:List (List UInt8))(nx R:Int)(en0 en:List UInt8)(P ac0 u ac re0 re rs0 rs ck0:Int)(x:List UInt8)(ck:Int)(od0 od F:Bool)(su:Int)(b:List (List UInt8))(i mc:Int)(ix:List (El AL))(sb:List (List (List UInt8)))(l1:Int)(d:List UInt8)(mk l2 l3 k l4 l5 l6:Int)(ks:List (El BR))(st sp:Bool)(rb:List (List (List UInt8)))(h ru vc:Int)(sf:Bool)(dr:Int)(ss:List (El sesT))(ob:List (El objT))(rl wl:List Int)(x5 x6 x7:Int)(x2:List UInt8)
section
attribute [local irreducible] Bl CQ CS Bo Bg Ar CU Dw EN Dy EC Bf BU Bv Bz and' C9 CB BK Au BA BL BN Aa Ad AP AZ CV Dq CW DI CE BP BM BF BG BB AU BC Ae Ap Ai CX BH Bh Ba BO CG CY CJ fits CZ CO A8 AA Ac
theorem aP:Y E0 (.call 285 [] [])=some (.ret (.sl .u8 zen) []):=by
 have hz:Ba 32 (0:UInt8)=zen:=by rw[FY,zen];rfl
 refine tq ?_
 (rw[hz])
theorem ni(sd:List (List UInt8))(au:List (List UInt8))(en:List UInt8)(ac:Int)(re:Int)(rs:Int)(ck:Int)(od:Bool)(su:Int)(mc:Int)(ix:List (El AL))(l1:Int)(l2:Int)(l3:Int)(l4:Int)(l5:Int)(l6:Int)(ks:List (El BR))(st:Bool)(sp:Bool)(rb:List (List (List UInt8)))(ru:Int)(vc:Int)(sf:Bool)(dr:Int)(ss:List (El sesT))(ob:List (El objT))(rl:List Int)(wl:List Int)(kd:Int)(hkd:1<=kd/\kd<=3)(hl:ss.length<=10)(hen:en.length<=100000)(k:Nat)(x2 x3:List UInt8)(x4 x5 x6 x7:Int)(x8:Bool)(hk:ss[k]?=some (0,x2,x3,x4,x5,x6,x7,x8))(hu:∀ i<k,∃ x,ss[i]?=some x/\(x.1:Int)≠0):∀(d j:Nat),j+d=k ->
  Y E0 (.loop 225 0 0 2 [(1,.i kd),(2,.pa 0 0),(4,.pa 1 0),(20,.sl sesT ss),(21,.i (ss.length:Int)),(22,.i (j:Int))] [(0,some (.var [.sl (.sl .u8) sd,.sl (.sl .u8) au,.sl .u8 en,.i ac,.i re,.i rs,.i ck,.b od,.sl (.sl (.sl .u8)) [],.i su,.i mc,.sl AL ix,.i l1,.i l2,.i l3,.i l4,.i l5,.i l6,.sl BR ks,.b st,.b sp,.sl (.sl (.sl .u8)) rb,.i ru,.i vc,.b sf,.i dr,.sl sesT ss,.sl objT ob,.sl .i64 rl,.sl .i64 wl])),(1,some (.var [.nil,.nil,.nil,.i 0,.i 0,.i 0,.i 0,.b false,.nil,.i 0,.i 0,.nil,.i 0,.i 0,.i 0,.i 0,.i 0,.i 0,.nil,.b false,.b false,.nil,.i 0,.i 0,.b false,.i 0,.nil,.nil,.nil,.nil]))])
   = some (.fin .ret 1 [(4,.pa 0 0),(5,.i (768+(k:Int))),(6,.i 0)] [(0,some (.var [.sl (.sl .u8) sd,.sl (.sl .u8) au,.sl .u8 en,.i ac,.i re,.i rs,.i ck,.b od,.sl (.sl (.sl .u8)) [],.i su,.i mc,.sl AL ix,.i l1,.i l2,.i l3,.i l4,.i l5,.i l6,.sl BR ks,.b st,.b sp,.sl (.sl (.sl .u8)) rb,.i ru,.i vc,.b sf,.i (Bl dr 1),.sl sesT (BH ss (k:Int) (kd,N7 en re rs dr 16,zen,-1,31,0,0,false)),.sl objT ob,.sl .i64 rl,.sl .i64 wl]))])
 | 0,j,hj=>by
  obtain rfl:j=k:=zaa
  have hg:Ai ss (j:Int)=some (0,x2,x3,x4,x5,x6,x7,x8):=by rw[DD];exact hk
  have hlt:j<ss.length:=(List.getElem?_eq_some_iff.1 hk).1
  have hr:=A3V sd au en ac re rs ck od [] su mc ix l1 l2 l3 l4 l5 l6 ks st sp rb ru vc sf dr ss ob rl wl 16 hen
  rw[AO];conv=>lhs;whnf
  refine to ?_
  rw[hg]
  refine tq ?_
  rw[hr]
  refine tq ?_
  rw[aP]
  refine tq ?_
  rw[fK (hl:=Aq) (hk:=Aq) ..]
  exact tq rfl
 | d+1,j,hj=>by
  obtain⟨⟨y1,y2⟩,hy,hn⟩:=hu j zaa
  have hg:Ai ss (j:Int)=some (y1,y2):=by rw[DD];exact hy
  have hlt:j<ss.length:=(List.getElem?_eq_some_iff.1 hy).1
  have hn:y1≠0:=hn
  have ih:=ni sd au en ac re rs ck od su mc ix l1 l2 l3 l4 l5 l6 ks st sp rb ru vc sf dr ss ob rl wl kd hkd hl hen k x2 x3 x4 x5 x6 x7 x8 hk hu d (j+1) zaa
  rw[show((j+1:Nat):Int)=(j:Int)+1 from by omega] at ih
  rw[AO];conv=>lhs;whnf
  refine to ?_
  rw[hg]
  refine tq ?_
  exact ih
theorem A4E(kd:Int)(hkd:1<=kd/\kd<=3)(hl:ss.length<=10)(hen:en.length<=100000)(k:Nat)(x2 x3:List UInt8)(x4 x5 x6 x7:Int)(x8:Bool)(hk:ss[k]?=some (0,x2,x3,x4,x5,x6,x7,x8))(hu:∀ i<k,∃ x,ss[i]?=some x/\(x.1:Int)≠0):Y E0 (.call 225 [.agg [.sl (.sl .u8) sd,.sl (.sl .u8) au,.sl .u8 en,.i ac,.i re,.i rs,.i ck,.b od,.sl (.sl (.sl .u8)) [],.i su,.i mc,.sl AL ix,.i l1,.i l2,.i l3,.i l4,.i l5,.i l6,.sl BR ks,.b st,.b sp,.sl (.sl (.sl .u8)) rb,.i ru,.i vc,.b sf,.i dr,.sl sesT ss,.sl objT ob,.sl .i64 rl,.sl .i64 wl],.i kd] [])=some (.ret (.tup [.agg [.sl (.sl .u8) sd,.sl (.sl .u8) au,.sl .u8 en,.i ac,.i re,.i rs,.i ck,.b od,.sl (.sl (.sl .u8)) [],.i su,.i mc,.sl AL ix,.i l1,.i l2,.i l3,.i l4,.i l5,.i l6,.sl BR ks,.b st,.b sp,.sl (.sl (.sl .u8)) rb,.i ru,.i vc,.b sf,.i (Bl dr 1),.sl sesT (BH ss (k:Int) (kd,N7 en re rs dr 16,zen,-1,31,0,0,false)),.sl objT ob,.sl .i64 rl,.sl .i64 wl],.i (768+(k:Int)),.i 0]) []):=by
 have h:=ni sd au en ac re rs ck od su mc ix l1 l2 l3 l4 l5 l6 ks st sp rb ru vc sf dr ss ob rl wl kd hkd hl hen k x2 x3 x4 x5 x6 x7 x8 hk hu k 0 zaa
 rw[show((0:Nat):Int)=0 from rfl,<-AC] at h
 refine tq ?_
 simp only[Nat.reduceAdd];rw[h]
 exact tq rfl
theorem Yb(h:Int)(x1 x4 x5 x6 x7:Int)(x2 x3:List UInt8)(x8:Bool)(hl:ss.length<=1000)(hh:0<=h-768/\h-768<ss.length)(hg:Ai ss (h-768)=some (x1,x2,x3,x4,x5,x6,x7,x8))(hz:x1≠0):Y E0 (.call 193 [.agg [.sl (.sl .u8) sd,.sl (.sl .u8) au,.sl .u8 en,.i ac,.i re,.i rs,.i ck,.b od,.sl (.sl (.sl .u8)) [],.i su,.i mc,.sl AL ix,.i l1,.i l2,.i l3,.i l4,.i l5,.i l6,.sl BR ks,.b st,.b sp,.sl (.sl (.sl .u8)) rb,.i ru,.i vc,.b sf,.i dr,.sl sesT ss,.sl objT ob,.sl .i64 rl,.sl .i64 wl],.i h] [])=some (.ret (.tup [zH x1 x2 x3 x4 x5 x6 x7 x8,.i 0]) []):=by
 have hf:=Rn sd au en ac re rs ck od [] su mc ix l1 l2 l3 l4 l5 l6 ks st sp rb ru vc sf dr ss ob rl wl h x1 x4 x5 x6 x7 x2 x3 x8 hl hh hg hz
 refine tq ?_
 rw[hf]
 exact tq rfl
theorem A4F(kd:Int)(hkd:1<=kd/\kd<=3)(hl:ss.length<=10)(hen:en.length<=100000)(k:Nat)(x2 x3:List UInt8)(x4 x5 x6 x7:Int)(x8:Bool)(hk:ss[k]?=some (0,x2,x3,x4,x5,x6,x7,x8))(hu:∀ i<k,∃ x,ss[i]?=some x/\(x.1:Int)≠0)(qb:List (List UInt8)):Y E0 (.call 189 [.agg [.sl (.sl .u8) sd,.sl (.sl .u8) au,.sl .u8 en,.i ac,.i re,.i rs,.i ck,.b od,.sl (.sl (.sl .u8)) [],.i su,.i mc,.sl AL ix,.i l1,.i l2,.i l3,.i l4,.i l5,.i l6,.sl BR ks,.b st,.b sp,.sl (.sl (.sl .u8)) rb,.i ru,.i vc,.b sf,.i dr,.sl sesT ss,.sl objT ob,.sl .i64 rl,.sl .i64 wl],rq 16 [] [] [kd] qb] [])=some (.ret (.tup [.agg [.sl (.sl .u8) sd,.sl (.sl .u8) au,.sl .u8 en,.i ac,.i re,.i rs,.i ck,.b od,.sl (.sl (.sl .u8)) [],.i su,.i mc,.sl AL ix,.i l1,.i l2,.i l3,.i l4,.i l5,.i l6,.sl BR ks,.b st,.b sp,.sl (.sl (.sl .u8)) rb,.i ru,.i vc,.b sf,.i (Bl dr 1),.sl sesT (BH ss (k:Int) (kd,N7 en re rs dr 16,zen,-1,31,0,0,false)),.sl objT ob,.sl .i64 rl,.sl .i64 wl],JC 0 [768+(k:Int)] [N7 en re rs dr 16] []]) []):=by
 have h:=A4E sd au en ac re rs ck od su mc ix l1 l2 l3 l4 l5 l6 ks st sp rb ru vc sf dr ss ob rl wl kd hkd hl hen k x2 x3 x4 x5 x6 x7 x8 hk hu
 have hlt:k<ss.length:=(List.getElem?_eq_some_iff.1 hk).1
 have hf:=Yb sd au en ac re rs ck od su mc ix l1 l2 l3 l4 l5 l6 ks st sp rb ru vc sf (Bl dr 1) (BH ss (k:Int) (kd,N7 en re rs dr 16,zen,-1,31,0,0,false)) ob rl wl (768+(k:Int)) kd (-1) 31 0 0 (N7 en re rs dr 16) zen false (by rw[Ea,List.length_set];omega) (by rw[Ea,List.length_set];omega) (by rw[show 768+(k:Int)-768=(k:Int) from by omega,DD,Ea];simp[hlt]) zaa
 refine tq ?_
 rw[h]
 refine tq ?_
 rw[hf]
 exact tq rfl
theorem A6a(kd:Int)(hkd:1<=kd/\kd<=3)(hl:ss.length<=10)(hen:en.length<=100000)(k:Nat)(x2 x3:List UInt8)(x4 x5 x6 x7:Int)(x8:Bool)(hk:ss[k]?=some (0,x2,x3,x4,x5,x6,x7,x8))(hu:∀ i<k,∃ x,ss[i]?=some x/\(x.1:Int)≠0)(qb:List (List UInt8)):Y E0 (.call 163 [.agg [.sl (.sl .u8) sd,.sl (.sl .u8) au,.sl .u8 en,.i ac,.i re,.i rs,.i ck,.b od,.sl (.sl (.sl .u8)) [],.i su,.i mc,.sl AL ix,.i l1,.i l2,.i l3,.i l4,.i l5,.i l6,.sl BR ks,.b st,.b sp,.sl (.sl (.sl .u8)) rb,.i ru,.i vc,.b sf,.i dr,.sl sesT ss,.sl objT ob,.sl .i64 rl,.sl .i64 wl],.i 0,rq 16 [] [] [kd] qb] [])=some (.ret (.tup [.agg [.sl (.sl .u8) sd,.sl (.sl .u8) au,.sl .u8 en,.i ac,.i re,.i rs,.i ck,.b od,.sl (.sl (.sl .u8)) [],.i su,.i mc,.sl AL ix,.i l1,.i l2,.i l3,.i l4,.i l5,.i l6,.sl BR ks,.b st,.b sp,.sl (.sl (.sl .u8)) rb,.i ru,.i vc,.b sf,.i (Bl dr 1),.sl sesT (BH ss (k:Int) (kd,N7 en re rs dr 16,zen,-1,31,0,0,false)),.sl objT ob,.sl .i64 rl,.sl .i64 wl],JC 0 [768+(k:Int)] [N7 en re rs dr 16] []]) []):=by
 have h:=A4F sd au en ac re rs ck od su mc ix l1 l2 l3 l4 l5 l6 ks st sp rb ru vc sf dr ss ob rl wl kd hkd hl hen k x2 x3 x4 x5 x6 x7 x8 hk hu qb
 refine tq ?_
 rw[h]
 exact tq rfl
theorem A6b(kd:Int)(hkd:1<=kd/\kd<=3)(hl:ss.length<=10)(hen:en.length<=100000)(k:Nat)(x2 x3:List UInt8)(x4 x5 x6 x7:Int)(x8:Bool)(hk:ss[k]?=some (0,x2,x3,x4,x5,x6,x7,x8))(hu:∀ i<k,∃ x,ss[i]?=some x/\(x.1:Int)≠0)(hst:st=true)(hq:rqG 16 0 [] [] [kd] []):Y E0 (.call 131 [.agg [.sl (.sl .u8) sd,.sl (.sl .u8) au,.sl .u8 en,.i ac,.i re,.i rs,.i ck,.b od,.sl (.sl (.sl .u8)) [],.i su,.i mc,.sl AL ix,.i l1,.i l2,.i l3,.i l4,.i l5,.i l6,.sl BR ks,.b st,.b sp,.sl (.sl (.sl .u8)) rb,.i ru,.i vc,.b sf,.i dr,.sl sesT ss,.sl objT ob,.sl .i64 rl,.sl .i64 wl],.i 0,rq 16 [] [] [kd] []] [])=some (.ret (.tup [.agg [.sl (.sl .u8) sd,.sl (.sl .u8) au,.sl .u8 en,.i ac,.i re,.i rs,.i ck,.b od,.sl (.sl (.sl .u8)) [],.i su,.i mc,.sl AL ix,.i l1,.i l2,.i l3,.i l4,.i l5,.i l6,.sl BR ks,.b st,.b sp,.sl (.sl (.sl .u8)) rb,.i ru,.i vc,.b sf,.i (Bl dr 1),.sl sesT (BH ss (k:Int) (kd,N7 en re rs dr 16,zen,-1,31,0,0,false)),.sl objT ob,.sl .i64 rl,.sl .i64 wl],JC 0 [768+(k:Int)] [N7 en re rs dr 16] []]) []):=by
 have hc:=NT hq
 have h:=A6a sd au en ac re rs ck od su mc ix l1 l2 l3 l4 l5 l6 ks st sp rb ru vc sf dr ss ob rl wl kd hkd hl hen k x2 x3 x4 x5 x6 x7 x8 hk hu []
 subst hst
 refine tq ?_
 rw[hc]
 refine tq ?_
 rw[JV ..]
 refine tq ?_
 rw[h]
 exact tq rfl
end
theorem uA(n:Int)(h:0<=n/\n<=8):Y E0 (.call 126 [.i (-1),.i n] [])=some (.ret (.b true) []):=by
 refine tq ?_
 with_reducible rfl
theorem uB{a:Int}{n v:List UInt8}(ha:0<=a/\a<=65535)(hn:n.length<=128)(hv:v.length<=128):∀ x∈([(a,n,v)]:List (El AQ)),((0:Int)<=x.1/\(x.1:Int)<=65535)/\x.2.1.length<=128/\x.2.2.length<=128:=by
 intro x hx;simp at hx;subst hx;exact⟨ha,hn,hv⟩
theorem uC{h:Int}(hh:0<=h/\h<=65535):∀ x∈[h],0<=x/\x<=65535:=by
 intro x hx;simp at hx;subst hx;exact hh
theorem MJ(x:El AQ):(MH x).length=6+x.2.1.length+x.2.2.length:=by simp[MH,D9,Ce];omega
theorem AAH(hk:1<=k/\k<=3):rqG 16 0 [] [] [k] []:=by
 refine⟨tH,Hq 0,A0A,Jg 0,by decide,by simp,by simp,by simp,by simp,by simp,by simp,?_,by simp,?_⟩
 ·intro x hx;simp at hx;omega
 simp only[Hm,Gt,List.length_append,D9,List.flatMap_nil,List.flatMap_cons,List.length_nil,List.length_cons,Bq]
 decide
theorem AAI(hh:0<=h/\h<=65535):rqG 17 (-1) [] [] [h,1,0,1,0,0] [[]]:=by
 refine⟨tJ,fJ 1 zaa,A0B,uA 1 zaa,by decide,by simp,by simp,by simp,by simp,by simp,by simp,?_,by simp,?_⟩
 ·intro x hx;simp at hx;omega
 simp only[Hm,Gt,List.length_append,D9,List.flatMap_nil,List.flatMap_cons,List.length_nil,List.length_cons,Bq,Ce]
 decide
theorem A7Z(k a t:Int)(p u d:List UInt8)(hh:0<=h/\h<=65535)(hk:0<=k/\k<=100)(ha:0<=a/\a<=100)(ht:0<=t/\t<=100)(hp:p.length<=200)(hu:u.length<=200)(hd:d.length<=200):rqG 9 3 [h] [(0,[],[])] [k,a,t] [p,u,d]:=by
 refine⟨A04,Hq 3,A47,Jg 3,by decide,by simp,by simp,by simp,by simp,uC hh,uB zaa zak zak,?_,?_,?_⟩
 ·intro x hx;simp at hx;omega
 ·intro x hx;simp at hx;rcases hx with rfl|rfl|rfl<;>omega
 simp only[Hm,Gt,List.length_append,D9,List.flatMap_nil,List.flatMap_cons,List.length_nil,List.length_cons,Bq,Ce,MJ]
 omega
theorem AAJ(s:Int)(hh:0<=h/\h<=65535)(hs:0<=s/\s<=65535)(v:List UInt8)(hv:v.length<=100):rqG 13 0 [h] [(s,[],v)] [] []:=by
 refine⟨tC,Hq 0,A09,Jg 0,by decide,by simp,by simp,by simp,by simp,uC hh,uB hs zak zaa,by simp,by simp,?_⟩
 simp only[Hm,Gt,List.length_append,D9,List.flatMap_nil,List.flatMap_cons,List.length_nil,List.length_cons,Bq,Ce,MJ]
 omega
section
attribute [local irreducible] Bl CQ CS Bo Bg Ar CU Dw EN Dy EC Bf BU Bv Bz and' C9 CB BK Au BA BL BN Aa Ad AP AZ CV Dq CW DI CE BP BM BF BG BB AU BC Ae Ap Ai CX BH Bh Ba BO CG CY CJ fits CZ CO A8 AA Ac
theorem ny:Y E0 (.loop 158 0 0 0 [(0,.i 2),(9,.agg fmC),(10,.i 0)] [])=some (.fin .ret 0 [(2,.i 0),(3,.i 0),(4,.i 1),(5,.i 0),(6,.b true)] []):=by
 rw[AO];conv=>lhs;whnf
 refine tq ?_
 exact tq rfl
theorem A0E:Y E0 (.call 158 [.i 2] [])=some (.ret (.tup [.i 0,.i 0,.i 1,.i 0,.b true]) []):=by
 refine tq ?_
 rw[ny]
 exact tq rfl
theorem A4J:Y E0 (.call 125 [.i 2] [])=some (.ret (.tup [.agg [.i 0,.i 0,.i 1,.i 0],.b true]) []):=by
 refine tq ?_;rw[Fe];refine tq ?_;rfl
theorem nz:Y E0 (.loop 158 0 0 0 [(0,.i 7),(9,.agg fmC),(10,.i 0)] [])=some (.fin .ret 0 [(2,.i 0),(3,.i 0),(4,.i 1),(5,.i 1),(6,.b true)] []):=by
 rw[AO];conv=>lhs;whnf
 refine tq ?_
 refine tq ?_
 refine tq ?_
 refine tq ?_
 refine tq ?_
 exact tq rfl
theorem A0F:Y E0 (.call 158 [.i 7] [])=some (.ret (.tup [.i 0,.i 0,.i 1,.i 1,.b true]) []):=by
 refine tq ?_
 rw[nz]
 exact tq rfl
theorem A4K:Y E0 (.call 125 [.i 7] [])=some (.ret (.tup [.agg [.i 0,.i 0,.i 1,.i 1],.b true]) []):=by
 refine tq ?_;rw[Fe];refine tq ?_;rfl
theorem fM:Y E0 (.loop 158 0 0 0 [(0,.i 12),(9,.agg fmC),(10,.i 0)] [])=some (.fin .ret 0 [(2,.i 0),(3,.i 0),(4,.i 1),(5,.i 0),(6,.b true)] []):=by
 rw[AO];conv=>lhs;whnf
 refine tq ?_
 refine tq ?_
 refine tq ?_
 refine tq ?_
 refine tq ?_
 refine tq ?_
 refine tq ?_
 refine tq ?_
 refine tq ?_
 refine tq ?_
 exact tq rfl
theorem uD:Y E0 (.call 158 [.i 12] [])=some (.ret (.tup [.i 0,.i 0,.i 1,.i 0,.b true]) []):=by
 refine tq ?_
 rw[fM]
 exact tq rfl
theorem A0G:Y E0 (.call 125 [.i 12] [])=some (.ret (.tup [.agg [.i 0,.i 0,.i 1,.i 0],.b true]) []):=by
 refine tq ?_;rw[Fe];refine tq ?_;rfl
theorem fO:Y E0 (.loop 158 0 0 0 [(0,.i 15),(9,.agg fmC),(10,.i 0)] [])=some (.fin .ret 0 [(2,.i 1),(3,.i 1),(4,.i 2),(5,.i 1),(6,.b true)] []):=by
 rw[AO];conv=>lhs;whnf
 refine tq ?_
 refine tq ?_
 refine tq ?_
 refine tq ?_
 refine tq ?_
 refine tq ?_
 refine tq ?_
 refine tq ?_
 refine tq ?_
 refine tq ?_
 refine tq ?_
 refine tq ?_
 refine tq ?_
 exact tq rfl
theorem uF:Y E0 (.call 158 [.i 15] [])=some (.ret (.tup [.i 1,.i 1,.i 2,.i 1,.b true]) []):=by
 refine tq ?_
 rw[fO]
 exact tq rfl
theorem A0H:Y E0 (.call 125 [.i 15] [])=some (.ret (.tup [.agg [.i 1,.i 1,.i 2,.i 1],.b true]) []):=by
 refine tq ?_;rw[Fe];refine tq ?_;rfl
theorem A7a(hk:0<=k/\k<=1):rqG 2 0 [] [] [k] []:=by
 refine⟨A0E,Hq 0,A4J,Jg 0,by decide,by simp,by simp,by simp,by simp,by simp,by simp,?_,by simp,?_⟩
 ·intro x hx;simp at hx;omega
 simp only[Hm,Gt,List.length_append,D9,List.flatMap_nil,List.flatMap_cons,List.length_nil,List.length_cons,Bq,Ce,MJ]
 omega
theorem A4L:rqG 1 0 [] [] [1] []:=by
 refine⟨aN,Hq 0,nI,Jg 0,by decide,by simp,by simp,by simp,by simp,by simp,by simp,?_,by simp,?_⟩
 ·intro x hx;simp at hx;omega
 simp only[Hm,Gt,List.length_append,D9,List.flatMap_nil,List.flatMap_cons,List.length_nil,List.length_cons,Bq,Ce,MJ]
 omega
theorem AAK(hi:0<=i/\i<=100)(hd:d.length<=100):rqG 7 1 [] [] [i] [d]:=by
 refine⟨A0F,Hq 1,A4K,Jg 1,by decide,by simp,by simp,by simp,by simp,by simp,by simp,?_,?_,?_⟩
 ·intro x hx;simp at hx;omega
 ·intro x hx;simp at hx;subst hx;omega
 simp only[Hm,Gt,List.length_append,D9,List.flatMap_nil,List.flatMap_cons,List.length_nil,List.length_cons,Bq,Ce,MJ]
 omega
theorem AAL(hh:0<=h/\h<=65535):rqG 12 0 [] [] [h] []:=by
 refine⟨uD,Hq 0,A0G,Jg 0,by decide,by simp,by simp,by simp,by simp,by simp,by simp,?_,by simp,?_⟩
 ·intro x hx;simp at hx;omega
 simp only[Hm,Gt,List.length_append,D9,List.flatMap_nil,List.flatMap_cons,List.length_nil,List.length_cons,Bq,Ce,MJ]
 omega
theorem AAM(m:Int)(d:List UInt8)(hh:0<=h/\h<=65535)(hm:0<=m/\m<=65535)(hd:d.length<=100):rqG 15 1 [h] [(0,[],[])] [0,m] [d]:=by
 refine⟨uF,Hq 1,A0H,Jg 1,by decide,by simp,by simp,by simp,by simp,uC hh,uB zaa zak zak,?_,?_,?_⟩
 ·intro x hx;simp at hx;omega
 ·intro x hx;simp at hx;subst hx;omega
 simp only[Hm,Gt,List.length_append,D9,List.flatMap_nil,List.flatMap_cons,List.length_nil,List.length_cons,Bq,Ce,MJ]
 omega
end
section
attribute [local irreducible] Bl CQ CS Bo Bg Ar CU Dw EN Dy EC Bf BU Bv Bz and' C9 CB BK Au BA BL BN Aa Ad AP AZ CV Dq CW DI CE BP BM BF BG BB AU BC Ae Ap Ai CX BH Bh Ba BO CG CY CJ fits CZ CO A8 AA Ac
abbrev A8v:Ty:=.pair .i64 (.pair (.pair .i64 .i64) (.pair (.sl .u8) (.pair .i64 (.pair .i64 (.pair (.sl .u8) (.pair (.sl .u8) (.pair (.sl .u8) (.sl (.sl .u8)))))))))
def WI(d x:List UInt8):List UInt8:=sha256 (Ag 8 [[1],d,BQ (BQ [] 2 0) 2 1,x])
theorem fP(x:List UInt8)(hd:d.length<=1000)(hx:x.length=32):(Ag 8 [[1],d,BQ (BQ [] 2 0) 2 1,x]).length<=4000:=by
 simp only[Ag,fieldsB,List.flatMap_cons,List.flatMap_nil,List.length_append,List.length_cons,List.length_nil,Gw,AB];omega
theorem Yc(x:List UInt8):(WI d x).length=32:=A7 _
theorem uG:Y E0 (.call 73 [] [])=some (.ret (.sl .u8 zen) []):=by
 have h1:Ba 32 (0:UInt8)=zen:=by rw[FY,zen];rfl
 refine tq ?_
 (rw[h1])
theorem A4M:Y E0 (.call 147 [.agg [.i 0,.i 1]] [])=some (.ret (.b true) []):=by
 refine tq ?_
 with_reducible rfl
theorem A4N(hx:x.length=32):Y E0 (.call 113 [asA 1 0 1 x 0 0 [] [] [] []] [])=some (.ret (.i 0) []):=by
 refine tq ?_
 rw[A4M]
 exact tq rfl
theorem uH(x:List UInt8)(hd:d.length<=1000)(hx:x.length=32):Y E0 (.call 114 [.sl .u8 d,asA 1 0 1 x 0 0 [] [] [] []] [])=some (.ret (.sl .u8 (Ag 8 [[1],d,BQ (BQ [] 2 0) 2 1,x])) []):=by
 have hf:BO [[DI 1]] [d,BQ (BQ [] 2 0) 2 1,x]=[[1],d,BQ (BQ [] 2 0) 2 1,x]:=by rw[Am,Dh];rfl
 have hl:=fP d x hd hx
 refine tq ?_
 rw[Fj _ _ _ Aq]
 refine tq ?_
 rw[Fj _ _ _ Aq]
 refine tq ?_
 rw[hf]
 conv=>lhs;whnf
 rw[TZ _ _ Aq Aq]
 exact tq rfl
theorem A4O(x:List UInt8)(hd:d.length<=1000)(hx:x.length=32):Y E0 (.call 74 [.sl .u8 d,asA 1 0 1 x 0 0 [] [] [] []] [])=some (.ret (.sl .u8 (WI d x)) []):=by
 have hl:=fP d x hd hx
 have k1:=A4N x hx
 have k2:=uH d x hd hx
 refine tq ?_
 rw[k1]
 refine tq ?_
 rw[k2]
 refine tq ?_
 rw[QL _ Aq]
 refine tq ?_
 rfl
theorem uI(hx:x.length=32):Y E0 (.loop 34 0 0 0 [(0,.sl A8v [(1,(0,1),x,0,0,[],[],[],[])]),(3,.sl .u8 zen),(4,.i 0)] [])=some (.fin (.exit 0) 0 [(3,.sl .u8 (WI zen x))] []):=by
 have hp:=Yc zen x
 have k1:=A4O zen x (by rw[zen_len];omega) hx
 have hl:Ap ([(1,(0,1),x,0,0,[],[],[],[])]:List (El A8v))=1:=zaK
 rw[AO];conv=>lhs;whnf
 rw[hl]
 refine tq ?_
 rw[k1]
 refine tq ?_
 rw[AO]
 conv=>lhs;whnf
 rw[hl]
 exact tq rfl
theorem A4P(hx:x.length=32):Y E0 (.call 34 [.sl A8v [(1,(0,1),x,0,0,[],[],[],[])]] [])=some (.ret (.sl .u8 (WI zen x)) []):=by
 refine tq ?_
 rw[uG]
 refine tq ?_
 rw[uI _ Aq]
 exact tq rfl
theorem xQ(x a b:Int):Y E0 (.call 307 [.i x,.i a,.i b] [])=some (.ret (.b (decide (a<=x/\x<=b))) []):=by
 refine tq ?_
 rcases ZV a x with hc0|hc0
 ·
  refine tq ?_
  (congr 3;simp only[J3,Jo,Jd,Jp,DF,IB,AC];first|rfl|(rw[decide_eq_decide];omega)|(simp;omega))
 refine tq ?_
 simp;omega
theorem A6e:Y E0 (.call 306 [.b true] [])=some (.ret (.i 0) []):=by
 refine tq ?_
 with_reducible rfl
theorem aU(hx:x.length=32):Y E0 (.call 258 [asA 1 0 1 x 0 0 [] [] [] []] [])=some (.ret (.i 0) []):=by
 have w0:=xQ 0 0 65535
 have w1:=xQ 1 0 65535
 rw[show decide ((0:Int)<=0/\(0:Int)<=65535)=true from rfl] at w0
 rw[show decide ((0:Int)<=1/\(1:Int)<=65535)=true from rfl] at w1
 have hi:Dw (Ap x) 32=true:=Ff (by rw[AC];omega)
 rw[AO]
 conv=>lhs;whnf
 rw[Ff zaa]
 conv=>lhs;whnf
 try dsimp -iota -beta -eta -zeta only
 rw[Fg zaa]
 conv=>lhs;whnf
 rw[Dp zaa]
 conv=>lhs;whnf
 try dsimp -iota -beta -eta -zeta only
 rw[Ak]
 rw[w0]
 conv=>lhs;whnf
 try dsimp -iota -beta -eta -zeta only
 rw[Fg zaa]
 conv=>lhs;whnf
 rw[Dp zaa]
 conv=>lhs;whnf
 try dsimp -iota -beta -eta -zeta only
 rw[Ak]
 rw[w1]
 conv=>lhs;whnf
 try dsimp -iota -beta -eta -zeta only
 rw[Ak]
 rw[hi,A6e]
 exact tq rfl
theorem A0I(x:List UInt8)(hd:d.length<=1000)(hx:x.length=32):Y E0 (.call 334 [.sl .u8 d,asA 1 0 1 x 0 0 [] [] [] []] [])=some (.ret (.sl (.sl .u8) [d,BQ (BQ [] 2 0) 2 1,x]) []):=by
 refine tq ?_
 rw[D5 _ _ _ Aq]
 refine tq ?_
 rw[D5 _ _ _ Aq]
 exact tq rfl
theorem A0J(x:List UInt8)(hd:d.length<=1000)(hx:x.length=32):Y E0 (.call 291 [.sl .u8 d,asA 1 0 1 x 0 0 [] [] [] []] [])=some (.ret (.sl .u8 (WI d x)) []):=by
 have k1:=aU x hx
 have k2:=A0I d x hd hx
 have hf:BO [[DI 1]] [d,BQ (BQ [] 2 0) 2 1,x]=[[1],d,BQ (BQ [] 2 0) 2 1,x]:=by rw[Am,Dh];rfl
 have hl:=fP d x hd hx
 refine tq ?_
 rw[k1]
 refine tq ?_
 rw[k2]
 refine tq ?_
 rw[hf]
 conv=>lhs;whnf
 rw[Eu _ _ Aq Aq]
 refine tq ?_
 rfl
end
section
attribute [local irreducible] Bl CQ CS Bo Bg Ar CU Dw EN Dy EC Bf BU Bv Bz and' C9 CB BK Au BA BL BN Aa Ad AP AZ CV Dq CW DI CE BP BM BF BG BB AU BC Ae Ap Ai CX BH Bh Ba BO CG CY CJ fits CZ CO A8 AA Ac
theorem aV:Nz.length=32:=A7 _
theorem A0K(h kd x4 x5 x6 x7:Int)(x2 x3:List UInt8)(x8:Bool)(hl:ss.length<=1000)(hh:0<=h-768/\h-768<ss.length)(hg:Ai ss (h-768)=some (kd,x2,x3,x4,x5,x6,x7,x8))(hz:kd=2):Y E0 (.call 229 [.agg [.sl (.sl .u8) sd,.sl (.sl .u8) au,.sl .u8 en,.i ac,.i re,.i rs,.i ck,.b od,.sl (.sl (.sl .u8)) [],.i su,.i mc,.sl AL ix,.i l1,.i l2,.i l3,.i l4,.i l5,.i l6,.sl BR ks,.b st,.b sp,.sl (.sl (.sl .u8)) rb,.i ru,.i vc,.b sf,.i dr,.sl sesT ss,.sl objT ob,.sl .i64 rl,.sl .i64 wl],.i h] [])=some (.ret (.tup [.i (h-768),zH kd x2 x3 x4 x5 x6 x7 x8,.b true]) []):=by
 subst hz
 refine tq ?_
 rw[Rn (hl:=Aq) (hh:=Aq) (hg:=Aq) (hz:=Aq) ..]
 exact tq rfl
theorem A0L(x3:List UInt8)(x8:Bool)(hrb:rb=Dk 2):Y E0 (.call 321 [.agg [.sl (.sl .u8) sd,.sl (.sl .u8) au,.sl .u8 en,.i ac,.i re,.i rs,.i ck,.b od,.sl (.sl (.sl .u8)) [],.i su,.i mc,.sl AL ix,.i l1,.i l2,.i l3,.i l4,.i l5,.i l6,.sl BR ks,.b st,.b sp,.sl (.sl (.sl .u8)) rb,.i ru,.i vc,.b sf,.i dr,.sl sesT ss,.sl objT ob,.sl .i64 rl,.sl .i64 wl],zH 2 x2 x3 (-1) x5 x6 x7 x8,asA 1 0 1 [] 0 0 [] [] [] []] [])=some (.ret (.tup [zH 2 x2 x3 ru x5 x6 x7 x8,asA 1 0 1 Nz 0 0 [] [] [] [],.i 0]) []):=by
 have hRB:Dk 2=[[],Ec 32]:=rfl
 subst hrb
 have hd:=wu ru
 rw[<-hRB] at hd
 refine tq ?_
 rw[hd]
 exact tq rfl
theorem A0M(x3:List UInt8)(x8:Bool)(hrb:rb=Dk 2):Y E0 (.call 286 [.agg [.sl (.sl .u8) sd,.sl (.sl .u8) au,.sl .u8 en,.i ac,.i re,.i rs,.i ck,.b od,.sl (.sl (.sl .u8)) [],.i su,.i mc,.sl AL ix,.i l1,.i l2,.i l3,.i l4,.i l5,.i l6,.sl BR ks,.b st,.b sp,.sl (.sl (.sl .u8)) rb,.i ru,.i vc,.b sf,.i dr,.sl sesT ss,.sl objT ob,.sl .i64 rl,.sl .i64 wl],zH 2 x2 x3 (-1) x5 x6 x7 x8,asA 1 0 1 [] 0 0 [] [] [] []] [])=some (.ret (.tup [zH 2 x2 x3 ru x5 x6 x7 x8,asA 1 0 1 Nz 0 0 [] [] [] [],.i 0]) []):=by
 rw[AO]
 conv=>lhs;whnf
 rw[Ff zaa]
 conv=>lhs;whnf
 try dsimp -iota -beta -eta -zeta only
 rw[Ak]
 rw[A0L (hrb:=Aq) ..]
 exact tq rfl
theorem A6f(k x4 x5 x6 x7:Int)(x2 x3 d:List UInt8)(x8:Bool)(hl:ss.length<=1000)(hk:0<=k/\k<ss.length)(h3:x3.length<=1000)(hd:d.length=32):Y E0 (.call 232 [.agg [.sl (.sl .u8) sd,.sl (.sl .u8) au,.sl .u8 en,.i ac,.i re,.i rs,.i ck,.b od,.sl (.sl (.sl .u8)) [],.i su,.i mc,.sl AL ix,.i l1,.i l2,.i l3,.i l4,.i l5,.i l6,.sl BR ks,.b st,.b sp,.sl (.sl (.sl .u8)) rb,.i ru,.i vc,.b sf,.i dr,.sl sesT ss,.sl objT ob,.sl .i64 rl,.sl .i64 wl],.i k,zH 2 x2 x3 x4 x5 x6 x7 x8,asA 1 0 1 d 0 0 [] [] [] []] [])=some (.ret (.agg [.sl (.sl .u8) sd,.sl (.sl .u8) au,.sl .u8 en,.i ac,.i re,.i rs,.i ck,.b od,.sl (.sl (.sl .u8)) [],.i su,.i mc,.sl AL ix,.i l1,.i l2,.i l3,.i l4,.i l5,.i l6,.sl BR ks,.b st,.b sp,.sl (.sl (.sl .u8)) rb,.i ru,.i vc,.b sf,.i dr,.sl sesT (BH ss k (2,x2,WI x3 d,x4,x5,x6,x7,x8)),.sl objT ob,.sl .i64 rl,.sl .i64 wl]) []):=by
 have k1:=A0J x3 d h3 hd
 refine tq ?_
 rw[k1]
 refine tq ?_
 rw[fK (hl:=Aq) (hk:=Aq) ..]
 exact tq rfl
theorem A0N(h x5 x6 x7:Int)(x2 x3:List UInt8)(x8:Bool)(hrb:rb=Dk 2)(hl:ss.length<=1000)(hh:0<=h-768/\h-768<ss.length)(hg:Ai ss (h-768)=some (2,x2,x3,(-1:Int),x5,x6,x7,x8))(h3:x3.length<=1000):Y E0 (.call 227 [.agg [.sl (.sl .u8) sd,.sl (.sl .u8) au,.sl .u8 en,.i ac,.i re,.i rs,.i ck,.b od,.sl (.sl (.sl .u8)) [],.i su,.i mc,.sl AL ix,.i l1,.i l2,.i l3,.i l4,.i l5,.i l6,.sl BR ks,.b st,.b sp,.sl (.sl (.sl .u8)) rb,.i ru,.i vc,.b sf,.i dr,.sl sesT ss,.sl objT ob,.sl .i64 rl,.sl .i64 wl],.i h,asA 1 0 1 [] 0 0 [] [] [] []] [])=some (.ret (.tup [.agg [.sl (.sl .u8) sd,.sl (.sl .u8) au,.sl .u8 en,.i ac,.i re,.i rs,.i ck,.b od,.sl (.sl (.sl .u8)) [],.i su,.i mc,.sl AL ix,.i l1,.i l2,.i l3,.i l4,.i l5,.i l6,.sl BR ks,.b st,.b sp,.sl (.sl (.sl .u8)) rb,.i ru,.i vc,.b sf,.i dr,.sl sesT (BH ss (h-768) (2,x2,WI x3 Nz,ru,x5,x6,x7,x8)),.sl objT ob,.sl .i64 rl,.sl .i64 wl],.i 0]) []):=by
 have k1:=A6f sd au en ac re rs ck od su mc ix l1 l2 l3 l4 l5 l6 ks st sp rb ru vc sf dr ss ob rl wl (h-768) ru x5 x6 x7 x2 x3 Nz x8 hl hh h3 aV
 refine tq ?_
 rw[A0K (hl:=Aq) (hh:=Aq) (hg:=Aq) (hz:=Aq) ..]
 refine tq ?_
 rw[aP]
 refine tq ?_
 rw[aU _ zaG]
 refine tq ?_
 rw[A0M (hrb:=Aq) ..]
 refine tq ?_
 rw[k1]
 exact tq rfl
theorem AAN:Ai [h,1,0,1,0,0] 3=some 1:=by rw[D8 zak];rfl
theorem AAO:Ai [h,1,0,1,0,0] 4=some 0:=by rw[D8 zak];rfl
theorem AAP:Ai [h,1,0,1,0,0] 5=some 0:=by rw[D8 zak];rfl
theorem uJ(h x5 x6 x7:Int)(x2 x3:List UInt8)(x8:Bool)(hrb:rb=Dk 2)(hl:ss.length<=1000)(hh:0<=h-768/\h-768<ss.length)(hg:Ai ss (h-768)=some (2,x2,x3,(-1:Int),x5,x6,x7,x8))(h3:x3.length<=1000):Y E0 (.call 190 [.agg [.sl (.sl .u8) sd,.sl (.sl .u8) au,.sl .u8 en,.i ac,.i re,.i rs,.i ck,.b od,.sl (.sl (.sl .u8)) [],.i su,.i mc,.sl AL ix,.i l1,.i l2,.i l3,.i l4,.i l5,.i l6,.sl BR ks,.b st,.b sp,.sl (.sl (.sl .u8)) rb,.i ru,.i vc,.b sf,.i dr,.sl sesT ss,.sl objT ob,.sl .i64 rl,.sl .i64 wl],rq 17 [] [] [h,1,0,1,0,0] [[]]] [])=some (.ret (.tup [.agg [.sl (.sl .u8) sd,.sl (.sl .u8) au,.sl .u8 en,.i ac,.i re,.i rs,.i ck,.b od,.sl (.sl (.sl .u8)) [],.i su,.i mc,.sl AL ix,.i l1,.i l2,.i l3,.i l4,.i l5,.i l6,.sl BR ks,.b st,.b sp,.sl (.sl (.sl .u8)) rb,.i ru,.i vc,.b sf,.i dr,.sl sesT (BH ss (h-768) (2,x2,WI x3 Nz,ru,x5,x6,x7,x8)),.sl objT ob,.sl .i64 rl,.sl .i64 wl],JC 0 [] [] []]) []):=by
 refine tq ?_
 rw[AAN]
 refine tq ?_
 rw[AAO]
 refine tq ?_
 rw[AAP]
 refine tq ?_
 rw[A0N (hrb:=Aq) (hl:=Aq) (hh:=Aq) (hg:=Aq) (h3:=Aq) ..]
 refine tq ?_
 rw[xM ..]
 exact tq rfl
theorem A6g(h x5 x6 x7:Int)(x2 x3:List UInt8)(x8:Bool)(hrb:rb=Dk 2)(hl:ss.length<=1000)(hh:0<=h-768/\h-768<ss.length)(hg:Ai ss (h-768)=some (2,x2,x3,(-1:Int),x5,x6,x7,x8))(h3:x3.length<=1000):Y E0 (.call 163 [.agg [.sl (.sl .u8) sd,.sl (.sl .u8) au,.sl .u8 en,.i ac,.i re,.i rs,.i ck,.b od,.sl (.sl (.sl .u8)) [],.i su,.i mc,.sl AL ix,.i l1,.i l2,.i l3,.i l4,.i l5,.i l6,.sl BR ks,.b st,.b sp,.sl (.sl (.sl .u8)) rb,.i ru,.i vc,.b sf,.i dr,.sl sesT ss,.sl objT ob,.sl .i64 rl,.sl .i64 wl],.i 0,rq 17 [] [] [h,1,0,1,0,0] [[]]] [])=some (.ret (.tup [.agg [.sl (.sl .u8) sd,.sl (.sl .u8) au,.sl .u8 en,.i ac,.i re,.i rs,.i ck,.b od,.sl (.sl (.sl .u8)) [],.i su,.i mc,.sl AL ix,.i l1,.i l2,.i l3,.i l4,.i l5,.i l6,.sl BR ks,.b st,.b sp,.sl (.sl (.sl .u8)) rb,.i ru,.i vc,.b sf,.i dr,.sl sesT (BH ss (h-768) (2,x2,WI x3 Nz,ru,x5,x6,x7,x8)),.sl objT ob,.sl .i64 rl,.sl .i64 wl],JC 0 [] [] []]) []):=by
 refine tq ?_
 rw[uJ (hrb:=Aq) (hl:=Aq) (hh:=Aq) (hg:=Aq) (h3:=Aq) ..]
 exact tq rfl
theorem A6h(h x5 x6 x7:Int)(x2 x3:List UInt8)(x8:Bool)(hst:st=true)(hrb:rb=Dk 2)(hl:ss.length<=1000)(hh:0<=h-768/\h-768<ss.length)(hg:Ai ss (h-768)=some (2,x2,x3,(-1:Int),x5,x6,x7,x8))(h3:x3.length<=1000)(hq:rqG 17 (-1) [] [] [h,1,0,1,0,0] [[]]):Y E0 (.call 131 [.agg [.sl (.sl .u8) sd,.sl (.sl .u8) au,.sl .u8 en,.i ac,.i re,.i rs,.i ck,.b od,.sl (.sl (.sl .u8)) [],.i su,.i mc,.sl AL ix,.i l1,.i l2,.i l3,.i l4,.i l5,.i l6,.sl BR ks,.b st,.b sp,.sl (.sl (.sl .u8)) rb,.i ru,.i vc,.b sf,.i dr,.sl sesT ss,.sl objT ob,.sl .i64 rl,.sl .i64 wl],.i 0,rq 17 [] [] [h,1,0,1,0,0] [[]]] [])=some (.ret (.tup [.agg [.sl (.sl .u8) sd,.sl (.sl .u8) au,.sl .u8 en,.i ac,.i re,.i rs,.i ck,.b od,.sl (.sl (.sl .u8)) [],.i su,.i mc,.sl AL ix,.i l1,.i l2,.i l3,.i l4,.i l5,.i l6,.sl BR ks,.b st,.b sp,.sl (.sl (.sl .u8)) rb,.i ru,.i vc,.b sf,.i dr,.sl sesT (BH ss (h-768) (2,x2,WI x3 Nz,ru,x5,x6,x7,x8)),.sl objT ob,.sl .i64 rl,.sl .i64 wl],JC 0 [] [] []]) []):=by
 have k1:=NT hq
 have k2:=JV sd au en ac re rs ck od su mc ix l1 l2 l3 l4 l5 l6 ks st sp rb ru vc sf dr ss ob rl wl 17 [] [h,1,0,1,0,0] [[]]
 subst hst
 refine tq ?_
 rw[k1]
 refine tq ?_
 rw[k2]
 refine tq ?_
 rw[A6g (hrb:=Aq) (hl:=Aq) (hh:=Aq) (hg:=Aq) (h3:=Aq) ..]
 exact tq rfl
end
section
attribute [local irreducible] Bl CQ CS Bo Bg Ar CU Dw EN Dy EC Bf BU Bv Bz and' C9 CB BK Au BA BL BN Aa Ad AP AZ CV Dq CW DI CE BP BM BF BG BB AU BC Ae Ap Ai CX BH Bh Ba BO CG CY CJ fits CZ CO A8 AA Ac
attribute [local irreducible] Eo
theorem o5(h:Int)(v:List UInt8)(az:List (El AQ))(is:List Int)(bs:List (List UInt8))(hh:0<=h/\h<=2)(hl:ix.length<=10)(hx:∀ x∈ix,NQ x)(ho:ob.length<=1000)(ha:au.length=4)(hv:Ai au h=some v):Y E0 (.call 162 [.agg [.sl (.sl .u8) sd,.sl (.sl .u8) au,.sl .u8 en,.i ac,.i re,.i rs,.i ck,.b od,.sl (.sl (.sl .u8)) [],.i su,.i mc,.sl AL ix,.i l1,.i l2,.i l3,.i l4,.i l5,.i l6,.sl BR ks,.b st,.b sp,.sl (.sl (.sl .u8)) rb,.i ru,.i vc,.b sf,.i dr,.sl sesT ss,.sl objT ob,.sl .i64 rl,.sl .i64 wl],rq 9 [h] az is bs] [])=some (.ret (.b true) []):=by
 have hn:=tZ sd au en ac re rs ck od su mc ix l1 l2 l3 l4 l5 l6 ks st sp rb ru vc sf dr ss ob rl wl h v zaa hl hx ho ha hv
 have l0:=UA sd au en ac re rs ck od su mc ix l1 l2 l3 l4 l5 l6 ks st sp rb ru vc sf dr ss ob rl wl 9 [h] az is bs zak (fun x hx=>by simp at hx;subst hx;exact⟨_,hn⟩) 1 0 rfl
 have e2:Ap [h]=1:=zaK
 rw[show((List.length [h]:Nat):Int)=1 from rfl,show((0:Nat):Int)=0 from rfl] at l0
 refine tq ?_
 simp only[e2,Nat.reduceAdd];rw[l0]
 conv=>lhs;whnf
 rw[e2]
 conv=>lhs;whnf
 rw[Jc zaa]
 conv=>lhs;whnf
 rw[oL];conv=>lhs;whnf
 rw[Ff zaa]
 conv=>lhs;whnf
 (congr 3;simp only[J3,Jo,Jd,Jp,DF,IB,AC];first|rfl|(rw[decide_eq_decide];omega)|(simp;omega))
theorem A0O(h k a t:Int)(az:List (El AQ))(o u d:List UInt8)(hl:ob.length<=1000)(hsd:sd.length<=1000)(hsl:∀ l∈sd,l.length<=1000)(ho:o.length<=50000)(hd:d.length<=50000)(e:Int)(is:List Int)(bs:List (List UInt8))(ob2:List (El objT))(hp:Eo sd ob h k a t o u d=(ob2,⟨e,is,bs⟩)):Y E0 (.call 165 [.agg [.sl (.sl .u8) sd,.sl (.sl .u8) au,.sl .u8 en,.i ac,.i re,.i rs,.i ck,.b od,.sl (.sl (.sl .u8)) [],.i su,.i mc,.sl AL ix,.i l1,.i l2,.i l3,.i l4,.i l5,.i l6,.sl BR ks,.b st,.b sp,.sl (.sl (.sl .u8)) rb,.i ru,.i vc,.b sf,.i dr,.sl sesT ss,.sl objT ob,.sl .i64 rl,.sl .i64 wl],rq 9 [h] az [k,a,t] [o,u,d]] [])=some (.ret (.tup [.agg [.sl (.sl .u8) sd,.sl (.sl .u8) au,.sl .u8 en,.i ac,.i re,.i rs,.i ck,.b od,.sl (.sl (.sl .u8)) [],.i su,.i mc,.sl AL ix,.i l1,.i l2,.i l3,.i l4,.i l5,.i l6,.sl BR ks,.b st,.b sp,.sl (.sl (.sl .u8)) rb,.i ru,.i vc,.b sf,.i dr,.sl sesT ss,.sl objT ob2,.sl .i64 rl,.sl .i64 wl],JC e is bs []]) []):=by
 have hr:=A3S sd au en ac re rs ck od [] su mc ix l1 l2 l3 l4 l5 l6 ks st sp rb ru vc sf dr ss ob rl wl 9 h k a t [] az o u d hl hsd hsl zak ho hd
 rw[hp] at hr
 refine tq ?_
 rw[hr]
 exact tq rfl
theorem xR(h k a t:Int)(o u d:List UInt8)(hst:st=true)(hh:0<=h/\h<=2)(hl:ix.length<=10)(hx:∀ x∈ix,NQ x)(hol:ob.length<=1000)(ha:au.length=4)(hv:Ai au h=some ([]:List UInt8))(hsd:sd.length<=1000)(hsl:∀ l∈sd,l.length<=1000)(ho:o.length<=50000)(hd:d.length<=50000)(is:List Int)(bs:List (List UInt8))(ob2:List (El objT))(hp:Eo sd ob h k a t o u d=(ob2,⟨0,is,bs⟩))(hq:rqG 9 3 [h] [(0,[],[])] [k,a,t] [o,u,d]):Y E0 (.call 131 [.agg [.sl (.sl .u8) sd,.sl (.sl .u8) au,.sl .u8 en,.i ac,.i re,.i rs,.i ck,.b od,.sl (.sl (.sl .u8)) [],.i su,.i mc,.sl AL ix,.i l1,.i l2,.i l3,.i l4,.i l5,.i l6,.sl BR ks,.b st,.b sp,.sl (.sl (.sl .u8)) rb,.i ru,.i vc,.b sf,.i dr,.sl sesT ss,.sl objT ob,.sl .i64 rl,.sl .i64 wl],.i 0,rq 9 [h] [(0,[],[])] [k,a,t] [o,u,d]] [])=some (.ret (.tup [.agg [.sl (.sl .u8) sd,.sl (.sl .u8) au,.sl .u8 en,.i ac,.i re,.i rs,.i ck,.b od,.sl (.sl (.sl .u8)) [],.i su,.i mc,.sl AL ix,.i l1,.i l2,.i l3,.i l4,.i l5,.i l6,.sl BR ks,.b st,.b sp,.sl (.sl (.sl .u8)) rb,.i ru,.i vc,.b sf,.i dr,.sl sesT ss,.sl objT ob2,.sl .i64 rl,.sl .i64 wl],JC 0 is bs []]) []):=by
 have k1:=NT hq
 have k2:=o5 sd au en ac re rs ck od su mc ix l1 l2 l3 l4 l5 l6 ks st sp rb ru vc sf dr ss ob rl wl h [] [(0,[],[])] [k,a,t] [o,u,d] hh hl hx hol ha hv
 have k3:=A6d sd au en ac re rs ck od su mc ix l1 l2 l3 l4 l5 l6 ks st sp rb ru vc sf dr ss ob rl wl 9 h [] [] [] [] [k,a,t] [o,u,d] hh hl hx hol ha hv zaa zak
 have k4:=A0O sd au en ac re rs ck od su mc ix l1 l2 l3 l4 l5 l6 ks st sp rb ru vc sf dr ss ob rl wl h k a t [(0,[],[])] o u d hol hsd hsl ho hd 0 is bs ob2 hp
 have k5:=xP sd au en ac re rs ck od su mc ix l1 l2 l3 l4 l5 l6 ks st sp rb ru vc sf dr ss ob2 rl wl 9 [h] [] [] [] [k,a,t] [o,u,d]
 subst hst
 refine tq ?_
 rw[k1]
 refine tq ?_
 rw[k2]
 refine tq ?_
 rw[k3]
 refine tq ?_
 rw[k4]
 conv=>lhs;whnf
 rw[AO]
 conv=>lhs;whnf
 rw[DY zaa]
 conv=>lhs;whnf
 try dsimp -iota -beta -eta -zeta only
 rw[Ak]
 rw[k5]
 exact tq rfl
end
section
attribute [local irreducible] Bl CQ CS Bo Bg Ar CU Dw EN Dy EC Bf BU Bv Bz and' C9 CB BK Au BA BL BN Aa Ad AP AZ CV Dq CW DI CE BP BM BF BG BB AU BC Ae Ap Ai CX BH Bh Ba BO CG CY CJ fits CZ CO A8 AA Ac
theorem uK:Y E0 (.loop 183 0 0 0 [(1,.i h),(10,.sl AL []),(11,.i 0),(12,.i 0)] [])=some (.fin (.exit 0) 0 [] []):=by
 rw[AO];conv=>lhs;whnf
 refine tq ?_
 with_reducible rfl
theorem o6(h:Int)(hix:ix=[]):Y E0 (.call 183 [.agg [.sl (.sl .u8) sd,.sl (.sl .u8) au,.sl .u8 en,.i ac,.i re,.i rs,.i ck,.b od,.sl (.sl (.sl .u8)) [],.i su,.i mc,.sl AL ix,.i l1,.i l2,.i l3,.i l4,.i l5,.i l6,.sl BR ks,.b st,.b sp,.sl (.sl (.sl .u8)) rb,.i ru,.i vc,.b sf,.i dr,.sl sesT ss,.sl objT ob,.sl .i64 rl,.sl .i64 wl],.i h] [])=some (.ret (.tup [.i 0,.i 7]) []):=by
 have e0:Ap ([]:List (El AL))=0:=zaK
 subst hix
 refine tq ?_
 rw[e0,uK]
 exact tq rfl
theorem OX(h:Int)(p1 p2 p3:Int)(p4 p5 s1 s2 s3:List UInt8)(hr:Int)(hh:512<=h/\h<=515)(hix:ix=[])(hol:ob.length<=1000)(hx:En ob h=some ((p1,p2,p3,p4,p5),(s1,s2,s3),hr))(h4:p4.length<=1000)(h5:p5.length<=1000):Y E0 (.call 216 [.agg [.sl (.sl .u8) sd,.sl (.sl .u8) au,.sl .u8 en,.i ac,.i re,.i rs,.i ck,.b od,.sl (.sl (.sl .u8)) [],.i su,.i mc,.sl AL ix,.i l1,.i l2,.i l3,.i l4,.i l5,.i l6,.sl BR ks,.b st,.b sp,.sl (.sl (.sl .u8)) rb,.i ru,.i vc,.b sf,.i dr,.sl sesT ss,.sl objT ob,.sl .i64 rl,.sl .i64 wl],.i h] [])=some (.ret (.tup [.agg [.sl .u8 (nameB ⟨p1,p2,p3,p4,p5⟩),.sl .u8 s1,.sl .u8 p4,.b (Dw (Ar .and p2 2) 0)],.i 0]) []):=by
 have k1:=o6 sd au en ac re rs ck od su mc ix l1 l2 l3 l4 l5 l6 ks st sp rb ru vc sf dr ss ob rl wl h hix
 have k2:=JR sd au en ac re rs ck od [] su mc ix l1 l2 l3 l4 l5 l6 ks st sp rb ru vc sf dr ss ob rl wl h p1 p2 p3 p4 p5 s1 s2 s3 hr hol hx
 refine tq ?_
 rw[k1]
 refine tq ?_
 rw[k2]
 refine tq ?_
 rw[YH _ _ _ _ _ Aq Aq]
 exact tq rfl
theorem A0P(h:Int)(p1 p2 p3:Int)(p4 p5 s1 s2 s3:List UInt8)(hr:Int)(hh:512<=h/\h<=515)(hix:ix=[])(hol:ob.length<=1000)(hx:En ob h=some ((p1,p2,p3,p4,p5),(s1,s2,s3),hr))(h4:p4.length<=1000)(h5:p5.length<=1000):Y E0 (.call 241 [.agg [.sl (.sl .u8) sd,.sl (.sl .u8) au,.sl .u8 en,.i ac,.i re,.i rs,.i ck,.b od,.sl (.sl (.sl .u8)) [],.i su,.i mc,.sl AL ix,.i l1,.i l2,.i l3,.i l4,.i l5,.i l6,.sl BR ks,.b st,.b sp,.sl (.sl (.sl .u8)) rb,.i ru,.i vc,.b sf,.i dr,.sl sesT ss,.sl objT ob,.sl .i64 rl,.sl .i64 wl],.i h] [])=some (.ret (.tup [.sl .u8 p4,.i 0]) []):=by
 have k:=OX sd au en ac re rs ck od su mc ix l1 l2 l3 l4 l5 l6 ks st sp rb ru vc sf dr ss ob rl wl h p1 p2 p3 p4 p5 s1 s2 s3 hr hh hix hol hx h4 h5
 refine tq ?_
 rw[k]
 exact tq rfl
theorem Yd(h:Int)(p1 p2 p3:Int)(p4 p5 s1 s2 s3:List UInt8)(hr:Int)(hh:512<=h/\h<=515)(hix:ix=[])(hol:ob.length<=1000)(hx:En ob h=some ((p1,p2,p3,p4,p5),(s1,s2,s3),hr))(h4:p4.length<=1000)(h5:p5.length<=1000):Y E0 (.call 181 [.agg [.sl (.sl .u8) sd,.sl (.sl .u8) au,.sl .u8 en,.i ac,.i re,.i rs,.i ck,.b od,.sl (.sl (.sl .u8)) [],.i su,.i mc,.sl AL ix,.i l1,.i l2,.i l3,.i l4,.i l5,.i l6,.sl BR ks,.b st,.b sp,.sl (.sl (.sl .u8)) rb,.i ru,.i vc,.b sf,.i dr,.sl sesT ss,.sl objT ob,.sl .i64 rl,.sl .i64 wl],.i h] [])=some (.ret (.tup [.sl .u8 (nameB ⟨p1,p2,p3,p4,p5⟩),.i 0]) []):=by
 have k:=OX sd au en ac re rs ck od su mc ix l1 l2 l3 l4 l5 l6 ks st sp rb ru vc sf dr ss ob rl wl h p1 p2 p3 p4 p5 s1 s2 s3 hr hh hix hol hx h4 h5
 refine tq ?_
 rw[k]
 exact tq rfl
theorem aW(c:Int)(hs:List Int)(az:List (El AQ))(qi:List Int)(qb:List (List UInt8))(se:Int)(nn v:List UInt8)(g h:Int)(hix:ix=[]):Y E0 (.call 242 [.agg [.sl (.sl .u8) sd,.sl (.sl .u8) au,.sl .u8 en,.i ac,.i re,.i rs,.i ck,.b od,.sl (.sl (.sl .u8)) [],.i su,.i mc,.sl AL ix,.i l1,.i l2,.i l3,.i l4,.i l5,.i l6,.sl BR ks,.b st,.b sp,.sl (.sl (.sl .u8)) rb,.i ru,.i vc,.b sf,.i dr,.sl sesT ss,.sl objT ob,.sl .i64 rl,.sl .i64 wl,.i c,.sl .i64 hs,.sl AQ az,.sl .i64 qi,.sl (.sl .u8) qb,.i se,.sl .u8 nn,.sl .u8 v,.i g],.i h] [])=some (.ret (.tup [.i 0,.b false]) []):=by
 have k:=o6 sd au en ac re rs ck od su mc ix l1 l2 l3 l4 l5 l6 ks st sp rb ru vc sf dr ss ob rl wl h hix
 refine tq ?_
 rw[k]
 exact tq rfl
theorem A6i(c:Int)(hs:List Int)(az:List (El AQ))(qi:List Int)(qb:List (List UInt8))(se:Int)(nn v:List UInt8)(h:Int)(p1 p2 p3:Int)(p4 p5 s1 s2 s3:List UInt8)(hr:Int)(x2:List UInt8)(hh:512<=h/\h<=515)(hix:ix=[])(hol:ob.length<=1000)(hx:En ob h=some ((p1,p2,p3,p4,p5),(s1,s2,s3),hr))(h4:p4.length=32)(h5:p5.length<=1000)(hru:ru ≠ -1):Y E0 (.call 195 [.agg [.sl (.sl .u8) sd,.sl (.sl .u8) au,.sl .u8 en,.i ac,.i re,.i rs,.i ck,.b od,.sl (.sl (.sl .u8)) [],.i su,.i mc,.sl AL ix,.i l1,.i l2,.i l3,.i l4,.i l5,.i l6,.sl BR ks,.b st,.b sp,.sl (.sl (.sl .u8)) rb,.i ru,.i vc,.b sf,.i dr,.sl sesT ss,.sl objT ob,.sl .i64 rl,.sl .i64 wl,.i c,.sl .i64 hs,.sl AQ az,.sl .i64 qi,.sl (.sl .u8) qb,.i se,.sl .u8 nn,.sl .u8 v,.i h],zH 2 x2 p4 ru 31 0 0 false,.i 0] [])=some (.ret (.tup [.agg [.sl (.sl .u8) sd,.sl (.sl .u8) au,.sl .u8 en,.i ac,.i re,.i rs,.i ck,.b od,.sl (.sl (.sl .u8)) [],.i su,.i mc,.sl AL ix,.i l1,.i l2,.i l3,.i l4,.i l5,.i l6,.sl BR ks,.b st,.b sp,.sl (.sl (.sl .u8)) rb,.i ru,.i vc,.b sf,.i dr,.sl sesT ss,.sl objT ob,.sl .i64 rl,.sl .i64 wl],.i 0]) []):=by
 have k1:=A0P sd au en ac re rs ck od su mc ix l1 l2 l3 l4 l5 l6 ks st sp rb ru vc sf dr ss ob rl wl h p1 p2 p3 p4 p5 s1 s2 s3 hr hh hix hol hx zaa h5
 have k2:=aW sd au en ac re rs ck od su mc ix l1 l2 l3 l4 l5 l6 ks st sp rb ru vc sf dr ss ob rl wl c hs az qi qb se nn v h h hix
 have b1:Ar .and (BU 31 (BP 0).toNat) 1=1:=by
  rw[show(BP 0).toNat=0 from by rw[Ip];rfl,Hf zaa];exact(I5 1 zad _).trans zak
 refine tq ?_
 rw[k1]
 refine tq ?_
 rw[k2]
 conv=>lhs;whnf
 rw[Fg zaa]
 conv=>lhs;whnf
 rw[TG zaa]
 conv=>lhs;whnf
 rw[Jc zaG]
 conv=>lhs;whnf
 rw[DY zaa]
 conv=>lhs;whnf
 try dsimp -iota -beta -eta -zeta only
 rw[drw zaj];conv=>lhs;whnf
 rw[Gz zaa]
 conv=>lhs;whnf
 rw[AO]
 conv=>lhs;whnf
 rw[Gz zaa]
 conv=>lhs;whnf
 rw[b1]
 conv=>lhs;whnf
 rw[Jc zaa]
 conv=>lhs;whnf
 rw[DY zaa]
 conv=>lhs;whnf
 rw[IY zaa]
 conv=>lhs;whnf
 rw[AO]
 conv=>lhs;whnf
 rw[DY zaa]
 conv=>lhs;whnf
 rw[DF];conv=>lhs;whnf
 rw[Xd zaG]
 conv=>lhs;whnf
 rw[DF];conv=>lhs;whnf
theorem A4Q(c:Int)(nn v:List UInt8)(az:List (El AQ))(qi:List Int)(qb:List (List UInt8))(se h:Int)(p1 p2 p3:Int)(p4 p5 s1 s2 s3:List UInt8)(hr:Int)(x2:List UInt8)(hh:512<=h/\h<=515)(hix:ix=[])(hol:ob.length<=1000)(hx:En ob h=some ((p1,p2,p3,p4,p5),(s1,s2,s3),hr))(h4:p4.length=32)(h5:p5.length<=1000)(hru:ru ≠ -1)(hsl:ss.length<=1000)(hse:0<=se-768/\se-768<ss.length)(hsg:Ai ss (se-768)=some (2,x2,p4,ru,31,0,0,false)):Y E0 (.call 164 [.agg [.sl (.sl .u8) sd,.sl (.sl .u8) au,.sl .u8 en,.i ac,.i re,.i rs,.i ck,.b od,.sl (.sl (.sl .u8)) [],.i su,.i mc,.sl AL ix,.i l1,.i l2,.i l3,.i l4,.i l5,.i l6,.sl BR ks,.b st,.b sp,.sl (.sl (.sl .u8)) rb,.i ru,.i vc,.b sf,.i dr,.sl sesT ss,.sl objT ob,.sl .i64 rl,.sl .i64 wl],.i 0,rq c [h] ((se,nn,v)::az) qi qb] [])=some (.ret (.tup [.agg [.sl (.sl .u8) sd,.sl (.sl .u8) au,.sl .u8 en,.i ac,.i re,.i rs,.i ck,.b od,.sl (.sl (.sl .u8)) [],.i su,.i mc,.sl AL ix,.i l1,.i l2,.i l3,.i l4,.i l5,.i l6,.sl BR ks,.b st,.b sp,.sl (.sl (.sl .u8)) rb,.i ru,.i vc,.b sf,.i dr,.sl sesT ss,.sl objT ob,.sl .i64 rl,.sl .i64 wl],.i 0]) []):=by
 have k1:=A6i sd au en ac re rs ck od su mc ix l1 l2 l3 l4 l5 l6 ks st sp rb ru vc sf dr ss ob rl wl c [h] ((se,nn,v)::az) qi qb se nn v h p1 p2 p3 p4 p5 s1 s2 s3 hr x2 hh hix hol hx h4 h5 hru
 have k2:=Yb sd au en ac re rs ck od su mc ix l1 l2 l3 l4 l5 l6 ks st sp rb ru vc sf dr ss ob rl wl se 2 ru 31 0 0 x2 p4 false hsl hse hsg zaa
 refine tq ?_
 rw[k2]
 refine tq ?_
 rw[k1]
 exact tq rfl
theorem A6j(c:Int)(hs:List Int)(nn v:List UInt8)(az:List (El AQ))(qi:List Int)(qb:List (List UInt8))(se u l cm dl:Int)(n d:List UInt8)(b:Bool)(hsl:ss.length<=1000)(hse:0<=se-768/\se-768<ss.length)(hsg:Ai ss (se-768)=some (2,n,d,u,l,cm,dl,b)):Y E0 (.call 166 [.agg [.sl (.sl .u8) sd,.sl (.sl .u8) au,.sl .u8 en,.i ac,.i re,.i rs,.i ck,.b od,.sl (.sl (.sl .u8)) [],.i su,.i mc,.sl AL ix,.i l1,.i l2,.i l3,.i l4,.i l5,.i l6,.sl BR ks,.b st,.b sp,.sl (.sl (.sl .u8)) rb,.i ru,.i vc,.b sf,.i dr,.sl sesT ss,.sl objT ob,.sl .i64 rl,.sl .i64 wl],rq c hs ((se,nn,v)::az) qi qb] [])=some (.ret (.tup [.agg [.sl (.sl .u8) sd,.sl (.sl .u8) au,.sl .u8 en,.i ac,.i re,.i rs,.i ck,.b od,.sl (.sl (.sl .u8)) [],.i su,.i mc,.sl AL ix,.i l1,.i l2,.i l3,.i l4,.i l5,.i l6,.sl BR ks,.b st,.b sp,.sl (.sl (.sl .u8)) rb,.i ru,.i vc,.b sf,.i dr,.sl sesT (BH ss (se-768) A3B),.sl objT ob,.sl .i64 rl,.sl .i64 wl],.sl (.sl .u8) []]) []):=by
 have k2:=Yb sd au en ac re rs ck od su mc ix l1 l2 l3 l4 l5 l6 ks st sp rb ru vc sf dr ss ob rl wl se 2 u l cm dl n d b hsl hse hsg zaa
 have k3:=nZ sd au en ac re rs ck od [] su mc ix l1 l2 l3 l4 l5 l6 ks st sp rb ru vc sf dr ss ob rl wl se 2 u l cm dl n d b hsl hse hsg zaa
 refine tq ?_
 rw[k2]
 refine tq ?_
 rw[k3]
 exact tq rfl
theorem fQ(h:Int)(az:List (El AQ))(is:List Int)(bs:List (List UInt8))(p1 p2 p3:Int)(p4 p5 s1 s2 s3:List UInt8)(hr:Int)(hh:512<=h/\h<=515)(hix:ix=[])(hol:ob.length<=1000)(hx:En ob h=some ((p1,p2,p3,p4,p5),(s1,s2,s3),hr))(h4:p4.length<=1000)(h5:p5.length<=1000):Y E0 (.call 162 [.agg [.sl (.sl .u8) sd,.sl (.sl .u8) au,.sl .u8 en,.i ac,.i re,.i rs,.i ck,.b od,.sl (.sl (.sl .u8)) [],.i su,.i mc,.sl AL ix,.i l1,.i l2,.i l3,.i l4,.i l5,.i l6,.sl BR ks,.b st,.b sp,.sl (.sl (.sl .u8)) rb,.i ru,.i vc,.b sf,.i dr,.sl sesT ss,.sl objT ob,.sl .i64 rl,.sl .i64 wl],rq 13 [h] az is bs] [])=some (.ret (.b true) []):=by
 have hn:=Yd sd au en ac re rs ck od su mc ix l1 l2 l3 l4 l5 l6 ks st sp rb ru vc sf dr ss ob rl wl h p1 p2 p3 p4 p5 s1 s2 s3 hr hh hix hol hx h4 h5
 have l0:=UA sd au en ac re rs ck od su mc ix l1 l2 l3 l4 l5 l6 ks st sp rb ru vc sf dr ss ob rl wl 13 [h] az is bs zak (fun x hx=>by simp at hx;subst hx;exact⟨_,hn⟩) 1 0 rfl
 have k2:=JR sd au en ac re rs ck od [] su mc ix l1 l2 l3 l4 l5 l6 ks st sp rb ru vc sf dr ss ob rl wl h p1 p2 p3 p4 p5 s1 s2 s3 hr hol hx
 have e2:Ap [h]=1:=zaK
 rw[show((List.length [h]:Nat):Int)=1 from rfl,show((0:Nat):Int)=0 from rfl] at l0
 refine tq ?_
 simp only[e2,Nat.reduceAdd];rw[l0]
 conv=>lhs;whnf
 rw[e2]
 refine tq ?_
 rw[k2]
 conv=>lhs;whnf
 (congr 3;simp only[J3,Jo,Jd,Jp,DF,IB,AC];first|rfl|(rw[decide_eq_decide];omega)|(simp;omega))
theorem uM(h:Int)(az:List (El AQ))(is:List Int)(bs:List (List UInt8))(p1 p2 p3:Int)(p4 p5 s1 s2 s3:List UInt8)(hr:Int)(hol:ob.length<=1000)(hx:En ob h=some ((p1,p2,p3,p4,p5),(s1,s2,s3),hr))(h3:p1=3):Y E0 (.call 165 [.agg [.sl (.sl .u8) sd,.sl (.sl .u8) au,.sl .u8 en,.i ac,.i re,.i rs,.i ck,.b od,.sl (.sl (.sl .u8)) [],.i su,.i mc,.sl AL ix,.i l1,.i l2,.i l3,.i l4,.i l5,.i l6,.sl BR ks,.b st,.b sp,.sl (.sl (.sl .u8)) rb,.i ru,.i vc,.b sf,.i dr,.sl sesT ss,.sl objT ob,.sl .i64 rl,.sl .i64 wl],rq 13 [h] az is bs] [])=some (.ret (.tup [.agg [.sl (.sl .u8) sd,.sl (.sl .u8) au,.sl .u8 en,.i ac,.i re,.i rs,.i ck,.b od,.sl (.sl (.sl .u8)) [],.i su,.i mc,.sl AL ix,.i l1,.i l2,.i l3,.i l4,.i l5,.i l6,.sl BR ks,.b st,.b sp,.sl (.sl (.sl .u8)) rb,.i ru,.i vc,.b sf,.i dr,.sl sesT ss,.sl objT ob,.sl .i64 rl,.sl .i64 wl],JC 0 [] [s3] []]) []):=by
 have k:=eP sd au en ac re rs ck od [] su mc ix l1 l2 l3 l4 l5 l6 ks st sp rb ru vc sf dr ss ob rl wl 13 h [] az is bs p1 p2 p3 p4 p5 s1 s2 s3 hr hol zak hx h3
 refine tq ?_
 rw[k]
 exact tq rfl
theorem A6k(h se:Int)(nn v:List UInt8)(p1 p2 p3:Int)(p4 p5 s1 s2 s3:List UInt8)(hr:Int)(x2:List UInt8)(hst:st=true)(hh:512<=h/\h<=515)(hix:ix=[])(hol:ob.length<=1000)(hx:En ob h=some ((p1,p2,p3,p4,p5),(s1,s2,s3),hr))(h3:p1=3)(h4:p4.length=32)(h5:p5.length<=1000)(hru:ru ≠ -1)(hsl:ss.length<=1000)(hse:0<=se-768/\se-768<ss.length)(hsg:Ai ss (se-768)=some (2,x2,p4,ru,31,0,0,false))(hq:rqG 13 0 [h] [(se,nn,v)] [] []):Y E0 (.call 131 [.agg [.sl (.sl .u8) sd,.sl (.sl .u8) au,.sl .u8 en,.i ac,.i re,.i rs,.i ck,.b od,.sl (.sl (.sl .u8)) [],.i su,.i mc,.sl AL ix,.i l1,.i l2,.i l3,.i l4,.i l5,.i l6,.sl BR ks,.b st,.b sp,.sl (.sl (.sl .u8)) rb,.i ru,.i vc,.b sf,.i dr,.sl sesT ss,.sl objT ob,.sl .i64 rl,.sl .i64 wl],.i 0,rq 13 [h] [(se,nn,v)] [] []] [])=some (.ret (.tup [.agg [.sl (.sl .u8) sd,.sl (.sl .u8) au,.sl .u8 en,.i ac,.i re,.i rs,.i ck,.b od,.sl (.sl (.sl .u8)) [],.i su,.i mc,.sl AL ix,.i l1,.i l2,.i l3,.i l4,.i l5,.i l6,.sl BR ks,.b st,.b sp,.sl (.sl (.sl .u8)) rb,.i ru,.i vc,.b sf,.i dr,.sl sesT (BH ss (se-768) A3B),.sl objT ob,.sl .i64 rl,.sl .i64 wl],JC 0 [] [s3] []]) []):=by
 have k1:=NT hq
 have k2:=fQ sd au en ac re rs ck od su mc ix l1 l2 l3 l4 l5 l6 ks st sp rb ru vc sf dr ss ob rl wl h [(se,nn,v)] [] [] p1 p2 p3 p4 p5 s1 s2 s3 hr hh hix hol hx zaa h5
 have k3:=A4Q sd au en ac re rs ck od su mc ix l1 l2 l3 l4 l5 l6 ks st sp rb ru vc sf dr ss ob rl wl 13 nn v [] [] [] se h p1 p2 p3 p4 p5 s1 s2 s3 hr x2 hh hix hol hx h4 h5 hru hsl hse hsg
 have k4:=uM sd au en ac re rs ck od su mc ix l1 l2 l3 l4 l5 l6 ks st sp rb ru vc sf dr ss ob rl wl h [(se,nn,v)] [] [] p1 p2 p3 p4 p5 s1 s2 s3 hr hol hx h3
 have k5:=A6j sd au en ac re rs ck od su mc ix l1 l2 l3 l4 l5 l6 ks st sp rb ru vc sf dr ss ob rl wl 13 [h] nn v [] [] [] se ru 31 0 0 x2 p4 false hsl hse hsg
 subst hst
 refine tq ?_
 rw[k1]
 refine tq ?_
 rw[k2]
 refine tq ?_
 rw[k3]
 refine tq ?_
 rw[k4]
 conv=>lhs;whnf
 rw[AO]
 conv=>lhs;whnf
 rw[DY zaa]
 conv=>lhs;whnf
 try dsimp -iota -beta -eta -zeta only
 rw[Ak]
 rw[k5]
 exact tq rfl
end
section
attribute [local irreducible] Bl CQ CS Bo Bg Ar CU Dw EN Dy EC Bf BU Bv Bz and' C9 CB BK Au BA BL BN Aa Ad AP AZ CV Dq CW DI CE BP BM BF BG BB AU BC Ae Ap Ai CX BH Bh Ba BO CG CY CJ fits CZ CO A8 AA Ac
theorem A6l(f:Int)(hf:0<=f/\f<=5):Y E0 (.call 335 [.agg [.i f,.i 5,.i 100,.i 0,.i 0,.i 1000],.i 0] [])=some (.ret (.agg [.i f,.i 5,.i 100,.i 0,.i 0,.i 1000]) []):=by
 refine tq ?_
 rcases FK f 0 with hc0|hc0
 ·
  subst hc0
  rw[Ff zaa]
  conv=>lhs;whnf
 rw[Jc zaa]
 conv=>lhs;whnf
 refine tq ?_
 rw[DU (a:=0) (b:=0) zaa]
 refine tq ?_
 (rw[show min f ((0-0)/100)=0 from by omega];simp)
theorem A4R(f:Int)(hf:0<=f/\f<5):Y E0 (.call 294 [.agg [.i f,.i 5,.i 100,.i 0,.i 0,.i 1000],.i 0] [])=some (.ret (.b false) []):=by
 refine tq ?_
 rw[A6l _ Aq]
 conv=>lhs;whnf
 try dsimp -iota -beta -eta -zeta only
 rw[drw zaj];conv=>lhs;whnf
 (congr 3;simp only[J3,Jo,Jd,Jp,DF,IB,AC];first|rfl|(rw[decide_eq_decide];omega)|(simp;omega))
theorem A0Q(h:Int)(p1 p2 p3:Int)(p4 p5 s1 s2 s3:List UInt8)(hr:Int)(hh:512<=h/\h<=515)(hix:ix=[])(hol:ob.length<=1000)(hx:En ob h=some ((p1,p2,p3,p4,p5),(s1,s2,s3),hr))(h4:p4.length<=1000)(h5:p5.length<=1000):Y E0 (.call 237 [.agg [.sl (.sl .u8) sd,.sl (.sl .u8) au,.sl .u8 en,.i ac,.i re,.i rs,.i ck,.b od,.sl (.sl (.sl .u8)) [],.i su,.i mc,.sl AL ix,.i l1,.i l2,.i l3,.i l4,.i l5,.i l6,.sl BR ks,.b st,.b sp,.sl (.sl (.sl .u8)) rb,.i ru,.i vc,.b sf,.i dr,.sl sesT ss,.sl objT ob,.sl .i64 rl,.sl .i64 wl],.i h] [])=some (.ret (.tup [.sl .u8 s1,.i 0]) []):=by
 have k:=OX sd au en ac re rs ck od su mc ix l1 l2 l3 l4 l5 l6 ks st sp rb ru vc sf dr ss ob rl wl h p1 p2 p3 p4 p5 s1 s2 s3 hr hh hix hol hx h4 h5
 refine tq ?_
 rw[k]
 exact tq rfl
theorem uN(h:Int)(p1 p2 p3:Int)(p4 p5 s1 s2 s3:List UInt8)(hr:Int)(hh:512<=h/\h<=515)(hix:ix=[])(hol:ob.length<=1000)(hx:En ob h=some ((p1,p2,p3,p4,p5),(s1,s2,s3),hr))(h4:p4.length<=1000)(h5:p5.length<=1000):Y E0 (.call 293 [.agg [.sl (.sl .u8) sd,.sl (.sl .u8) au,.sl .u8 en,.i ac,.i re,.i rs,.i ck,.b od,.sl (.sl (.sl .u8)) [],.i su,.i mc,.sl AL ix,.i l1,.i l2,.i l3,.i l4,.i l5,.i l6,.sl BR ks,.b st,.b sp,.sl (.sl (.sl .u8)) rb,.i ru,.i vc,.b sf,.i dr,.sl sesT ss,.sl objT ob,.sl .i64 rl,.sl .i64 wl],.i h] [])=some (.ret (.b (Dw (Ar .and p2 2) 0)) []):=by
 have k:=OX sd au en ac re rs ck od su mc ix l1 l2 l3 l4 l5 l6 ks st sp rb ru vc sf dr ss ob rl wl h p1 p2 p3 p4 p5 s1 s2 s3 hr hh hix hol hx h4 h5
 refine tq ?_
 rw[k]
 exact tq rfl
theorem uO(c:Int)(hs:List Int)(az:List (El AQ))(qi:List Int)(qb:List (List UInt8))(se:Int)(nn v:List UInt8)(h:Int)(p1 p2 p3:Int)(p4 p5 s1 s2 s3:List UInt8)(hr:Int)(hh:512<=h/\h<=515)(hix:ix=[])(hol:ob.length<=1000)(hx:En ob h=some ((p1,p2,p3,p4,p5),(s1,s2,s3),hr))(ha:Ar .and p2 1=1):Y E0 (.call 235 [.agg [.sl (.sl .u8) sd,.sl (.sl .u8) au,.sl .u8 en,.i ac,.i re,.i rs,.i ck,.b od,.sl (.sl (.sl .u8)) [],.i su,.i mc,.sl AL ix,.i l1,.i l2,.i l3,.i l4,.i l5,.i l6,.sl BR ks,.b st,.b sp,.sl (.sl (.sl .u8)) rb,.i ru,.i vc,.b sf,.i dr,.sl sesT ss,.sl objT ob,.sl .i64 rl,.sl .i64 wl,.i c,.sl .i64 hs,.sl AQ az,.sl .i64 qi,.sl (.sl .u8) qb,.i se,.sl .u8 nn,.sl .u8 v,.i h]] [])=some (.ret (.b false) []):=by
 have k1:=aW sd au en ac re rs ck od su mc ix l1 l2 l3 l4 l5 l6 ks st sp rb ru vc sf dr ss ob rl wl c hs az qi qb se nn v h h hix
 have k2:=JR sd au en ac re rs ck od [] su mc ix l1 l2 l3 l4 l5 l6 ks st sp rb ru vc sf dr ss ob rl wl h p1 p2 p3 p4 p5 s1 s2 s3 hr hol hx
 refine tq ?_
 rw[k2]
 refine tq ?_
 rw[k1]
 conv=>lhs;whnf
 rw[Ff zaa]
 conv=>lhs;whnf
 (congr 3;simp only[J3,Jo,Jd,Jp,DF,IB,AC];first|rfl|(rw[decide_eq_decide];omega)|(simp;omega))
theorem uP(c:Int)(hs:List Int)(az:List (El AQ))(qi:List Int)(qb:List (List UInt8))(se:Int)(nn v:List UInt8)(h:Int)(p1 p2 p3:Int)(p4 p5 s1 s2 s3:List UInt8)(hr:Int)(b:Bool)(hh:512<=h/\h<=515)(hix:ix=[])(hol:ob.length<=1000)(hx:En ob h=some ((p1,p2,p3,p4,p5),(s1,s2,s3),hr))(h4:p4.length<=1000)(h5:p5.length<=1000)(hp:Ar .and p2 2=0)(hk:Y E0 (.call 294 [.agg [.i l1,.i l2,.i l3,.i l4,.i l5,.i l6],.i vc] [])=some (.ret (.b b) [])):Y E0 (.call 236 [.agg [.sl (.sl .u8) sd,.sl (.sl .u8) au,.sl .u8 en,.i ac,.i re,.i rs,.i ck,.b od,.sl (.sl (.sl .u8)) [],.i su,.i mc,.sl AL ix,.i l1,.i l2,.i l3,.i l4,.i l5,.i l6,.sl BR ks,.b st,.b sp,.sl (.sl (.sl .u8)) rb,.i ru,.i vc,.b sf,.i dr,.sl sesT ss,.sl objT ob,.sl .i64 rl,.sl .i64 wl,.i c,.sl .i64 hs,.sl AQ az,.sl .i64 qi,.sl (.sl .u8) qb,.i se,.sl .u8 nn,.sl .u8 v,.i h]] [])=some (.ret (.b b) []):=by
 have k:=uN sd au en ac re rs ck od su mc ix l1 l2 l3 l4 l5 l6 ks st sp rb ru vc sf dr ss ob rl wl h p1 p2 p3 p4 p5 s1 s2 s3 hr hh hix hol hx h4 h5
 rw[Ff hp] at k
 refine tq ?_
 rw[k]
 refine tq ?_
 rw[A0D ..]
 refine tq ?_
 rw[hk]
 exact tq rfl
theorem A0R(c:Int)(hs:List Int)(az:List (El AQ))(qi:List Int)(qb:List (List UInt8))(se:Int)(nn v:List UInt8)(h:Int)(p1 p2 p3:Int)(p4 p5 s2 s3:List UInt8)(hr:Int)(hh:512<=h/\h<=515)(hix:ix=[])(hol:ob.length<=1000)(hx:En ob h=some ((p1,p2,p3,p4,p5),(v,s2,s3),hr))(h4:p4.length<=1000)(h5:p5.length<=1000)(ha:Ar .and p2 1=1)(hp:Ar .and p2 2=0)(hk:Y E0 (.call 294 [.agg [.i l1,.i l2,.i l3,.i l4,.i l5,.i l6],.i vc] [])=some (.ret (.b false) []))(hvl:v.length<=1000):Y E0 (.call 194 [.agg [.sl (.sl .u8) sd,.sl (.sl .u8) au,.sl .u8 en,.i ac,.i re,.i rs,.i ck,.b od,.sl (.sl (.sl .u8)) [],.i su,.i mc,.sl AL ix,.i l1,.i l2,.i l3,.i l4,.i l5,.i l6,.sl BR ks,.b st,.b sp,.sl (.sl (.sl .u8)) rb,.i ru,.i vc,.b sf,.i dr,.sl sesT ss,.sl objT ob,.sl .i64 rl,.sl .i64 wl,.i c,.sl .i64 hs,.sl AQ az,.sl .i64 qi,.sl (.sl .u8) qb,.i se,.sl .u8 nn,.sl .u8 v,.i h],zH 0 [] [] 0 0 0 0 false] [])=some (.ret (.tup [.agg [.sl (.sl .u8) sd,.sl (.sl .u8) au,.sl .u8 en,.i ac,.i re,.i rs,.i ck,.b od,.sl (.sl (.sl .u8)) [],.i su,.i mc,.sl AL ix,.i l1,.i l2,.i l3,.i l4,.i l5,.i l6,.sl BR ks,.b st,.b sp,.sl (.sl (.sl .u8)) rb,.i ru,.i vc,.b sf,.i dr,.sl sesT ss,.sl objT ob,.sl .i64 rl,.sl .i64 wl],.i 0]) []):=by
 have k1:=uO sd au en ac re rs ck od su mc ix l1 l2 l3 l4 l5 l6 ks st sp rb ru vc sf dr ss ob rl wl c hs az qi qb se nn v h p1 p2 p3 p4 p5 v s2 s3 hr hh hix hol hx ha
 have k2:=uP sd au en ac re rs ck od su mc ix l1 l2 l3 l4 l5 l6 ks st sp rb ru vc sf dr ss ob rl wl c hs az qi qb se nn v h p1 p2 p3 p4 p5 v s2 s3 hr false hh hix hol hx h4 h5 hp hk
 have k3:=A0Q sd au en ac re rs ck od su mc ix l1 l2 l3 l4 l5 l6 ks st sp rb ru vc sf dr ss ob rl wl h p1 p2 p3 p4 p5 v s2 s3 hr hh hix hol hx h4 h5
 have k4:=aT sd au en ac re rs ck od su mc ix l1 l2 l3 l4 l5 l6 ks st sp rb ru vc sf dr ss ob rl wl c hs az qi qb se nn v h v zaa
 refine tq ?_
 rw[k1]
 refine tq ?_
 rw[k2]
 refine tq ?_
 rw[k3]
 refine tq ?_
 rw[k4]
 exact tq rfl
theorem A0S(c h:Int)(hs:List Int)(nn v:List UInt8)(az:List (El AQ))(qi:List Int)(qb:List (List UInt8))(p1 p2 p3:Int)(p4 p5 s2 s3:List UInt8)(hr:Int)(hh:512<=h/\h<=515)(hix:ix=[])(hol:ob.length<=1000)(hx:En ob h=some ((p1,p2,p3,p4,p5),(v,s2,s3),hr))(h4:p4.length<=1000)(h5:p5.length<=1000)(ha:Ar .and p2 1=1)(hp:Ar .and p2 2=0)(hk:Y E0 (.call 294 [.agg [.i l1,.i l2,.i l3,.i l4,.i l5,.i l6],.i vc] [])=some (.ret (.b false) []))(hvl:v.length<=1000):Y E0 (.call 164 [.agg [.sl (.sl .u8) sd,.sl (.sl .u8) au,.sl .u8 en,.i ac,.i re,.i rs,.i ck,.b od,.sl (.sl (.sl .u8)) [],.i su,.i mc,.sl AL ix,.i l1,.i l2,.i l3,.i l4,.i l5,.i l6,.sl BR ks,.b st,.b sp,.sl (.sl (.sl .u8)) rb,.i ru,.i vc,.b sf,.i dr,.sl sesT ss,.sl objT ob,.sl .i64 rl,.sl .i64 wl],.i 0,rq c (h::hs) ((0,nn,v)::az) qi qb] [])=some (.ret (.tup [.agg [.sl (.sl .u8) sd,.sl (.sl .u8) au,.sl .u8 en,.i ac,.i re,.i rs,.i ck,.b od,.sl (.sl (.sl .u8)) [],.i su,.i mc,.sl AL ix,.i l1,.i l2,.i l3,.i l4,.i l5,.i l6,.sl BR ks,.b st,.b sp,.sl (.sl (.sl .u8)) rb,.i ru,.i vc,.b sf,.i dr,.sl sesT ss,.sl objT ob,.sl .i64 rl,.sl .i64 wl],.i 0]) []):=by
 have k:=A0R sd au en ac re rs ck od su mc ix l1 l2 l3 l4 l5 l6 ks st sp rb ru vc sf dr ss ob rl wl c (h::hs) ((0,nn,v)::az) qi qb 0 nn v h p1 p2 p3 p4 p5 s2 s3 hr hh hix hol hx h4 h5 ha hp hk hvl
 refine tq ?_
 rw[k]
 exact tq rfl
end
section
attribute [local irreducible] Bl CQ CS Bo Bg Ar CU Dw EN Dy EC Bf BU Bv Bz and' C9 CB BK Au BA BL BN Aa Ad AP AZ CV Dq CW DI CE BP BM BF BG BB AU BC Ae Ap Ai CX BH Bh Ba BO CG CY CJ fits CZ CO A8 AA Ac
attribute [local irreducible] Ef ES FN nameB
theorem A0T(b:List (List UInt8))(i:Int)(d:List UInt8)(hb:EF 32 b)(hd:d.length<=100):Y E0 (.loop 187 0 0 6 [(1,.i 4),(3,.pa 0 0),(5,.pa 1 0),(6,.pa 2 0),(7,.pa 3 0),(8,.pa 4 0),(10,.pa 5 0),(77,.i 0)] [(0,some (.var [.sl (.sl .u8) sd,.sl (.sl .u8) au,.sl .u8 en,.i ac,.i re,.i rs,.i ck,.b od,.sl (.sl (.sl .u8)) [],.i su,.i mc,.sl AL ix,.i l1,.i l2,.i l3,.i l4,.i l5,.i l6,.sl BR ks,.b st,.b sp,.sl (.sl (.sl .u8)) [[],b],.i ru,.i vc,.b sf,.i dr,.sl sesT ss,.sl objT ob,.sl .i64 rl,.sl .i64 wl])),(1,some (.var [.i 7,.sl .i64 [],.sl AQ [],.sl .i64 [i],.sl (.sl .u8) [d]])),(2,some (.var [.nil,.nil,.nil,.i 0,.i 0,.i 0,.i 0,.b false,.nil,.i 0,.i 0,.nil,.i 0,.i 0,.i 0,.i 0,.i 0,.i 0,.nil,.b false,.b false,.nil,.i 0,.i 0,.b false,.i 0,.nil,.nil,.nil,.nil])),(3,some (.var [.i 0,.nil,.nil,.nil])),(4,some (.var [.sl (.sl (.sl .u8)) [[],b],.i ru])),(5,some (.var [.i 0,.nil,.nil,.nil]))])=some (.fin (.exit 1) 7 [(1,.i 4),(3,.pa 0 0),(5,.pa 1 0),(6,.pa 2 0),(7,.pa 3 0),(8,.pa 4 0),(10,.pa 5 0)] [(0,some (.var [.sl (.sl .u8) sd,.sl (.sl .u8) au,.sl .u8 en,.i ac,.i re,.i rs,.i ck,.b od,.sl (.sl (.sl .u8)) [],.i su,.i mc,.sl AL ix,.i l1,.i l2,.i l3,.i l4,.i l5,.i l6,.sl BR ks,.b st,.b sp,.sl (.sl (.sl .u8)) [[],b],.i ru,.i vc,.b sf,.i dr,.sl sesT ss,.sl objT ob,.sl .i64 rl,.sl .i64 wl])),(1,some (.var [.i 7,.sl .i64 [],.sl AQ [],.sl .i64 [i],.sl (.sl .u8) [d]])),(2,some (.var [.nil,.nil,.nil,.i 0,.i 0,.i 0,.i 0,.b false,.nil,.i 0,.i 0,.nil,.i 0,.i 0,.i 0,.i 0,.i 0,.i 0,.nil,.b false,.b false,.nil,.i 0,.i 0,.b false,.i 0,.nil,.nil,.nil,.nil])),(3,some (.var [.i 0,.nil,.nil,.nil])),(4,some (.var [.sl (.sl (.sl .u8)) [[],b],.i ru])),(5,some (.var [.i 0,.nil,.nm 6,.nil])),(6,some (.row 22 (.sl .u8) (BO [[]] [sha256 d])))]):=by
 have v0:=A3j b ru hb
 obtain⟨y,v1⟩:=A3k b ru hb
 refine tq ?_
 rw[v0]
 refine tq ?_
 refine tq ?_
 rw[show(0:Int)+1=1 from rfl,v1]
 refine tq ?_
 rw[Gm _ Aq]
 refine tq ?_
 exact tq rfl
theorem A6m(b:List (List UInt8))(i:Int)(d x:List UInt8)(hrb:rb=[[],b])(hb:EF 32 b)(hu:0<=ru/\ru<=1000000)(hi:0<=i/\i<16)(hd:d.length<=100)(hg:Ai b i=some x):Y E0 (.call 187 [.agg [.sl (.sl .u8) sd,.sl (.sl .u8) au,.sl .u8 en,.i ac,.i re,.i rs,.i ck,.b od,.sl (.sl (.sl .u8)) [],.i su,.i mc,.sl AL ix,.i l1,.i l2,.i l3,.i l4,.i l5,.i l6,.sl BR ks,.b st,.b sp,.sl (.sl (.sl .u8)) rb,.i ru,.i vc,.b sf,.i dr,.sl sesT ss,.sl objT ob,.sl .i64 rl,.sl .i64 wl],.i 4,rq 7 [] [] [i] [d]] [])=some (.ret (.tup [.agg [.sl (.sl .u8) sd,.sl (.sl .u8) au,.sl .u8 en,.i ac,.i re,.i rs,.i ck,.b od,.sl (.sl (.sl .u8)) [],.i su,.i mc,.sl AL ix,.i l1,.i l2,.i l3,.i l4,.i l5,.i l6,.sl BR ks,.b st,.b sp,.sl (.sl (.sl .u8)) [[],BH b i (sha256 (BO x (sha256 d)))],.i (ru+1),.i vc,.b sf,.i dr,.sl sesT ss,.sl objT ob,.sl .i64 rl,.sl .i64 wl],JC 0 [] [[],sha256 d] []]) []):=by
 have k3:=zx b ru hb hu i hi d x hd hg
 subst hrb
 have e:BO [[]] [sha256 d]=[[],sha256 d]:=by rw[Am];rfl
 have hl:=A0T sd au en ac re rs ck od su mc ix l1 l2 l3 l4 l5 l6 ks st sp ru vc sf dr ss ob rl wl b i d hb hd
 rw[e] at hl
 refine tq ?_
 rw[hl]
 refine tq ?_
 rw[k3]
 exact tq rfl
theorem A8w(b:List (List UInt8))(i:Int)(d x:List UInt8)(hrb:rb=[[],b])(hb:EF 32 b)(hu:0<=ru/\ru<=1000000)(hi:0<=i/\i<16)(hd:d.length<=100)(hg:Ai b i=some x):Y E0 (.call 163 [.agg [.sl (.sl .u8) sd,.sl (.sl .u8) au,.sl .u8 en,.i ac,.i re,.i rs,.i ck,.b od,.sl (.sl (.sl .u8)) [],.i su,.i mc,.sl AL ix,.i l1,.i l2,.i l3,.i l4,.i l5,.i l6,.sl BR ks,.b st,.b sp,.sl (.sl (.sl .u8)) rb,.i ru,.i vc,.b sf,.i dr,.sl sesT ss,.sl objT ob,.sl .i64 rl,.sl .i64 wl],.i 4,rq 7 [] [] [i] [d]] [])=some (.ret (.tup [.agg [.sl (.sl .u8) sd,.sl (.sl .u8) au,.sl .u8 en,.i ac,.i re,.i rs,.i ck,.b od,.sl (.sl (.sl .u8)) [],.i su,.i mc,.sl AL ix,.i l1,.i l2,.i l3,.i l4,.i l5,.i l6,.sl BR ks,.b st,.b sp,.sl (.sl (.sl .u8)) [[],BH b i (sha256 (BO x (sha256 d)))],.i (ru+1),.i vc,.b sf,.i dr,.sl sesT ss,.sl objT ob,.sl .i64 rl,.sl .i64 wl],JC 0 [] [[],sha256 d] []]) []):=by
 have k:=A6m sd au en ac re rs ck od su mc ix l1 l2 l3 l4 l5 l6 ks st sp rb ru vc sf dr ss ob rl wl b i d x hrb hb hu hi hd hg
 refine tq ?_
 rw[k]
 exact tq rfl
theorem A6n(b:List (List UInt8))(i:Int)(d x:List UInt8)(hst:st=true)(hrb:rb=[[],b])(hb:EF 32 b)(hu:0<=ru/\ru<=1000000)(hi:0<=i/\i<16)(hd:d.length<=100)(hg:Ai b i=some x)(hq:rqG 7 1 [] [] [i] [d]):Y E0 (.call 131 [.agg [.sl (.sl .u8) sd,.sl (.sl .u8) au,.sl .u8 en,.i ac,.i re,.i rs,.i ck,.b od,.sl (.sl (.sl .u8)) [],.i su,.i mc,.sl AL ix,.i l1,.i l2,.i l3,.i l4,.i l5,.i l6,.sl BR ks,.b st,.b sp,.sl (.sl (.sl .u8)) rb,.i ru,.i vc,.b sf,.i dr,.sl sesT ss,.sl objT ob,.sl .i64 rl,.sl .i64 wl],.i 4,rq 7 [] [] [i] [d]] [])=some (.ret (.tup [.agg [.sl (.sl .u8) sd,.sl (.sl .u8) au,.sl .u8 en,.i ac,.i re,.i rs,.i ck,.b od,.sl (.sl (.sl .u8)) [],.i su,.i mc,.sl AL ix,.i l1,.i l2,.i l3,.i l4,.i l5,.i l6,.sl BR ks,.b st,.b sp,.sl (.sl (.sl .u8)) [[],BH b i (sha256 (BO x (sha256 d)))],.i (ru+1),.i vc,.b sf,.i dr,.sl sesT ss,.sl objT ob,.sl .i64 rl,.sl .i64 wl],JC 0 [] [[],sha256 d] []]) []):=by
 have k1:=NT hq
 have k2:=JV sd au en ac re rs ck od su mc ix l1 l2 l3 l4 l5 l6 ks st sp rb ru vc sf dr ss ob rl wl 7 [] [i] [d]
 have k3:=A8w sd au en ac re rs ck od su mc ix l1 l2 l3 l4 l5 l6 ks st sp rb ru vc sf dr ss ob rl wl b i d x hrb hb hu hi hd hg
 subst hst
 refine tq ?_
 rw[k1]
 refine tq ?_
 rw[k2]
 refine tq ?_
 rw[k3]
 exact tq rfl
theorem A6o(h:Int)(p1 p2 p3:Int)(p4 p5 s1 s2 s3:List UInt8)(hr:Int)(hh:512<=h/\h<=515)(hsl:ss.length<=1000)(hol:ob.length<=1000)(hz:ssI h ss<0)(hx:En ob h=some ((p1,p2,p3,p4,p5),(s1,s2,s3),hr))(hk:0<=h-512/\h-512<ob.length):Y E0 (.call 163 [.agg [.sl (.sl .u8) sd,.sl (.sl .u8) au,.sl .u8 en,.i ac,.i re,.i rs,.i ck,.b od,.sl (.sl (.sl .u8)) [],.i su,.i mc,.sl AL ix,.i l1,.i l2,.i l3,.i l4,.i l5,.i l6,.sl BR ks,.b st,.b sp,.sl (.sl (.sl .u8)) rb,.i ru,.i vc,.b sf,.i dr,.sl sesT ss,.sl objT ob,.sl .i64 rl,.sl .i64 wl],.i 0,rq 12 [] [] [h] []] [])=some (.ret (.tup [.agg [.sl (.sl .u8) sd,.sl (.sl .u8) au,.sl .u8 en,.i ac,.i re,.i rs,.i ck,.b od,.sl (.sl (.sl .u8)) [],.i su,.i mc,.sl AL ix,.i l1,.i l2,.i l3,.i l4,.i l5,.i l6,.sl BR ks,.b st,.b sp,.sl (.sl (.sl .u8)) rb,.i ru,.i vc,.b sf,.i dr,.sl sesT ss,.sl objT (BH ob (h-512) ((0,0,0,[],[]),([],[],[]),0)),.sl .i64 rl,.sl .i64 wl],JC 0 [] [] []]) []):=by
 have k3:=ng sd au en ac re rs ck od [] su mc ix l1 l2 l3 l4 l5 l6 ks st sp rb ru vc sf dr ss ob rl wl 12 h [] [] [] [] p1 p2 p3 p4 p5 s1 s2 s3 hr hsl hol zak zaa hz hx hk
 refine tq ?_
 rw[k3]
 exact tq rfl
theorem A6p(h:Int)(p1 p2 p3:Int)(p4 p5 s1 s2 s3:List UInt8)(hr:Int)(hst:st=true)(hh:512<=h/\h<=515)(hsl:ss.length<=1000)(hol:ob.length<=1000)(hz:ssI h ss<0)(hx:En ob h=some ((p1,p2,p3,p4,p5),(s1,s2,s3),hr))(hk:0<=h-512/\h-512<ob.length)(hq:rqG 12 0 [] [] [h] []):Y E0 (.call 131 [.agg [.sl (.sl .u8) sd,.sl (.sl .u8) au,.sl .u8 en,.i ac,.i re,.i rs,.i ck,.b od,.sl (.sl (.sl .u8)) [],.i su,.i mc,.sl AL ix,.i l1,.i l2,.i l3,.i l4,.i l5,.i l6,.sl BR ks,.b st,.b sp,.sl (.sl (.sl .u8)) rb,.i ru,.i vc,.b sf,.i dr,.sl sesT ss,.sl objT ob,.sl .i64 rl,.sl .i64 wl],.i 0,rq 12 [] [] [h] []] [])=some (.ret (.tup [.agg [.sl (.sl .u8) sd,.sl (.sl .u8) au,.sl .u8 en,.i ac,.i re,.i rs,.i ck,.b od,.sl (.sl (.sl .u8)) [],.i su,.i mc,.sl AL ix,.i l1,.i l2,.i l3,.i l4,.i l5,.i l6,.sl BR ks,.b st,.b sp,.sl (.sl (.sl .u8)) rb,.i ru,.i vc,.b sf,.i dr,.sl sesT ss,.sl objT (BH ob (h-512) ((0,0,0,[],[]),([],[],[]),0)),.sl .i64 rl,.sl .i64 wl],JC 0 [] [] []]) []):=by
 have k1:=NT hq
 have k2:=JV sd au en ac re rs ck od su mc ix l1 l2 l3 l4 l5 l6 ks st sp rb ru vc sf dr ss ob rl wl 12 [] [h] []
 have k3:=A6o sd au en ac re rs ck od su mc ix l1 l2 l3 l4 l5 l6 ks st sp rb ru vc sf dr ss ob rl wl h p1 p2 p3 p4 p5 s1 s2 s3 hr hh hsl hol hz hx hk
 subst hst
 refine tq ?_
 rw[k1]
 refine tq ?_
 rw[k2]
 refine tq ?_
 rw[k3]
 exact tq rfl
theorem fU(h:Int)(az:List (El AQ))(is:List Int)(bs:List (List UInt8))(p1 p2 p3:Int)(p4 p5 s1 s2 s3:List UInt8)(hr:Int)(hh:512<=h/\h<=515)(hix:ix=[])(hol:ob.length<=1000)(hx:En ob h=some ((p1,p2,p3,p4,p5),(s1,s2,s3),hr))(h4:p4.length<=1000)(h5:p5.length<=1000):Y E0 (.call 162 [.agg [.sl (.sl .u8) sd,.sl (.sl .u8) au,.sl .u8 en,.i ac,.i re,.i rs,.i ck,.b od,.sl (.sl (.sl .u8)) [],.i su,.i mc,.sl AL ix,.i l1,.i l2,.i l3,.i l4,.i l5,.i l6,.sl BR ks,.b st,.b sp,.sl (.sl (.sl .u8)) rb,.i ru,.i vc,.b sf,.i dr,.sl sesT ss,.sl objT ob,.sl .i64 rl,.sl .i64 wl],rq 15 [h] az is bs] [])=some (.ret (.b true) []):=by
 have hn:=Yd sd au en ac re rs ck od su mc ix l1 l2 l3 l4 l5 l6 ks st sp rb ru vc sf dr ss ob rl wl h p1 p2 p3 p4 p5 s1 s2 s3 hr hh hix hol hx h4 h5
 have l0:=UA sd au en ac re rs ck od su mc ix l1 l2 l3 l4 l5 l6 ks st sp rb ru vc sf dr ss ob rl wl 15 [h] az is bs zak (fun x hx=>by simp at hx;subst hx;exact⟨_,hn⟩) 1 0 rfl
 have k2:=JR sd au en ac re rs ck od [] su mc ix l1 l2 l3 l4 l5 l6 ks st sp rb ru vc sf dr ss ob rl wl h p1 p2 p3 p4 p5 s1 s2 s3 hr hol hx
 have e2:Ap [h]=1:=zaK
 rw[show((List.length [h]:Nat):Int)=1 from rfl,show((0:Nat):Int)=0 from rfl] at l0
 refine tq ?_
 simp only[e2,Nat.reduceAdd];rw[l0]
 conv=>lhs;whnf
 rw[e2]
 refine tq ?_
 rw[k2]
 conv=>lhs;whnf
 (congr 3;simp only[J3,Jo,Jd,Jp,DF,IB,AC];first|rfl|(rw[decide_eq_decide];omega)|(simp;omega))
theorem A6q(h mk:Int)(m:List UInt8)(p2:Int)(p4 p5 s2 s3:List UInt8)(hr:Int)(d:List UInt8)(hst:st=true)(hh:512<=h/\h<=515)(hix:ix=[])(hol:ob.length<=1000)(hx:En ob h=some ((2,p2,0,p4,p5),([],s2,s3),hr))(h4:p4.length<=1000)(h5:p5.length<=1000)(h2:s2.length<=1000)(ha:Ar .and p2 1=1)(ha4:Ar .and p2 4≠0)(hp:Ar .and p2 2=0)(hm:m.length<=128)(hkl:ks.length<=100)(hu:∀ x∈ks,0<=x.2/\x.2<=1000)(he:(FN ks p5 0).2.2=0)(hd:d.length<=1000)(hk:Y E0 (.call 294 [.agg [.i l1,.i l2,.i l3,.i l4,.i l5,.i l6],.i vc] [])=some (.ret (.b false) []))(hD:Y E0 (.call 256 [.agg [.sl (.sl (.sl .u8)) rb,.i ru],.agg [.i 0,.i mk]] [])=some (.ret (.tup [.sl .u8 d,.i 0]) []))(Q:List UInt8)(hQ:Ef ⟨nameB ⟨2,p2,0,p4,p5⟩,m,re,rs,vc,sf,ru,0,mk,d⟩=Q)(hq:rqG 15 1 [h] [(0,[],[])] [0,mk] [m]):
  Y E0 (.call 131 [.agg [.sl (.sl .u8) sd,.sl (.sl .u8) au,.sl .u8 en,.i ac,.i re,.i rs,.i ck,.b od,.sl (.sl (.sl .u8)) [],.i su,.i mc,.sl AL ix,.i l1,.i l2,.i l3,.i l4,.i l5,.i l6,.sl BR ks,.b st,.b sp,.sl (.sl (.sl .u8)) rb,.i ru,.i vc,.b sf,.i dr,.sl sesT ss,.sl objT ob,.sl .i64 rl,.sl .i64 wl],.i 0,rq 15 [h] [(0,[],[])] [0,mk] [m]] [])=some (.ret (.tup [.agg [.sl (.sl .u8) sd,.sl (.sl .u8) au,.sl .u8 en,.i ac,.i re,.i rs,.i ck,.b od,.sl (.sl (.sl .u8)) [],.i su,.i mc,.sl AL ix,.i l1,.i l2,.i l3,.i l4,.i l5,.i l6,.sl BR ((FN ks p5 0).1),.b st,.b sp,.sl (.sl (.sl .u8)) rb,.i ru,.i vc,.b sf,.i dr,.sl sesT ss,.sl objT ob,.sl .i64 rl,.sl .i64 wl],JC 0 [] [Q,ES s2 0 (FN ks p5 0).2.1 Q] []]) []):=by
 have k1:=NT hq
 have k2:=fU sd au en ac re rs ck od su mc ix l1 l2 l3 l4 l5 l6 ks st sp rb ru vc sf dr ss ob rl wl h [(0,[],[])] [0,mk] [m] 2 p2 0 p4 p5 [] s2 s3 hr hh hix hol hx h4 h5
 have k3:=A0S sd au en ac re rs ck od su mc ix l1 l2 l3 l4 l5 l6 ks st sp rb ru vc sf dr ss ob rl wl 15 h [] [] [] [] [0,mk] [m] 2 p2 0 p4 p5 s2 s3 hr hh hix hol hx h4 h5 ha hp hk zak
 have k4:=eQ sd au en ac re rs ck od [] su mc ix l1 l2 l3 l4 l5 l6 ks st sp rb ru vc sf dr ss ob rl wl 15 h 0 mk [] [(0,[],[])] m [] 2 p2 0 p4 p5 [] s2 s3 hr d hol zak zak hx rfl ha4 hm hkl zad hu h2 h4 h5 he hd hD
 rw[hQ] at k4
 generalize (FN ks p5 0).1=J at *
 have k6:Y E0 (.call 165 [.agg [.sl (.sl .u8) sd,.sl (.sl .u8) au,.sl .u8 en,.i ac,.i re,.i rs,.i ck,.b od,.sl (.sl (.sl .u8)) [],.i su,.i mc,.sl AL ix,.i l1,.i l2,.i l3,.i l4,.i l5,.i l6,.sl BR ks,.b st,.b sp,.sl (.sl (.sl .u8)) rb,.i ru,.i vc,.b sf,.i dr,.sl sesT ss,.sl objT ob,.sl .i64 rl,.sl .i64 wl],rq 15 [h] [(0,[],[])] [0,mk] [m]] [])=some (.ret (.tup [.agg [.sl (.sl .u8) sd,.sl (.sl .u8) au,.sl .u8 en,.i ac,.i re,.i rs,.i ck,.b od,.sl (.sl (.sl .u8)) [],.i su,.i mc,.sl AL ix,.i l1,.i l2,.i l3,.i l4,.i l5,.i l6,.sl BR J,.b st,.b sp,.sl (.sl (.sl .u8)) rb,.i ru,.i vc,.b sf,.i dr,.sl sesT ss,.sl objT ob,.sl .i64 rl,.sl .i64 wl],JC 0 [] [Q,ES s2 0 (FN ks p5 0).2.1 Q] []]) []):=by
  refine tq ?_
  rw[k4]
  exact tq rfl
 have k5:=xP sd au en ac re rs ck od su mc ix l1 l2 l3 l4 l5 l6 J st sp rb ru vc sf dr ss ob rl wl 15 [h] [] [] [] [0,mk] [m]
 subst hst
 refine tq ?_
 rw[k1]
 refine tq ?_
 rw[k2]
 refine tq ?_
 rw[k3]
 refine tq ?_
 rw[k6]
 conv=>lhs;whnf
 rw[AO]
 conv=>lhs;whnf
 rw[DY zaa]
 conv=>lhs;whnf
 try dsimp -iota -beta -eta -zeta only
 rw[Ak]
 rw[k5]
 exact tq rfl
theorem A0U(hst:st=true):Y E0 (.call 186 [.agg [.sl (.sl .u8) sd,.sl (.sl .u8) au,.sl .u8 en,.i ac,.i re,.i rs,.i ck,.b od,.sl (.sl (.sl .u8)) [],.i su,.i mc,.sl AL ix,.i l1,.i l2,.i l3,.i l4,.i l5,.i l6,.sl BR ks,.b st,.b sp,.sl (.sl (.sl .u8)) rb,.i ru,.i vc,.b sf,.i dr,.sl sesT ss,.sl objT ob,.sl .i64 rl,.sl .i64 wl],.i 1] [])=some (.ret (.tup [.agg [.sl (.sl .u8) sd,.sl (.sl .u8) au,.sl .u8 en,.i ac,.i re,.i rs,.i vc,.b sf,.sl (.sl (.sl .u8)) rb,.i ru,.i mc,.sl AL ix,.i l1,.i l2,.i l3,.i l4,.i l5,.i l6,.sl BR ks,.b false,.b true,.sl (.sl (.sl .u8)) [],.i 0,.i 0,.b false,.i 0,.sl sesT Cm,.sl objT noOb,.sl .i64 [],.sl .i64 []],.i 0]) []):=by
 have k:=fA sd au en ac re rs vc sf rb ru mc ix l1 l2 l3 l4 l5 l6 ks
 subst hst
 refine tq ?_
 rw[k]
 exact tq rfl
theorem A0V(su0:Int)(mc0:Int)(ix0:List (El AL))(l10:Int)(l20:Int)(l30:Int)(l40:Int)(l50:Int)(l60:Int)(ks0:List (El BR))(st0:Bool)(sp0:Bool)(rb0:List (List (List UInt8)))(ru0:Int)(vc0:Int)(sf0:Bool)(dr0:Int)(ss0:List (El sesT))(ob0:List (El objT))(rl0:List Int)(wl0:List Int)(sd:List (List UInt8))(au:List (List UInt8))(en:List UInt8)(ac:Int)(re:Int)(rs:Int)(ck:Int)(od:Bool)(su:Int)(mc:Int)(ix:List (El AL))(l1:Int)(l2:Int)(l3:Int)(l4:Int)(l5:Int)(l6:Int)(ks:List (El BR))(st:Bool)(sp:Bool)(rb:List (List (List UInt8)))(ru:Int)(vc:Int)(sf:Bool)(dr:Int)(ss:List (El sesT))(ob:List (El objT))(rl:List Int)(wl:List Int):Y E0 (.call 185 [.agg [.sl (.sl .u8) sd0,.sl (.sl .u8) au0,.sl .u8 en0,.i ac0,.i re0,.i rs0,.i ck0,.b od0,.sl (.sl (.sl .u8)) [],.i su0,.i mc0,.sl AL ix0,.i l10,.i l20,.i l30,.i l40,.i l50,.i l60,.sl BR ks0,.b st0,.b sp0,.sl (.sl (.sl .u8)) rb0,.i ru0,.i vc0,.b sf0,.i dr0,.sl sesT ss0,.sl objT ob0,.sl .i64 rl0,.sl .i64 wl0],.agg [.sl (.sl .u8) sd,.sl (.sl .u8) au,.sl .u8 en,.i ac,.i re,.i rs,.i vc,.b sf,.sl (.sl (.sl .u8)) rb,.i ru,.i mc,.sl AL ix,.i l1,.i l2,.i l3,.i l4,.i l5,.i l6,.sl BR ks,.b false,.b true,.sl (.sl (.sl .u8)) [],.i 0,.i 0,.b false,.i 0,.sl sesT Cm,.sl objT noOb,.sl .i64 [],.sl .i64 []],.i 0] [])=some (.ret (.tup [.agg [.sl (.sl .u8) sd,.sl (.sl .u8) au,.sl .u8 en,.i ac,.i re,.i rs,.i vc,.b sf,.sl (.sl (.sl .u8)) rb,.i ru,.i mc,.sl AL ix,.i l1,.i l2,.i l3,.i l4,.i l5,.i l6,.sl BR ks,.b false,.b true,.sl (.sl (.sl .u8)) [],.i 0,.i 0,.b false,.i 0,.sl sesT Cm,.sl objT noOb,.sl .i64 [],.sl .i64 []],JC 0 [] [] []]) []):=by
 refine tq ?_
 with_reducible rfl
theorem A8x(hst:st=true):Y E0 (.call 163 [.agg [.sl (.sl .u8) sd,.sl (.sl .u8) au,.sl .u8 en,.i ac,.i re,.i rs,.i ck,.b od,.sl (.sl (.sl .u8)) [],.i su,.i mc,.sl AL ix,.i l1,.i l2,.i l3,.i l4,.i l5,.i l6,.sl BR ks,.b st,.b sp,.sl (.sl (.sl .u8)) rb,.i ru,.i vc,.b sf,.i dr,.sl sesT ss,.sl objT ob,.sl .i64 rl,.sl .i64 wl],.i 0,rq 2 [] [] [1] []] [])=some (.ret (.tup [.agg [.sl (.sl .u8) sd,.sl (.sl .u8) au,.sl .u8 en,.i ac,.i re,.i rs,.i vc,.b sf,.sl (.sl (.sl .u8)) rb,.i ru,.i mc,.sl AL ix,.i l1,.i l2,.i l3,.i l4,.i l5,.i l6,.sl BR ks,.b false,.b true,.sl (.sl (.sl .u8)) [],.i 0,.i 0,.b false,.i 0,.sl sesT Cm,.sl objT noOb,.sl .i64 [],.sl .i64 []],JC 0 [] [] []]) []):=by
 have k3:=A0U sd au en ac re rs ck od su mc ix l1 l2 l3 l4 l5 l6 ks st sp rb ru vc sf dr ss ob rl wl hst
 have k4:=A0V sd au en ac re rs ck od su mc ix l1 l2 l3 l4 l5 l6 ks st sp rb ru vc sf dr ss ob rl wl sd au en ac re rs ck od su mc ix l1 l2 l3 l4 l5 l6 ks st sp rb ru vc sf dr ss ob rl wl
 subst hst
 refine tq ?_
 rw[k3]
 refine tq ?_
 rw[k4]
 exact tq rfl
theorem A4S(hst:st=true):Y E0 (.call 131 [.agg [.sl (.sl .u8) sd,.sl (.sl .u8) au,.sl .u8 en,.i ac,.i re,.i rs,.i ck,.b od,.sl (.sl (.sl .u8)) [],.i su,.i mc,.sl AL ix,.i l1,.i l2,.i l3,.i l4,.i l5,.i l6,.sl BR ks,.b st,.b sp,.sl (.sl (.sl .u8)) rb,.i ru,.i vc,.b sf,.i dr,.sl sesT ss,.sl objT ob,.sl .i64 rl,.sl .i64 wl],.i 0,rq 2 [] [] [1] []] [])=some (.ret (.tup [.agg [.sl (.sl .u8) sd,.sl (.sl .u8) au,.sl .u8 en,.i ac,.i re,.i rs,.i vc,.b sf,.sl (.sl (.sl .u8)) rb,.i ru,.i mc,.sl AL ix,.i l1,.i l2,.i l3,.i l4,.i l5,.i l6,.sl BR ks,.b false,.b true,.sl (.sl (.sl .u8)) [],.i 0,.i 0,.b false,.i 0,.sl sesT Cm,.sl objT noOb,.sl .i64 [],.sl .i64 []],JC 0 [] [] []]) []):=by
 have k1:=NT (A7a 1 zad)
 have k2:=JV sd au en ac re rs ck od su mc ix l1 l2 l3 l4 l5 l6 ks st sp rb ru vc sf dr ss ob rl wl 2 [] [1] []
 have k3:=A8x sd au en ac re rs ck od su mc ix l1 l2 l3 l4 l5 l6 ks st sp rb ru vc sf dr ss ob rl wl hst
 subst hst
 refine tq ?_
 rw[k1]
 refine tq ?_
 rw[k2]
 refine tq ?_
 rw[k3]
 exact tq rfl
end
section
attribute [local irreducible] Bl CQ CS Bo Bg Ar CU Dw EN Dy EC Bf BU Bv Bz and' C9 CB BK Au BA BL BN Aa Ad AP AZ CV Dq CW DI CE BP BM BF BG BB AU BC Ae Ap Ai CX BH Bh Ba BO CG CY CJ fits CZ CO A8 AA Ac
theorem uQ(su:Int)(mc:Int)(ix:List (El AL))(l1:Int)(l2:Int)(l3:Int)(l4:Int)(l5:Int)(l6:Int)(ks:List (El BR))(st:Bool)(sp:Bool)(rb:List (List (List UInt8)))(ru:Int)(vc:Int)(sf:Bool)(dr:Int)(ss:List (El sesT))(ob:List (El objT))(rl:List Int)(wl:List Int)(b:List (List UInt8))(hsb:sb=[[],b])(hb:EF 32 b)(h:st=false/\sp=false)(hrs:0<=rs/\rs<=1000000):Y E0 (.call 184 [.agg [.sl (.sl .u8) sd,.sl (.sl .u8) au,.sl .u8 en,.i ac,.i re,.i rs,.i ck,.b od,.sl (.sl (.sl .u8)) sb,.i su,.i mc,.sl AL ix,.i l1,.i l2,.i l3,.i l4,.i l5,.i l6,.sl BR ks,.b st,.b sp,.sl (.sl (.sl .u8)) rb,.i ru,.i vc,.b sf,.i dr,.sl sesT ss,.sl objT ob,.sl .i64 rl,.sl .i64 wl],.i 1] [])=some (.ret (.tup [.agg [.sl (.sl .u8) sd,.sl (.sl .u8) au,.sl .u8 en,.i ac,.i re,.i (rs+1),.i ck,.b false,.sl (.sl (.sl .u8)) [],.i 0,.i mc,.sl AL ix,.i l1,.i l2,.i l3,.i l4,.i l5,.i l6,.sl BR ks,.b true,.b sp,.sl (.sl (.sl .u8)) [[],LH b],.i su,.i ck,.b od,.i dr,.sl sesT ss,.sl objT ob,.sl .i64 rl,.sl .i64 wl],.i 0]) []):=by
 obtain⟨rfl,rfl⟩:=h
 subst hsb
 have k:=A6P b su hb
 refine tp ?_
 rw[k]
 exact tq rfl
theorem A0W(su:Int)(mc:Int)(ix:List (El AL))(l1:Int)(l2:Int)(l3:Int)(l4:Int)(l5:Int)(l6:Int)(ks:List (El BR))(st:Bool)(sp:Bool)(rb:List (List (List UInt8)))(ru:Int)(vc:Int)(sf:Bool)(dr:Int)(ss:List (El sesT))(ob:List (El objT))(rl:List Int)(wl:List Int)(c:Int)(az:List (El AQ))(is:List Int)(bs:List (List UInt8)):Y E0 (.loop 162 0 0 2 [(2,.pa 0 0),(3,.pa 1 0),(15,.sl .i64 []),(16,.i 0),(17,.i 0)] [(0,some (.var [.sl (.sl .u8) sd,.sl (.sl .u8) au,.sl .u8 en,.i ac,.i re,.i rs,.i ck,.b od,.sl (.sl (.sl .u8)) sb,.i su,.i mc,.sl AL ix,.i l1,.i l2,.i l3,.i l4,.i l5,.i l6,.sl BR ks,.b st,.b sp,.sl (.sl (.sl .u8)) rb,.i ru,.i vc,.b sf,.i dr,.sl sesT ss,.sl objT ob,.sl .i64 rl,.sl .i64 wl])),(1,some (.var [.i c,.sl .i64 [],.sl AQ az,.sl .i64 is,.sl (.sl .u8) bs]))])
   = some (.fin (.exit 0) 2 [(2,.pa 0 0),(3,.pa 1 0)] [(0,some (.var [.sl (.sl .u8) sd,.sl (.sl .u8) au,.sl .u8 en,.i ac,.i re,.i rs,.i ck,.b od,.sl (.sl (.sl .u8)) sb,.i su,.i mc,.sl AL ix,.i l1,.i l2,.i l3,.i l4,.i l5,.i l6,.sl BR ks,.b st,.b sp,.sl (.sl (.sl .u8)) rb,.i ru,.i vc,.b sf,.i dr,.sl sesT ss,.sl objT ob,.sl .i64 rl,.sl .i64 wl])),(1,some (.var [.i c,.sl .i64 [],.sl AQ az,.sl .i64 is,.sl (.sl .u8) bs]))]):=by
 rw[AO];conv=>lhs;whnf
 refine tq ?_
 with_reducible rfl
theorem fV(su:Int)(mc:Int)(ix:List (El AL))(l1:Int)(l2:Int)(l3:Int)(l4:Int)(l5:Int)(l6:Int)(ks:List (El BR))(st:Bool)(sp:Bool)(rb:List (List (List UInt8)))(ru:Int)(vc:Int)(sf:Bool)(dr:Int)(ss:List (El sesT))(ob:List (El objT))(rl:List Int)(wl:List Int)(c:Int)(az:List (El AQ))(is:List Int)(bs:List (List UInt8)):Y E0 (.call 162 [.agg [.sl (.sl .u8) sd,.sl (.sl .u8) au,.sl .u8 en,.i ac,.i re,.i rs,.i ck,.b od,.sl (.sl (.sl .u8)) sb,.i su,.i mc,.sl AL ix,.i l1,.i l2,.i l3,.i l4,.i l5,.i l6,.sl BR ks,.b st,.b sp,.sl (.sl (.sl .u8)) rb,.i ru,.i vc,.b sf,.i dr,.sl sesT ss,.sl objT ob,.sl .i64 rl,.sl .i64 wl],rq c [] az is bs] [])=some (.ret (.b true) []):=by
 have e2:Ap ([]:List Int)=0:=zaK
 have l0:=A0W sd au en ac re rs ck od sb su mc ix l1 l2 l3 l4 l5 l6 ks st sp rb ru vc sf dr ss ob rl wl c az is bs
 refine tq ?_
 simp only[e2,Nat.reduceAdd];rw[l0]
 conv=>lhs;whnf
 rw[e2]
 exact tq rfl
theorem A4T(sb0:List (List (List UInt8)))(su0:Int)(mc0:Int)(ix0:List (El AL))(l10:Int)(l20:Int)(l30:Int)(l40:Int)(l50:Int)(l60:Int)(ks0:List (El BR))(st0:Bool)(sp0:Bool)(rb0:List (List (List UInt8)))(ru0:Int)(vc0:Int)(sf0:Bool)(dr0:Int)(ss0:List (El sesT))(ob0:List (El objT))(rl0:List Int)(wl0:List Int)(sd:List (List UInt8))(au:List (List UInt8))(en:List UInt8)(ac:Int)(re:Int)(rs:Int)(ck:Int)(od:Bool)(sb:List (List (List UInt8)))(su:Int)(mc:Int)(ix:List (El AL))(l1:Int)(l2:Int)(l3:Int)(l4:Int)(l5:Int)(l6:Int)(ks:List (El BR))(st:Bool)(sp:Bool)(rb:List (List (List UInt8)))(ru:Int)(vc:Int)(sf:Bool)(dr:Int)(ss:List (El sesT))(ob:List (El objT))(rl:List Int)(wl:List Int):Y E0 (.call 185 [.agg [.sl (.sl .u8) sd0,.sl (.sl .u8) au0,.sl .u8 en0,.i ac0,.i re0,.i rs0,.i ck0,.b od0,.sl (.sl (.sl .u8)) sb0,.i su0,.i mc0,.sl AL ix0,.i l10,.i l20,.i l30,.i l40,.i l50,.i l60,.sl BR ks0,.b st0,.b sp0,.sl (.sl (.sl .u8)) rb0,.i ru0,.i vc0,.b sf0,.i dr0,.sl sesT ss0,.sl objT ob0,.sl .i64 rl0,.sl .i64 wl0],.agg [.sl (.sl .u8) sd,.sl (.sl .u8) au,.sl .u8 en,.i ac,.i re,.i rs,.i ck,.b od,.sl (.sl (.sl .u8)) sb,.i su,.i mc,.sl AL ix,.i l1,.i l2,.i l3,.i l4,.i l5,.i l6,.sl BR ks,.b st,.b sp,.sl (.sl (.sl .u8)) rb,.i ru,.i vc,.b sf,.i dr,.sl sesT ss,.sl objT ob,.sl .i64 rl,.sl .i64 wl],.i 0] [])=some (.ret (.tup [.agg [.sl (.sl .u8) sd,.sl (.sl .u8) au,.sl .u8 en,.i ac,.i re,.i rs,.i ck,.b od,.sl (.sl (.sl .u8)) sb,.i su,.i mc,.sl AL ix,.i l1,.i l2,.i l3,.i l4,.i l5,.i l6,.sl BR ks,.b st,.b sp,.sl (.sl (.sl .u8)) rb,.i ru,.i vc,.b sf,.i dr,.sl sesT ss,.sl objT ob,.sl .i64 rl,.sl .i64 wl],JC 0 [] [] []]) []):=by
 refine tq ?_
 with_reducible rfl
theorem A4U(su:Int)(mc:Int)(ix:List (El AL))(l1:Int)(l2:Int)(l3:Int)(l4:Int)(l5:Int)(l6:Int)(ks:List (El BR))(st:Bool)(sp:Bool)(rb:List (List (List UInt8)))(ru:Int)(vc:Int)(sf:Bool)(dr:Int)(ss:List (El sesT))(ob:List (El objT))(rl:List Int)(wl:List Int)(b:List (List UInt8))(hsb:sb=[[],b])(hb:EF 32 b)(h:st=false/\sp=false)(hrs:0<=rs/\rs<=1000000):Y E0 (.call 163 [.agg [.sl (.sl .u8) sd,.sl (.sl .u8) au,.sl .u8 en,.i ac,.i re,.i rs,.i ck,.b od,.sl (.sl (.sl .u8)) sb,.i su,.i mc,.sl AL ix,.i l1,.i l2,.i l3,.i l4,.i l5,.i l6,.sl BR ks,.b st,.b sp,.sl (.sl (.sl .u8)) rb,.i ru,.i vc,.b sf,.i dr,.sl sesT ss,.sl objT ob,.sl .i64 rl,.sl .i64 wl],.i 0,rq 1 [] [] [1] []] [])=some (.ret (.tup [.agg [.sl (.sl .u8) sd,.sl (.sl .u8) au,.sl .u8 en,.i ac,.i re,.i (rs+1),.i ck,.b false,.sl (.sl (.sl .u8)) [],.i 0,.i mc,.sl AL ix,.i l1,.i l2,.i l3,.i l4,.i l5,.i l6,.sl BR ks,.b true,.b sp,.sl (.sl (.sl .u8)) [[],LH b],.i su,.i ck,.b od,.i dr,.sl sesT ss,.sl objT ob,.sl .i64 rl,.sl .i64 wl],JC 0 [] [] []]) []):=by
 have k3:=uQ sd au en ac re rs ck od sb su mc ix l1 l2 l3 l4 l5 l6 ks st sp rb ru vc sf dr ss ob rl wl b hsb hb h hrs
 refine tq ?_
 rw[k3]
 refine tq ?_
 rw[A4T]
 exact tq rfl
theorem A4V(su:Int)(mc:Int)(ix:List (El AL))(l1:Int)(l2:Int)(l3:Int)(l4:Int)(l5:Int)(l6:Int)(ks:List (El BR))(st:Bool)(sp:Bool)(rb:List (List (List UInt8)))(ru:Int)(vc:Int)(sf:Bool)(dr:Int)(ss:List (El sesT))(ob:List (El objT))(rl:List Int)(wl:List Int)(b:List (List UInt8))(hsb:sb=[[],b])(hb:EF 32 b)(h:st=false/\sp=false)(hrs:0<=rs/\rs<=1000000):Y E0 (.call 131 [.agg [.sl (.sl .u8) sd,.sl (.sl .u8) au,.sl .u8 en,.i ac,.i re,.i rs,.i ck,.b od,.sl (.sl (.sl .u8)) sb,.i su,.i mc,.sl AL ix,.i l1,.i l2,.i l3,.i l4,.i l5,.i l6,.sl BR ks,.b st,.b sp,.sl (.sl (.sl .u8)) rb,.i ru,.i vc,.b sf,.i dr,.sl sesT ss,.sl objT ob,.sl .i64 rl,.sl .i64 wl],.i 0,rq 1 [] [] [1] []] [])=some (.ret (.tup [.agg [.sl (.sl .u8) sd,.sl (.sl .u8) au,.sl .u8 en,.i ac,.i re,.i (rs+1),.i ck,.b false,.sl (.sl (.sl .u8)) [],.i 0,.i mc,.sl AL ix,.i l1,.i l2,.i l3,.i l4,.i l5,.i l6,.sl BR ks,.b true,.b sp,.sl (.sl (.sl .u8)) [[],LH b],.i su,.i ck,.b od,.i dr,.sl sesT ss,.sl objT ob,.sl .i64 rl,.sl .i64 wl],JC 0 [] [] []]) []):=by
 have k1:=NT A4L
 have k2:=fV sd au en ac re rs ck od sb su mc ix l1 l2 l3 l4 l5 l6 ks st sp rb ru vc sf dr ss ob rl wl 1 [] [1] []
 have k3:=A4U sd au en ac re rs ck od sb su mc ix l1 l2 l3 l4 l5 l6 ks st sp rb ru vc sf dr ss ob rl wl b hsb hb h hrs
 refine tq ?_
 rw[k1]
 refine tq ?_
 rw[k2]
 refine tq ?_
 rw[k3]
 exact tq rfl
end
section
attribute [local irreducible] Bl CQ CS Bo Bg Ar CU Dw EN Dy EC Bf BU Bv Bz and' C9 CB BK Au BA BL BN Aa Ad AP AZ CV Dq CW DI CE BP BM BF BG BB AU BC Ae Ap Ai CX BH Bh Ba BO CG CY CJ fits CZ CO A8 AA Ac
theorem i01:Bl 0 1=1:=by rw[Bc zaa];rfl
theorem A6r(p:List UInt8)(hp:p.length=32):Cb ⟨3,0,0,p,List.replicate (uniq 3).toNat 0⟩=0:=by
 unfold Cb
 simp[uniq,hp];rfl
theorem o7(e:Int)(he:e=0\/0<e/\e<=255):rpG e [] [] [] :=
 ⟨by rcases he with h|h<;>simp[h],by simp,by simp,by simp,by simp,by simp,by simp⟩
theorem ACF:(Aw zen BI [] 32).length<=100000:=by rw[G5 (n:=32) zaa];decide
theorem AAS:∀ l∈AX zen,l.length<=1000:=fun l hl=>(VD 1 zaa).sm l hl
theorem A6s:(AX zen).length=3:=(VD 1 zaa).sl
theorem ACG(P:List UInt8)(hP:P.length=32):∃ ar wr nx ar1 wr1 Jh U S B1 B2,U.length=32/\S.length=32/\OV ar1 (Jh-1) (encS (AX zen) [[],[],[],[]] (Aw zen BI [] 32) 2 1 0 0 false [] 0 0 [] 0 5 100 0 0 1000 [])/\(0<=wr1/\wr1<=Jh)/\Jh<=3/\Y E0 (.call 8 [.i 2] [])=some (.ret (.tup [GR ar wr 0 0 false (AX zen) [[],[],[],[]] (Aw zen BI [] 32) 2 1 0 0 false [] 0 0 [] 0 5 100 0 0 1000 [] true false (Dk 2) 0 0 true 0 Cm noOb [] [] true nx,.b true]) []) /\
  Y E0 (.call 9 [GR ar wr 0 0 false (AX zen) [[],[],[],[]] (Aw zen BI [] 32) 2 1 0 0 false [] 0 0 [] 0 5 100 0 0 1000 [] true false (Dk 2) 0 0 true 0 Cm noOb [] [] true nx,.i 0,rq 9 [0] [(0,[],[])] [3,0,0] [P,[],[9]],.i 1,.i 2] [])=some (.ret (.tup [GR ar1 wr1 0 0 false (AX zen) [[],[],[],[]] (Aw zen BI [] 32) 2 1 0 0 false [] 0 0 [] 0 5 100 0 0 1000 [] true false (Dk 2) 0 0 true 0 Cm [((3,0,0,P,U),([],S,[9]),0),Yj,Yj] [] [] true Jh,JC 0 [512] [B1,B2] [],.b true]) []):=by
 obtain⟨ar,wr,nx,h1,h2,h3,h4,hf⟩:=nX
 obtain⟨S,-,hS,hp⟩:=wV (sd:=AX zen) (ob:=noOb) (h:=0) (k:=3) (a:=0) (t:=0) (o:=P) (auth:=[]) (d:=[9]) (by rw[A6s];decide) zad (A6r P hP) zak zak (fun _=>rfl)
 rw[show G7 noOb=0 from rfl] at hp
 have hu:(EJ 3 0 ⟨[],S,[9]⟩).length=32:=by unfold EJ;rw[if_neg zad];exact A7 _
 have hb1:(EL ⟨3,0,0,P,EJ 3 0 ⟨[],S,[9]⟩⟩).length<=1024:=za8
 have hb2:(nameB ⟨3,0,0,P,EJ 3 0 ⟨[],S,[9]⟩⟩).length<=1024:=by rw[EU];decide
 generalize EL ⟨3,0,0,P,EJ 3 0 ⟨[],S,[9]⟩⟩=B1 at hp hb1
 generalize nameB ⟨3,0,0,P,EJ 3 0 ⟨[],S,[9]⟩⟩=B2 at hp hb2
 generalize EJ 3 0 ⟨[],S,[9]⟩=U at hp hu
 have ok:=VD 1 zaa
 have hq:=A7Z 0 3 0 0 P [] [9] zaa zaa zaa zaa zaa zak zak
 have x1:=xR (AX zen) [[],[],[],[]] (Aw zen BI [] 32) 2 1 0 0 false 0 0 [] 0 5 100 0 0 1000 [] true false (Dk 2) 0 0 true 0 Cm noOb [] [] 0 3 0 0 P [] [9] rfl zaa zak zak zak rfl (by rw[oL]) (by rw[A6s];omega) AAS zaa zak _ _ _ hp hq
 obtain⟨ar1,wr1,Jh,k1,k2,k3,k4,k5,q1⟩:=Rk ar wr 0 nx 0 (AX zen) [[],[],[],[]] (Aw zen BI [] 32) 2 1 0 0 false 0 0 [] 0 5 100 0 0 1000 [] true false (Dk 2) 0 0 true 0 Cm noOb [] [] (AX zen) [[],[],[],[]] (Aw zen BI [] 32) 2 1 0 0 false 0 0 [] 0 5 100 0 0 1000 [] true false (Dk 2) 0 0 true 0 Cm [((3,0,0,P,U),([],S,[9]),0),Yj,Yj] [] [] 9 3 [0] [(0,[],[])] [3,0,0] [P,[],[9]] 0 [512] [B1,B2] [] hq ⟨.inl rfl,by simp,by simp,by simp,by simp,by intro x hx;simp at hx;rcases hx with rfl|rfl<;>assumption,by simp⟩ ok ok h1 ⟨h2,h3⟩ zaa x1
 have m1:=KO ar ar1 wr 0 nx wr1 Jh 0 (AX zen) [[],[],[],[]] (Aw zen BI [] 32) 2 1 0 0 false 0 0 [] 0 5 100 0 0 1000 [] true false (Dk 2) 0 0 true 0 Cm noOb [] [] (AX zen) [[],[],[],[]] (Aw zen BI [] 32) 2 1 0 0 false 0 0 [] 0 5 100 0 0 1000 [] true false (Dk 2) 0 0 true 0 Cm [((3,0,0,P,U),([],S,[9]),0),Yj,Yj] [] [] 9 [0] [(0,[],[])] [3,0,0] [P,[],[9]] 0 1 2 [512] [B1,B2] [] q1 zak rfl rfl rfl
 exact⟨ar,wr,nx,ar1,wr1,Jh,U,S,B1,B2,hu,hS,k1,⟨k2,k3⟩,by have:=k5 rfl;omega,hf,m1⟩
abbrev Yp(P U S:List UInt8):List (El objT):=[((3,0,0,P,U),([],S,[9]),0),Yj,Yj]
theorem ACH(P U S:List UInt8)(hP:P=WI zen Nz)(hU:U.length=32)(ar:List (List UInt8))(wr nx:Int)(h1:OV ar (nx-1) (encS (AX zen) [[],[],[],[]] (Aw zen BI [] 32) 2 1 0 0 false [] 0 0 [] 0 5 100 0 0 1000 []))(h2:0<=wr/\wr<=nx)(h3:nx<=3):∃ ar1 wr1 Jh ar2 wr2 nx2 ar3 wr3 nx3 n s1 s2 s3,
  Y E0 (.call 9 [GR ar wr 0 0 false (AX zen) [[],[],[],[]] (Aw zen BI [] 32) 2 1 0 0 false [] 0 0 [] 0 5 100 0 0 1000 [] true false (Dk 2) 0 0 true 0 Cm (Yp P U S) [] [] true nx,.i 0,rq 16 [] [] [2] [],.i 1,.i 1] [])=some (.ret (.tup [GR ar1 wr1 0 0 false (AX zen) [[],[],[],[]] (Aw zen BI [] 32) 2 1 0 0 false [] 0 0 [] 0 5 100 0 0 1000 [] true false (Dk 2) 0 0 true 1 s1 (Yp P U S) [] [] true Jh,JC 0 [768] [n] [],.b true]) []) /\
  Y E0 (.call 9 [GR ar1 wr1 0 0 false (AX zen) [[],[],[],[]] (Aw zen BI [] 32) 2 1 0 0 false [] 0 0 [] 0 5 100 0 0 1000 [] true false (Dk 2) 0 0 true 1 s1 (Yp P U S) [] [] true Jh,.i 0,rq 17 [] [] [768,1,0,1,0,0] [[]],.i 0,.i 0] [])=some (.ret (.tup [GR ar2 wr2 0 0 false (AX zen) [[],[],[],[]] (Aw zen BI [] 32) 2 1 0 0 false [] 0 0 [] 0 5 100 0 0 1000 [] true false (Dk 2) 0 0 true 1 s2 (Yp P U S) [] [] true nx2,JC 0 [] [] [],.b true]) []) /\
  Y E0 (.call 9 [GR ar2 wr2 0 0 false (AX zen) [[],[],[],[]] (Aw zen BI [] 32) 2 1 0 0 false [] 0 0 [] 0 5 100 0 0 1000 [] true false (Dk 2) 0 0 true 1 s2 (Yp P U S) [] [] true nx2,.i 0,rq 13 [512] [(768,[],[])] [] [],.i 0,.i 1] [])=some (.ret (.tup [GR ar3 wr3 0 0 false (AX zen) [[],[],[],[]] (Aw zen BI [] 32) 2 1 0 0 false [] 0 0 [] 0 5 100 0 0 1000 [] true false (Dk 2) 0 0 true 1 s3 (Yp P U S) [] [] true nx3,JC 0 [] [[9]] [],.b true]) []):=by
 have ok:=VD 1 zaa
 have hq1:=AAH 2 zaa
 have x1:=A6b (AX zen) [[],[],[],[]] (Aw zen BI [] 32) 2 1 0 0 false 0 0 [] 0 5 100 0 0 1000 [] true false (Dk 2) 0 0 true 0 Cm (Yp P U S) [] [] 2 zaa zak ACF 0 [] [] 0 0 0 0 false rfl (fun i hi=>by omega) rfl hq1
 obtain⟨n,hn⟩:∃ n,N7 (Aw zen BI [] 32) 1 0 0 16=n:=⟨_,rfl⟩
 rw[hn,i01,show((0:Nat):Int)=0 from rfl,show(768:Int)+0=768 from rfl] at x1
 have hnl:n.length<=1024:=by rw[<-hn,N7];exact Nat.le_trans (Nat.le_of_eq (G5 (n:=16) zaa)) zad
 obtain⟨ar1,wr1,Jh,k1,k2,k3,k4,k5,q1⟩:=Rk ar wr 0 nx 0 (AX zen) [[],[],[],[]] (Aw zen BI [] 32) 2 1 0 0 false 0 0 [] 0 5 100 0 0 1000 [] true false (Dk 2) 0 0 true 0 Cm (Yp P U S) [] [] (AX zen) [[],[],[],[]] (Aw zen BI [] 32) 2 1 0 0 false 0 0 [] 0 5 100 0 0 1000 [] true false (Dk 2) 0 0 true 1 (BH Cm 0 (2,n,zen,-1,31,0,0,false)) (Yp P U S) [] [] 16 0 [] [] [2] [] 0 [768] [n] [] hq1 ⟨.inl rfl,by simp,by simp,by simp,by simp,by intro x hx;simp at hx;subst hx;exact hnl,by simp⟩ ok ok h1 h2 zaa x1
 have m1:=KO ar ar1 wr 0 nx wr1 Jh 0 (AX zen) [[],[],[],[]] (Aw zen BI [] 32) 2 1 0 0 false 0 0 [] 0 5 100 0 0 1000 [] true false (Dk 2) 0 0 true 0 Cm (Yp P U S) [] [] (AX zen) [[],[],[],[]] (Aw zen BI [] 32) 2 1 0 0 false 0 0 [] 0 5 100 0 0 1000 [] true false (Dk 2) 0 0 true 1 (BH Cm 0 (2,n,zen,-1,31,0,0,false)) (Yp P U S) [] [] 16 [] [] [2] [] 0 1 1 [768] [n] [] q1 zak rfl rfl rfl
 obtain⟨s1,hs1⟩:∃ s1,BH Cm 0 (2,n,zen,-1,31,0,0,false)=s1:=⟨_,rfl⟩
 have hl1:s1.length=3:=by rw[<-hs1,Ea,List.length_set];rfl
 have hg1:Ai s1 (768-768)=some (2,n,zen,(-1:Int),31,0,0,false):=by rw[<-hs1,Ea];exact oL _ _
 rw[hs1] at m1 q1
 have hq2:=AAI 768 zaa
 have x2:=A6h (AX zen) [[],[],[],[]] (Aw zen BI [] 32) 2 1 0 0 false 0 0 [] 0 5 100 0 0 1000 [] true false (Dk 2) 0 0 true 1 s1 (Yp P U S) [] [] 768 31 0 0 n zen false rfl rfl zaa zaa hg1 (by rw[zen_len];decide) hq2
 rw[<-hP,show(768:Int)-768=0 from rfl] at x2
 obtain⟨ar2,wr2,nx2,j1,j2,j3,j4,j5,q2⟩:=Rk ar1 wr1 0 Jh 0 (AX zen) [[],[],[],[]] (Aw zen BI [] 32) 2 1 0 0 false 0 0 [] 0 5 100 0 0 1000 [] true false (Dk 2) 0 0 true 1 s1 (Yp P U S) [] [] (AX zen) [[],[],[],[]] (Aw zen BI [] 32) 2 1 0 0 false 0 0 [] 0 5 100 0 0 1000 [] true false (Dk 2) 0 0 true 1 (BH s1 0 (2,n,P,0,31,0,0,false)) (Yp P U S) [] [] 17 (-1) [] [] [768,1,0,1,0,0] [[]] 0 [] [] [] hq2 (o7 0 (.inl rfl)) ok ok k1 ⟨k2,k3⟩ (by have:=k5 rfl;omega) x2
 have m2:=KO ar1 ar2 wr1 0 Jh wr2 nx2 0 (AX zen) [[],[],[],[]] (Aw zen BI [] 32) 2 1 0 0 false 0 0 [] 0 5 100 0 0 1000 [] true false (Dk 2) 0 0 true 1 s1 (Yp P U S) [] [] (AX zen) [[],[],[],[]] (Aw zen BI [] 32) 2 1 0 0 false 0 0 [] 0 5 100 0 0 1000 [] true false (Dk 2) 0 0 true 1 (BH s1 0 (2,n,P,0,31,0,0,false)) (Yp P U S) [] [] 17 [] [] [768,1,0,1,0,0] [[]] 0 0 0 [] [] [] q2 zak rfl rfl rfl
 obtain⟨s2,hs2⟩:∃ s2,BH s1 0 (2,n,P,0,31,0,0,false)=s2:=⟨_,rfl⟩
 have hl2:s2.length=3:=by rw[<-hs2,Ea,List.length_set,hl1]
 have hg2:Ai s2 (768-768)=some (2,n,P,(0:Int),31,0,0,false):=by
  rw[<-hs2,Ea,D8 (by rw[List.length_set,hl1];decide)];simp
 rw[hs2] at m2 q2
 have hq3:=AAJ 512 768 zaa zaa [] zak
 have hPl:P.length=32:=by rw[hP];exact Yc _ _
 have x3:=A6k (AX zen) [[],[],[],[]] (Aw zen BI [] 32) 2 1 0 0 false 0 0 [] 0 5 100 0 0 1000 [] true false (Dk 2) 0 0 true 1 s2 (Yp P U S) [] [] 512 768 [] [] 3 0 0 P U [] S [9] 0 n rfl zaa rfl zak rfl rfl hPl zaa zad zaa zaa hg2 hq3
 rw[show(768:Int)-768=0 from rfl] at x3
 obtain⟨ar3,wr3,nx3,i1,i2,i3,i4,i5,q3⟩:=Rk ar2 wr2 0 nx2 0 (AX zen) [[],[],[],[]] (Aw zen BI [] 32) 2 1 0 0 false 0 0 [] 0 5 100 0 0 1000 [] true false (Dk 2) 0 0 true 1 s2 (Yp P U S) [] [] (AX zen) [[],[],[],[]] (Aw zen BI [] 32) 2 1 0 0 false 0 0 [] 0 5 100 0 0 1000 [] true false (Dk 2) 0 0 true 1 (BH s2 0 A3B) (Yp P U S) [] [] 13 0 [512] [(768,[],[])] [] [] 0 [] [[9]] [] hq3 ⟨.inl rfl,by simp,by simp,by simp,by simp,by intro x hx;simp at hx;subst hx;simp,by simp⟩ ok ok j1 ⟨j2,j3⟩ (by have:=k5 rfl;have:=j5 rfl;omega) x3
 have m3:=KO ar2 ar3 wr2 0 nx2 wr3 nx3 0 (AX zen) [[],[],[],[]] (Aw zen BI [] 32) 2 1 0 0 false 0 0 [] 0 5 100 0 0 1000 [] true false (Dk 2) 0 0 true 1 s2 (Yp P U S) [] [] (AX zen) [[],[],[],[]] (Aw zen BI [] 32) 2 1 0 0 false 0 0 [] 0 5 100 0 0 1000 [] true false (Dk 2) 0 0 true 1 (BH s2 0 A3B) (Yp P U S) [] [] 13 [512] [(768,[],[])] [] [] 0 0 1 [] [[9]] [] q3 zak rfl rfl rfl
 exact⟨ar1,wr1,Jh,ar2,wr2,nx2,ar3,wr3,nx3,n,s1,s2,_,m1,m2,m3⟩
end
section
attribute [local irreducible] Bl CQ CS Bo Bg Ar CU Dw EN Dy EC Bf BU Bv Bz and' C9 CB BK Au BA BL BN Aa Ad AP AZ CV Dq CW DI CE BP BM BF BG BB AU BC Ae Ap Ai CX BH Bh Ba BO CG CY CJ fits CZ CO A8 AA Ac
theorem xU:EF 32 (Ec 32):=⟨Dv 32 16,fun x hx=>by
 simp only[Ec,Gs,List.mem_map] at hx
 obtain⟨i,-,rfl⟩:=hx
 exact List.length_replicate⟩
theorem A8y:A67 2 (Dk 2):=.inr ⟨[],Ec 32,rfl,.inl rfl,.inr xU,fun _=>xU⟩
theorem uT:Y E0 (.call 32 [.agg [.sl (.sl (.sl .u8)) (Dk 2),.i 0],.agg [.i 0,.i 1]] [])=some (.ret (.tup [.sl .u8 Nz,.i 0]) []):=by
 obtain⟨d,er,-,h1,h2⟩:=A3a 0 0 1 A8y
 have h3:=wu 0
 rw[show([[],Ec 32]:List (List (List UInt8)))=Dk 2 from rfl,h1] at h3
 simp only[Option.some.injEq,Rsp.ret.injEq,AV.tup.injEq,List.cons.injEq,AV.sl.injEq,AV.i.injEq,heq_eq_eq,true_and,and_true] at h3
 rw[h2,h3.1,h3.2]
theorem aX:Y E0 (.call 7 [] [])=some (.ret (.b true) []):=by
 obtain⟨P,hP⟩:∃ P,WI zen Nz=P:=⟨_,rfl⟩
 have hPl:P.length=32:=by rw[<-hP];exact Yc _ _
 obtain⟨ar,wr,nx,ar1,wr1,Jh,U,S,B1,B2,hU,hS,k1,k2,k3,hf,m1⟩:=ACG P hPl
 obtain⟨ar2,wr2,nx2,ar3,wr3,nx3,ar4,wr4,nx4,n,s1,s2,s3,c1,c2,c3⟩:=ACH P U S hP.symm hU ar1 wr1 Jh k1 k2 k3
 have h8:=YL 2 zaa
 have h9:=A4P Nz aV
 rw[hP] at h9
 refine tq ?_
 rw[hf]
 refine tq ?_
 rw[h8]
 refine tq ?_
 rw[uT]
 refine tq ?_
 rw[h9]
 refine tq ?_
 rw[MK ..]
 refine tq ?_
 rw[show([UInt8.ofNat 9]:List UInt8)=[9] from rfl,m1]
 refine tq ?_
 rw[A4W _]
 refine tq ?_
 rw[c1]
 refine tq ?_
 rw[uS _]
 refine tq ?_
 rw[c2]
 refine tq ?_
 rw[AAR ..]
 refine tq ?_
 rw[AAQ ..]
 refine tq ?_
 rw[c3]
 conv=>lhs;whnf
 try dsimp -iota -beta -eta -zeta only
 rw[drw zaj];conv=>lhs;whnf
 rw[oL];conv=>lhs;whnf
 rw[Ff zaG]
 conv=>lhs;whnf
 rw[oL];conv=>lhs;whnf
 rw[oL];conv=>lhs;whnf
 rw[JL,Ff (by rfl)]
end
section
attribute [local irreducible] Bl CQ CS Bo Bg Ar CU Dw EN Dy EC Bf BU Bv Bz and' C9 CB BK Au BA BL BN Aa Ad AP AZ CV Dq CW DI CE BP BM BF BG BB AU BC Ae Ap Ai CX BH Bh Ba BO CG CY CJ fits CZ CO A8 AA Ac
attribute [local irreducible] Ef ES nameB EL EJ FM qU UD Fb
noncomputable def qS(R P:Int)(O:Bool)(B:List (List (List UInt8)))(v:Int)(J:List (El BR)):List UInt8:=encS (AX zen) [[],[],[],[]] (Aw zen BI [] 32) 2 R P 0 O B v 0 [] 0 5 100 0 0 1000 J
def oN(J:List (El BR)):Prop:=J.length<=8/\∀ x∈J,eH x/\(x.2:Int)<=255
theorem gQ(J:List (El BR))(hR:0<=R/\R<=255)(hP:0<=P/\P<=255)(hJ:oN J):stOK (AX zen) [[],[],[],[]] (Aw zen BI [] 32) 2 R P 0 0 0 [] 0 5 100 0 0 1000 J:=by
 have h:=VD 1 zaa
 exact⟨h.sl,h.al,h.sm,h.am,h.en,h.ac,by omega,by omega,by decide,by decide,by decide,by decide,by simp,h.lk,hJ.1,fun x hx=>(hJ.2 x hx).1⟩
def qI(ar:List (List UInt8))(wr nx:Int)(p:List UInt8):Prop:=OV ar (nx-1) p/\0<=wr/\wr<=nx
theorem Qr(O:Bool)(B:List (List (List UInt8)))(v:Int)(J:List (El BR))(hR:0<=R/\R<=255)(hP:0<=P/\P<=255)(hJ:oN J)(hv:0<=v/\v<=1000)(hB:B=[]/\v=0\/∃ b,B=[[],b]/\EF 32 b):Y E0 (.call 78 [.agg (Rt (AX zen) [[],[],[],[]] (Aw zen BI [] 32) 2 R P 0 O B v 0 [] 0 5 100 0 0 1000 J)] [])=some (.ret (.sl .u8 (qS R P O B v J)) [])/\(qS R P O B v J).length<=50000:=by
 have ok:=gQ R P J hR hP hJ
 have hh:Y E0 (.call 124 [.agg [.sl (.sl (.sl .u8)) B,.i v]] [])=some (.ret (.sl .u8 (NS B v)) [])/\(NS B v).length<=4000:=by
  rcases hB with⟨rfl,rfl⟩|⟨b,rfl,hb⟩
  ·refine⟨?_,?_⟩
   ·rw[Vl];exact lK 0
   ·rw[Vl,List.length_cons,Bq];decide
  ·exact⟨A3l b v hb,by rw[YY hb];decide⟩
 refine⟨lQ _ _ _ _ _ _ _ O B v _ _ _ _ _ _ _ _ J hh.1 hh.2 ok.sl ok.al ok.sm ok.am ok.en ok.il ok.im ok.kl ok.km,?_⟩
 exact Nat.le_trans (aK _ _ _ _ _ _ _ O B v _ _ _ _ _ _ _ _ J hh.2 ⟨ok.sl,ok.al,ok.sm,ok.am,ok.en,ok.ac,ok.re,ok.rs,ok.ck,zaa,ok.mc,ok.il,ok.im,ok.lk,ok.kl,ok.km⟩) zad
theorem AAg(J:List (El BR))(b:List (List UInt8))(i:Int)(d x:List UInt8)(hR:0<=R/\R<=255)(hP:0<=P/\P<=255)(hJ:oN J)(hb:EF 32 b)(hu:0<=u/\u<=1000)(hi:0<=i/\i<16)(hd:d.length<=100)(hg:Ai b i=some x):
  Y E0 (.call 9 [GR ar wr 0 0 false (AX zen) [[],[],[],[]] (Aw zen BI [] 32) 2 R P 0 false [] 0 0 [] 0 5 100 0 0 1000 J true false [[],b] u 0 F 0 Cm noOb [] [] true nx,.i 4,rq 7 [] [] [i] [d],.i 0,.i 2] [])=some (.ret (.tup [GR ar wr 0 0 false (AX zen) [[],[],[],[]] (Aw zen BI [] 32) 2 R P 0 false [] 0 0 [] 0 5 100 0 0 1000 J true false [[],BH b i (sha256 (BO x (sha256 d)))] (u+1) 0 F 0 Cm noOb [] [] true nx,JC 0 [] [[],sha256 d] [],.b true]) []):=by
 have ok:=gQ R P J hR hP hJ
 have hq:=AAK i d zaa hd
 have x1:=A6n (AX zen) [[],[],[],[]] (Aw zen BI [] 32) 2 R P 0 false 0 0 [] 0 5 100 0 0 1000 J true false [[],b] u 0 F 0 Cm noOb [] [] b i d x rfl rfl hb zaa hi hd hg hq
 have q1:=A4A ar wr 0 nx 4 (AX zen) [[],[],[],[]] (Aw zen BI [] 32) 2 R P 0 false [] 0 0 [] 0 5 100 0 0 1000 J true false [[],b] u 0 F 0 Cm noOb [] [] (AX zen) [[],[],[],[]] (Aw zen BI [] 32) 2 R P 0 false [] 0 0 [] 0 5 100 0 0 1000 J true false [[],BH b i (sha256 (BO x (sha256 d)))] (u+1) 0 F 0 Cm noOb [] [] _ (Qr R P false [] 0 J hR hP hJ zad (.inl ⟨rfl,rfl⟩)).1 (Qr R P false [] 0 J hR hP hJ zad (.inl ⟨rfl,rfl⟩)).1 7 1 [] [] [i] [d] 0 [] [[],sha256 d] [] hq ⟨.inl rfl,by simp,by simp,by simp,by simp,by intro y hy;simp at hy;rcases hy with rfl|rfl;simp;rw[A7];decide,by simp⟩ x1
 exact KO ar ar wr 0 nx wr nx 4 (AX zen) [[],[],[],[]] (Aw zen BI [] 32) 2 R P 0 false 0 0 [] 0 5 100 0 0 1000 J true false [[],b] u 0 F 0 Cm noOb [] [] (AX zen) [[],[],[],[]] (Aw zen BI [] 32) 2 R P 0 false 0 0 [] 0 5 100 0 0 1000 J true false [[],BH b i (sha256 (BO x (sha256 d)))] (u+1) 0 F 0 Cm noOb [] [] 7 [] [] [i] [d] 0 0 2 [] [[],sha256 d] [] q1 zak rfl rfl rfl
theorem A7d(O:Bool)(B:List (List (List UInt8)))(v:Int)(J:List (El BR))(hR:0<=R/\R<=255)(hP:0<=P/\P<=255)(hJ:oN J)(hv:0<=v/\v<=1000)(hB:B=[]/\v=0\/∃ b,B=[[],b]/\EF 32 b):Y E0 (.call 51 [.sl .u8 (qS R P O B v J)] [])=some (.ret (.tup [.agg (Rt (AX zen) [[],[],[],[]] (Aw zen BI [] 32) 2 R P 0 O B v 0 [] 0 5 100 0 0 1000 J),.i 0]) []):=by
 have ok:=gQ R P J hR hP hJ
 have hh:Y E0 (.call 138 [.sl .u8 (NS B v)] [])=some (.ret (.tup [.agg [.sl (.sl (.sl .u8)) B,.i v],.i 0]) [])/\(NS B v).length<=4000:=by
  rcases hB with⟨rfl,rfl⟩|⟨b,rfl,hb⟩
  ·refine⟨?_,?_⟩
   ·exact lT _ 0 (Vl 0) zad
   ·rw[Vl,List.length_cons,Bq];decide
  ·exact⟨A3m _ b v hb rfl (YY hb) zaa,by rw[YY hb];decide⟩
 exact A01 _ _ _ _ _ _ _ O B v _ _ _ _ _ _ _ J hJ.1 (fun x hx=>⟨Nat.le_trans (hJ.2 x hx).1.1 zad,(hJ.2 x hx).1.2.1,(hJ.2 x hx).2⟩) hh.1 hh.2 zad ok.sl ok.al ok.sm ok.am ok.en ok.re ok.rs ok.ck ok.mc ok.lk
theorem A0c(ar':List (List UInt8))(wr wr' cu to to' nx nx' Jh:Int)(of on:Bool)(sd0:List (List UInt8))(au0:List (List UInt8))(en0:List UInt8)(ac0:Int)(re0:Int)(rs0:Int)(ck0:Int)(od0:Bool)(su0:Int)(mc0:Int)(ix0:List (El AL))(l10:Int)(l20:Int)(l30:Int)(l40:Int)(l50:Int)(l60:Int)(ks0:List (El BR))(st0:Bool)(sp0:Bool)(rb0:List (List (List UInt8)))(ru0:Int)(vc0:Int)(sf0:Bool)(dr0:Int)(ss0:List (El sesT))(ob0:List (El objT))(rl0:List Int)(wl0:List Int)(sd:List (List UInt8))(au:List (List UInt8))(en:List UInt8)(ac:Int)(re:Int)(rs:Int)(ck:Int)(od:Bool)(su:Int)(mc:Int)(ix:List (El AL))(l1:Int)(l2:Int)(l3:Int)(l4:Int)(l5:Int)(l6:Int)(ks:List (El BR))(st:Bool)(sp:Bool)(rb:List (List (List UInt8)))(ru:Int)(vc:Int)(sf:Bool)(dr:Int)(ss:List (El sesT))(ob:List (El objT))(rl:List Int)(wl:List Int)(sd2:List (List UInt8))(au2:List (List UInt8))(en2:List UInt8)(ac2:Int)(re2:Int)(rs2:Int)(ck2:Int)(od2:Bool)(su2:Int)(mc2:Int)(ix2:List (El AL))(l12:Int)(l22:Int)(l32:Int)(l42:Int)(l52:Int)(l62:Int)(ks2:List (El BR))(hon:Y E0 (.call 25 [zg ar wr cu to true false nx] [])=some (.ret (.tup [GR ar 0 0 0 false sd2 au2 en2 ac2 re2 rs2 ck2 od2 [] su2 mc2 ix2 l12 l22 l32 l42 l52 l62 ks2 false false [] 0 0 false 0 Cm noOb [] [] true Jh,.i 0]) []))(hm:Y E0 (.call 9 [GR ar 0 0 0 false sd2 au2 en2 ac2 re2 rs2 ck2 od2 [] su2 mc2 ix2 l12 l22 l32 l42 l52 l62 ks2 false false [] 0 0 false 0 Cm noOb [] [] true Jh,.i 0,rq 1 [] [] [0] [],.i 0,.i 0] [])=some (.ret (.tup [GR ar' wr' 0 0 false sd au en ac re rs ck od [] su mc ix l1 l2 l3 l4 l5 l6 ks st sp rb ru vc sf dr ss ob rl wl true nx',JC 0 [] [] [],.b true]) [])):
  Y E0 (.call 16 [GR ar wr cu to of sd0 au0 en0 ac0 re0 rs0 ck0 od0 [] su0 mc0 ix0 l10 l20 l30 l40 l50 l60 ks0 st0 sp0 rb0 ru0 vc0 sf0 dr0 ss0 ob0 rl0 wl0 on nx] [])=some (.ret (.tup [GR ar' wr' 0 0 false sd au en ac re rs ck od [] su mc ix l1 l2 l3 l4 l5 l6 ks st sp rb ru vc sf dr ss ob rl wl true nx',.b true]) []):=by
 have hoff:=fE ar wr cu to of on nx sd0 au0 en0 ac0 re0 rs0 ck0 od0 [] su0 mc0 ix0 l10 l20 l30 l40 l50 l60 ks0 st0 sp0 rb0 ru0 vc0 sf0 dr0 ss0 ob0 rl0 wl0
 refine tq ?_
 rw[hoff]
 refine tq ?_
 rw[hon]
 refine tq ?_
 rw[Ya]
 refine tq ?_
 rw[hm]
 exact tq rfl
theorem AAh(J:List (El BR))(b:List (List UInt8))(hR:0<=R/\R<=200)(hP:0<=P/\P<=200)(hJ:oN J)(hI:qI ar wr nx (qS R P false [] 0 J))(hn:nx<=900):
  ∃ ar' wr' nx',qI ar' wr' nx' (qS (R+1) 0 false [] 0 J)/\nx'<=nx+1/\Y E0 (.call 16 [GR ar wr 0 0 false (AX zen) [[],[],[],[]] (Aw zen BI [] 32) 2 R P 0 false [] 0 0 [] 0 5 100 0 0 1000 J true false [[],b] u 0 F 0 Cm noOb [] [] true nx] [])=some (.ret (.tup [GR ar' wr' 0 0 false (AX zen) [[],[],[],[]] (Aw zen BI [] 32) 2 (R+1) 0 0 false [] 0 0 [] 0 5 100 0 0 1000 J true false (Dk 2) 0 0 false 0 Cm noOb [] [] true nx',.b true]) []):=by
 obtain⟨hA,hw⟩:=hI
 have hd:=A7d R P false [] 0 J zaa zaa hJ zad (.inl ⟨rfl,rfl⟩)
 have hon:=xO ar wr 0 0 nx (nx-1) (AX zen) [[],[],[],[]] (Aw zen BI [] 32) 2 R P 0 false [] 0 0 [] 0 5 100 0 0 1000 J _ hA hd
 rw[show nx-1+1=nx from by omega] at hon
 have h0:=gQ R P J zaa zaa hJ
 have h1:=gQ (R+1) 0 J zaa zaa hJ
 have x1:=xN (AX zen) [[],[],[],[]] (Aw zen BI [] 32) 2 R P 0 false 0 0 [] 0 5 100 0 0 1000 J false false [] 0 0 false 0 Cm noOb [] [] ⟨rfl,rfl⟩ rfl zaa
 obtain⟨ar',wr',nx',k1,k2,k3,k4,_,ha⟩:=Rk ar 0 0 nx 0 (AX zen) [[],[],[],[]] (Aw zen BI [] 32) 2 R P 0 false 0 0 [] 0 5 100 0 0 1000 J false false [] 0 0 false 0 Cm noOb [] [] (AX zen) [[],[],[],[]] (Aw zen BI [] 32) 2 (R+1) 0 0 false 0 0 [] 0 5 100 0 0 1000 J true false (Dk 2) 0 0 false 0 Cm noOb [] [] 1 0 [] [] [0] [] 0 [] [] [] A4B (o7 0 (.inl rfl)) h0 h1 hA ⟨by decide,by omega⟩ zaa x1
 refine⟨ar',wr',nx',⟨k1,k2,k3⟩,k4,?_⟩
 have hm:=KO ar ar' 0 0 nx wr' nx' 0 (AX zen) [[],[],[],[]] (Aw zen BI [] 32) 2 R P 0 false 0 0 [] 0 5 100 0 0 1000 J false false [] 0 0 false 0 Cm noOb [] [] (AX zen) [[],[],[],[]] (Aw zen BI [] 32) 2 (R+1) 0 0 false 0 0 [] 0 5 100 0 0 1000 J true false (Dk 2) 0 0 false 0 Cm noOb [] [] 1 [] [] [0] [] 0 0 0 [] [] [] ha zak rfl rfl rfl
 exact A0c ar ar' wr wr' 0 0 0 nx nx' nx false true (AX zen) [[],[],[],[]] (Aw zen BI [] 32) 2 R P 0 false 0 0 [] 0 5 100 0 0 1000 J true false [[],b] u 0 F 0 Cm noOb [] [] (AX zen) [[],[],[],[]] (Aw zen BI [] 32) 2 (R+1) 0 0 false 0 0 [] 0 5 100 0 0 1000 J true false (Dk 2) 0 0 false 0 Cm noOb [] [] (AX zen) [[],[],[],[]] (Aw zen BI [] 32) 2 R P 0 false 0 0 [] 0 5 100 0 0 1000 J hon hm
theorem AAi(J:List (El BR))(b:List (List UInt8))(hR:0<=R/\R<=200)(hP:0<=P/\P<=200)(hJ:oN J)(hb:EF 32 b)(hu:0<=u/\u<=1000)(hI:qI ar wr nx (qS R P false [] 0 J))(hn:nx<=900):
  ∃ ar' wr' nx',qI ar' wr' nx' (qS R P F [[],b] u J)/\nx'<=nx+1/\Y E0 (.call 9 [GR ar wr 0 0 false (AX zen) [[],[],[],[]] (Aw zen BI [] 32) 2 R P 0 false [] 0 0 [] 0 5 100 0 0 1000 J true false [[],b] u 0 F 0 Cm noOb [] [] true nx,.i 0,rq 2 [] [] [1] [],.i 0,.i 0] [])=some (.ret (.tup [GR ar' wr' 0 0 false (AX zen) [[],[],[],[]] (Aw zen BI [] 32) 2 R P 0 F [[],b] u 0 [] 0 5 100 0 0 1000 J false true [] 0 0 false 0 Cm noOb [] [] true nx',JC 0 [] [] [],.b true]) []):=by
 obtain⟨hA,hw⟩:=hI
 have h0:=Qr R P false [] 0 J zaa zaa hJ zad (.inl ⟨rfl,rfl⟩)
 have h1:=Qr R P F [[],b] u J zaa zaa hJ hu (.inr ⟨b,rfl,hb⟩)
 have x1:=A4S (AX zen) [[],[],[],[]] (Aw zen BI [] 32) 2 R P 0 false 0 0 [] 0 5 100 0 0 1000 J true false [[],b] u 0 F 0 Cm noOb [] [] rfl
 obtain⟨ar',wr',nx',k1,k2,k3,k4,_,ha⟩:=A49 ar wr 0 nx 0 (AX zen) [[],[],[],[]] (Aw zen BI [] 32) 2 R P 0 false [] 0 0 [] 0 5 100 0 0 1000 J true false [[],b] u 0 F 0 Cm noOb [] [] (AX zen) [[],[],[],[]] (Aw zen BI [] 32) 2 R P 0 F [[],b] u 0 [] 0 5 100 0 0 1000 J false true [] 0 0 false 0 Cm noOb [] [] _ _ h0.1 h1.1 h0.2 h1.2 2 0 [] [] [1] [] 0 [] [] [] (A7a 1 zad) (o7 0 (.inl rfl)) hA hw zaa x1
 exact⟨ar',wr',nx',⟨k1,k2,k3⟩,k4,YZ ar ar' wr 0 nx wr' nx' 0 (AX zen) [[],[],[],[]] (Aw zen BI [] 32) 2 R P 0 false [] 0 0 [] 0 5 100 0 0 1000 J true false [[],b] u 0 F 0 Cm noOb [] [] (AX zen) [[],[],[],[]] (Aw zen BI [] 32) 2 R P 0 F [[],b] u 0 [] 0 5 100 0 0 1000 J false true [] 0 0 false 0 Cm noOb [] [] 2 [] [] [1] [] 0 0 0 [] [] [] ha zak rfl rfl rfl⟩
theorem AAj(J:List (El BR))(b:List (List UInt8))(hR:0<=R/\R<=200)(hP:0<=P/\P<=200)(hJ:oN J)(hb:EF 32 b)(hu:0<=u/\u<=1000)(hI:qI ar wr nx (qS R P F [[],b] u J)):
  Y E0 (.call 25 [zg ar wr 0 0 true false nx] [])=some (.ret (.tup [GR ar 0 0 0 false (AX zen) [[],[],[],[]] (Aw zen BI [] 32) 2 R P 0 F [[],b] u 0 [] 0 5 100 0 0 1000 J false false [] 0 0 false 0 Cm noOb [] [] true nx,.i 0]) []):=by
 obtain⟨hA,hw⟩:=hI
 have hd:=A7d R P F [[],b] u J zaa zaa hJ hu (.inr ⟨b,rfl,hb⟩)
 have hon:=xO ar wr 0 0 nx (nx-1) (AX zen) [[],[],[],[]] (Aw zen BI [] 32) 2 R P 0 F [[],b] u 0 [] 0 5 100 0 0 1000 J _ hA hd
 rw[show nx-1+1=nx from by omega] at hon
 exact hon
theorem AAk(J:List (El BR))(b:List (List UInt8))(hR:0<=R/\R<=200)(hP:0<=P/\P<=200)(hJ:oN J)(hb:EF 32 b)(hu:0<=u/\u<=1000)(hA:OV ar (nx-1) (qS R P F [[],b] u J))(hn:nx<=900):
  ∃ ar' wr' nx',qI ar' wr' nx' (qS R (P+1) false [] 0 J)/\nx'<=nx+1/\Y E0 (.call 9 [GR ar 0 0 0 false (AX zen) [[],[],[],[]] (Aw zen BI [] 32) 2 R P 0 F [[],b] u 0 [] 0 5 100 0 0 1000 J false false [] 0 0 false 0 Cm noOb [] [] true nx,.i 0,rq 1 [] [] [1] [],.i 0,.i 0] [])=some (.ret (.tup [GR ar' wr' 0 0 false (AX zen) [[],[],[],[]] (Aw zen BI [] 32) 2 R (P+1) 0 false [] 0 0 [] 0 5 100 0 0 1000 J true false [[],LH b] u 0 F 0 Cm noOb [] [] true nx',JC 0 [] [] [],.b true]) []):=by
 have hq:1<=nx-1:=hA.2.1
 have h0:=Qr R P F [[],b] u J zaa zaa hJ hu (.inr ⟨b,rfl,hb⟩)
 have h1:=Qr R (P+1) false [] 0 J zaa zaa hJ zad (.inl ⟨rfl,rfl⟩)
 have x1:=A4V (AX zen) [[],[],[],[]] (Aw zen BI [] 32) 2 R P 0 F [[],b] u 0 [] 0 5 100 0 0 1000 J false false [] 0 0 false 0 Cm noOb [] [] b rfl hb ⟨rfl,rfl⟩ zaa
 obtain⟨ar',wr',nx',k1,k2,k3,k4,_,ha⟩:=A49 ar 0 0 nx 0 (AX zen) [[],[],[],[]] (Aw zen BI [] 32) 2 R P 0 F [[],b] u 0 [] 0 5 100 0 0 1000 J false false [] 0 0 false 0 Cm noOb [] [] (AX zen) [[],[],[],[]] (Aw zen BI [] 32) 2 R (P+1) 0 false [] 0 0 [] 0 5 100 0 0 1000 J true false [[],LH b] u 0 F 0 Cm noOb [] [] _ _ h0.1 h1.1 h0.2 h1.2 1 0 [] [] [1] [] 0 [] [] [] A4L (o7 0 (.inl rfl)) hA ⟨by decide,by omega⟩ zaa x1
 exact⟨ar',wr',nx',⟨k1,k2,k3⟩,k4,YZ ar ar' 0 0 nx wr' nx' 0 (AX zen) [[],[],[],[]] (Aw zen BI [] 32) 2 R P 0 F [[],b] u 0 [] 0 5 100 0 0 1000 J false false [] 0 0 false 0 Cm noOb [] [] (AX zen) [[],[],[],[]] (Aw zen BI [] 32) 2 R (P+1) 0 false [] 0 0 [] 0 5 100 0 0 1000 J true false [[],LH b] u 0 F 0 Cm noOb [] [] 1 [] [] [1] [] 0 0 0 [] [] [] ha zak rfl rfl rfl⟩
theorem A6x(V:List UInt8)(hV:V.length=32):Cb ⟨2,5,0,V,List.replicate (uniq 2).toNat 0⟩=0:=by
 unfold Cb
 simp only[hV,List.length_replicate]
 rw[if_neg zad,if_neg zad,if_neg zad]
abbrev qO(V U S:List UInt8):List (El objT):=[((2,5,0,V,U),([],S,[]),0),Yj,Yj]
theorem AAl(J:List (El BR))(b:List (List UInt8))(i:Nat)(V:List UInt8)(hVe:V=sha256 [UInt8.ofNat i])(hR:0<=R/\R<=255)(hP:0<=P/\P<=255)(hJ:oN J):∃ S,S.length=32/\qU i=FM S 0/\(qU i).length=17 /\
  Y E0 (.call 9 [GR ar wr 0 0 false (AX zen) [[],[],[],[]] (Aw zen BI [] 32) 2 R P 0 false [] 0 0 [] 0 5 100 0 0 1000 J true false [[],b] u 0 F 0 Cm noOb [] [] true nx,.i 0,rq 9 [0] [(0,[],[])] [2,5,0] [V,[],[]],.i 1,.i 2] [])=some (.ret (.tup [GR ar wr 0 0 false (AX zen) [[],[],[],[]] (Aw zen BI [] 32) 2 R P 0 false [] 0 0 [] 0 5 100 0 0 1000 J true false [[],b] u 0 F 0 Cm (qO V (qU i) S) [] [] true nx,JC 0 [512] [EL ⟨2,5,0,V,qU i⟩,nameB ⟨2,5,0,V,qU i⟩] [],.b true]) []):=by
 have hV:V.length=32:=by rw[hVe];exact A7 _
 obtain⟨S,hSe,hS,hp⟩:=wV (sd:=AX zen) (ob:=noOb) (h:=0) (k:=2) (a:=5) (t:=0) (o:=V) (auth:=[]) (d:=[]) (by rw[A6s];decide) zad (A6x V hV) zak zak zak
 have hz:zen=List.replicate 32 0:=by rw[zen]
 have hU:EJ 2 0 ⟨[],S,[]⟩=qU i:=by rw[hSe,hVe,hz];unfold qU;rfl
 have hK:qU i=FM S 0:=by rw[<-hU];unfold EJ;rw[if_pos rfl]
 have hl:(qU i).length=17:=by rw[hK];exact Tf zad
 rw[hU,show G7 noOb=0 from rfl] at hp
 refine⟨S,hS,hK,hl,?_⟩
 have hb1:(EL ⟨2,5,0,V,qU i⟩).length<=1024:=za8
 have hb2:(nameB ⟨2,5,0,V,qU i⟩).length<=1024:=by rw[EU];decide
 generalize EL ⟨2,5,0,V,qU i⟩=B1 at *
 generalize nameB ⟨2,5,0,V,qU i⟩=B2 at *
 generalize qU i=U at *
 have ok:=gQ R P J hR hP hJ
 have hq:=A7Z 0 2 5 0 V [] [] zaa zaa zaa zaa zaa zak zak
 have x1:=xR (AX zen) [[],[],[],[]] (Aw zen BI [] 32) 2 R P 0 false 0 0 [] 0 5 100 0 0 1000 J true false [[],b] u 0 F 0 Cm noOb [] [] 0 2 5 0 V [] [] rfl zaa zak zak zak rfl (by rw[oL]) (by rw[A6s];omega) AAS zaa zak _ _ _ hp hq
 have q1:=A4A ar wr 0 nx 0 (AX zen) [[],[],[],[]] (Aw zen BI [] 32) 2 R P 0 false [] 0 0 [] 0 5 100 0 0 1000 J true false [[],b] u 0 F 0 Cm noOb [] [] (AX zen) [[],[],[],[]] (Aw zen BI [] 32) 2 R P 0 false [] 0 0 [] 0 5 100 0 0 1000 J true false [[],b] u 0 F 0 Cm (qO V U S) [] [] _ (Qr R P false [] 0 J hR hP hJ zad (.inl ⟨rfl,rfl⟩)).1 (Qr R P false [] 0 J hR hP hJ zad (.inl ⟨rfl,rfl⟩)).1 9 3 [0] [(0,[],[])] [2,5,0] [V,[],[]] 0 [512] [B1,B2] [] hq ⟨.inl rfl,by simp,by simp,by simp,by simp,by intro x hx;simp at hx;rcases hx with rfl|rfl<;>assumption,by simp⟩ x1
 exact KO ar ar wr 0 nx wr nx 0 (AX zen) [[],[],[],[]] (Aw zen BI [] 32) 2 R P 0 false 0 0 [] 0 5 100 0 0 1000 J true false [[],b] u 0 F 0 Cm noOb [] [] (AX zen) [[],[],[],[]] (Aw zen BI [] 32) 2 R P 0 false 0 0 [] 0 5 100 0 0 1000 J true false [[],b] u 0 F 0 Cm (qO V U S) [] [] 9 [0] [(0,[],[])] [2,5,0] [V,[],[]] 0 1 2 [512] [B1,B2] [] q1 zak rfl rfl rfl
theorem AAm(J:List (El BR))(b:List (List UInt8))(V U S:List UInt8)(hR:0<=R/\R<=255)(hP:0<=P/\P<=255)(hJ:oN J):
  Y E0 (.call 9 [GR ar wr 0 0 false (AX zen) [[],[],[],[]] (Aw zen BI [] 32) 2 R P 0 false [] 0 0 [] 0 5 100 0 0 1000 J true false [[],b] u 0 F 0 Cm (qO V U S) [] [] true nx,.i 0,rq 12 [] [] [512] [],.i 0,.i 0] [])=some (.ret (.tup [GR ar wr 0 0 false (AX zen) [[],[],[],[]] (Aw zen BI [] 32) 2 R P 0 false [] 0 0 [] 0 5 100 0 0 1000 J true false [[],b] u 0 F 0 Cm noOb [] [] true nx,JC 0 [] [] [],.b true]) []):=by
 have ok:=gQ R P J hR hP hJ
 have hq:=AAL 512 zad
 have x1:=A6p (AX zen) [[],[],[],[]] (Aw zen BI [] 32) 2 R P 0 false 0 0 [] 0 5 100 0 0 1000 J true false [[],b] u 0 F 0 Cm (qO V U S) [] [] 512 2 5 0 V U [] S [] 0 rfl zad zak zak zad rfl zak hq
 have e:BH (qO V U S) (512-512) ((0,0,0,[],[]),([],[],[]),0)=noOb:=by rw[Ea];rfl
 rw[e] at x1
 have q1:=A4A ar wr 0 nx 0 (AX zen) [[],[],[],[]] (Aw zen BI [] 32) 2 R P 0 false [] 0 0 [] 0 5 100 0 0 1000 J true false [[],b] u 0 F 0 Cm (qO V U S) [] [] (AX zen) [[],[],[],[]] (Aw zen BI [] 32) 2 R P 0 false [] 0 0 [] 0 5 100 0 0 1000 J true false [[],b] u 0 F 0 Cm noOb [] [] _ (Qr R P false [] 0 J hR hP hJ zad (.inl ⟨rfl,rfl⟩)).1 (Qr R P false [] 0 J hR hP hJ zad (.inl ⟨rfl,rfl⟩)).1 12 0 [] [] [512] [] 0 [] [] [] hq (o7 0 (.inl rfl)) x1
 exact KO ar ar wr 0 nx wr nx 0 (AX zen) [[],[],[],[]] (Aw zen BI [] 32) 2 R P 0 false 0 0 [] 0 5 100 0 0 1000 J true false [[],b] u 0 F 0 Cm (qO V U S) [] [] (AX zen) [[],[],[],[]] (Aw zen BI [] 32) 2 R P 0 false 0 0 [] 0 5 100 0 0 1000 J true false [[],b] u 0 F 0 Cm noOb [] [] 12 [] [] [512] [] 0 0 0 [] [] [] q1 zak rfl rfl rfl
theorem A6y{J:List (El BR)}{U:List UInt8}(h:∀ x∈J,x.1≠U)(hl:J.length<8):FN J U 0=(J++[(U,1)],0,0):=by
 have:∀ l:List (El BR),(∀ x∈l,x.1≠U)->keyAt U l=l.length:=by
  intro l;induction l with
  | nil=>intro _;rfl
  | cons a l ih=>intro h;rw[keyAt,if_neg (h a (List.mem_cons_self ..)),ih fun x hx=>h x (List.mem_cons_of_mem _ hx),List.length_cons]
 unfold FN
 rw[this J h,if_neg zaa,if_neg zaa]
theorem ACR:Ar .and 5 1=1:=by rw[Af];decide
theorem ACS:Ar .and 5 2=0:=by rw[Af];decide
theorem ACT:Ar .and 5 4≠0:=by rw[Af];decide
theorem AAn(J:List (El BR))(b:List (List UInt8))(V U S d m:List UInt8)(mk:Int)(A:Att)(hA:A=⟨nameB ⟨2,5,0,V,U⟩,m,R,P,0,F,u,0,mk,d⟩)(hR:0<=R/\R<=200)(hP:0<=P/\P<=200)(hJ:oN J)(hJl:J.length<8)(hU:∀ x∈J,x.1≠U)(hUl:U.length=17)(hV:V.length=32)(hS:S.length=32)(hm:m.length<=100)(hd:d.length=32)(hmk:0<=mk/\mk<=65535)(hI:qI ar wr nx (qS R P false [] 0 J))(hn:nx<=900)(hD:Y E0 (.call 256 [.agg [.sl (.sl (.sl .u8)) [[],b],.i u],.agg [.i 0,.i mk]] [])=some (.ret (.tup [.sl .u8 d,.i 0]) [])):
  ∃ ar' wr' nx',qI ar' wr' nx' (qS R P false [] 0 (J++[(U,1)]))/\nx'<=nx+1/\oN (J++[(U,1)]) /\
  Y E0 (.call 9 [GR ar wr 0 0 false (AX zen) [[],[],[],[]] (Aw zen BI [] 32) 2 R P 0 false [] 0 0 [] 0 5 100 0 0 1000 J true false [[],b] u 0 F 0 Cm (qO V U S) [] [] true nx,.i 0,rq 15 [512] [(0,[],[])] [0,mk] [m],.i 0,.i 2] [])=some (.ret (.tup [GR ar' wr' 0 0 false (AX zen) [[],[],[],[]] (Aw zen BI [] 32) 2 R P 0 false [] 0 0 [] 0 5 100 0 0 1000 (J++[(U,1)]) true false [[],b] u 0 F 0 Cm (qO V U S) [] [] true nx',JC 0 [] [Ef A,ES S 0 0 (Ef A)] [],.b true]) []):=by
 obtain⟨hA0,hw⟩:=hI
 have hu:=A6y hU hJl
 have hJ1:oN (J++[(U,1)]):=by
  refine⟨by simp;omega,fun x hx=>?_⟩
  rcases List.mem_append.1 hx with hx|hx
  ·exact hJ.2 x hx
  ·simp at hx;subst hx
   exact⟨⟨by show U.length<=32;omega,(show(0:Int)<=1 by decide),(show(1:Int)<=1000 by decide)⟩,(show(1:Int)<=255 by decide)⟩
 have h0:=gQ R P J zaa zaa hJ
 have h1:=gQ R P _ zaa zaa hJ1
 have hq:=AAM 512 mk m zad hmk hm
 have hl1:(Ef A).length<=1024:=by
  rw[hA];unfold Ef
  simp only[Ah,BD,AB,Aj,List.length_append,List.length_cons,List.length_nil,NJ,EU]
  omega
 have hl2:(ES S 0 0 (Ef A)).length<=1024:=by rw[kK zad zad];decide
 have x1:=A6q (AX zen) [[],[],[],[]] (Aw zen BI [] 32) 2 R P 0 false 0 0 [] 0 5 100 0 0 1000 J true false [[],b] u 0 F 0 Cm (qO V U S) [] [] 512 mk m 5 V U S [] 0 d rfl zad rfl zak rfl zaa zaa zaa ACR ACT ACS zaa (by have:=hJ.1;omega) (fun x hx=>⟨(hJ.2 x hx).1.2.1,(hJ.2 x hx).1.2.2⟩) (by rw[hu]) zaa (A4R 0 zad) hD (Ef A) (by rw[hA]) hq
 rw[hu] at x1
 obtain⟨ar',wr',nx',k1,k2,k3,k4,_,ha⟩:=Rk ar wr 0 nx 0 (AX zen) [[],[],[],[]] (Aw zen BI [] 32) 2 R P 0 false 0 0 [] 0 5 100 0 0 1000 J true false [[],b] u 0 F 0 Cm (qO V U S) [] [] (AX zen) [[],[],[],[]] (Aw zen BI [] 32) 2 R P 0 false 0 0 [] 0 5 100 0 0 1000 (J++[(U,1)]) true false [[],b] u 0 F 0 Cm (qO V U S) [] [] 15 1 [512] [(0,[],[])] [0,mk] [m] 0 [] [Ef A,ES S 0 0 (Ef A)] [] hq ⟨.inl rfl,by simp,by simp,by simp,by simp,by intro x hx;simp at hx;rcases hx with rfl|rfl<;>assumption,by simp⟩ h0 h1 hA0 hw zaa x1
 exact⟨ar',wr',nx',⟨k1,k2,k3⟩,k4,hJ1,KO ar ar' wr 0 nx wr' nx' 0 (AX zen) [[],[],[],[]] (Aw zen BI [] 32) 2 R P 0 false 0 0 [] 0 5 100 0 0 1000 J true false [[],b] u 0 F 0 Cm (qO V U S) [] [] (AX zen) [[],[],[],[]] (Aw zen BI [] 32) 2 R P 0 false 0 0 [] 0 5 100 0 0 1000 (J++[(U,1)]) true false [[],b] u 0 F 0 Cm (qO V U S) [] [] 15 [512] [(0,[],[])] [0,mk] [m] 0 0 2 [] [Ef A,ES S 0 0 (Ef A)] [] ha zak rfl rfl rfl⟩
end
section
attribute [local irreducible] Bl CQ CS Bo Bg Ar CU Dw EN Dy EC Bf BU Bv Bz and' C9 CB BK Au BA BL BN Aa Ad AP AZ CV Dq CW DI CE BP BM BF BG BB AU BC Ae Ap Ai CX BH Bh Ba BO CG CY CJ fits CZ CO A8 AA Ac
theorem UF(u:Int):Y E0 (.call 68 [Om [[],b] u,.i 0] [])=some (.ret (.b false) []):=by
 have e:=Zz [] [b] u zak
 rw[decide_eq_false zak] at e
 exact e
theorem UG(u:Int)(h:EF 32 b):Y E0 (.call 68 [Om [[],b] u,.i 1] [])=some (.ret (.b true) []):=by
 have e:=V4 [] b [] u zak
 rw[decide_eq_true (by have:=h.1;omega)] at e
 exact e
theorem A4g(hi:0<=i/\i<16):∃ n:Int,n<=4/\Y E0 (.call 85 [.i i,.b false] [])=some (.ret (.i n) []):=by
 by_cases h14:i=14
 ·subst h14
  refine⟨2,by omega,?_⟩
  refine tq ?_
  with_reducible rfl
 ·by_cases h15:i=15
  ·subst h15
   refine⟨3,by omega,?_⟩
   refine tq ?_
   with_reducible rfl
  ·refine⟨0,by omega,?_⟩
   refine tq ?_
   with_reducible rfl
theorem uX(u:Int)(h:EF 32 b)(d:List UInt8)(hd:d.length<=10000):Y E0 (.loop 47 0 0 2 [(1,AV.sl Ty.u8 d),(2,AV.pa 0 0),(5,AV.nm 1),(6,AV.i 0)] [(0,some (Rs.var [AV.sl Ty.u8.sl.sl [[],b],AV.i u])),(1,some (Rs.row 22 Ty.u8.sl (Ba 2 [])))])=some (.fin (.exit 0) 0 [(5,.sl (.sl .u8) [[],sha256 d])] []):=by
 have e:BH [([]:List UInt8),[]] 1 (sha256 d)=[[],sha256 d]:=by rw[Ea];rfl
 have e2:Ba 2 ([]:List UInt8)=[[],[]]:=zbj
 rw[e2]
 refine tq ?_
 rw[UF b u]
 refine tq ?_
 refine tq ?_
 rw[show(0:Int)+1=1 from rfl,UG b u h]
 refine tq ?_
 rw[Zx _ Aq]
 refine tq ?_
 refine tq ?_
 rw[e]
theorem A4h(u:Int)(h:EF 32 b)(d:List UInt8)(hd:d.length<=10000):Y E0 (.call 47 [Om [[],b] u,.sl .u8 d] [])=some (.ret (.sl (.sl .u8) [[],sha256 d]) []):=by
 have e:=uX b u h d hd
 refine tq ?_
 rw[e]
 exact tq rfl
theorem A0d(u i:Int)(d:List UInt8)(h:EF 32 b)(hd:d.length=32):Y E0 (.loop 46 0 0 2 [(2,AV.i i),(3,AV.sl Ty.u8.sl [[],d]),(4,AV.pa 0 0),(8,AV.pa 1 0),(10,AV.i 0)] [(0,some (Rs.var [AV.sl Ty.u8.sl.sl [[],b],AV.i u])),(1,some (Rs.var [AV.nil,AV.i 0]))])=some (.fin (.exit 0) 2 [(2,AV.i i),(3,AV.sl Ty.u8.sl [[],d]),(4,AV.pa 0 0),(8,AV.pa 1 0)] [(0,some (Rs.var [AV.sl Ty.u8.sl.sl [[],b],AV.i u])),(1,some (Rs.var [AV.nil,AV.i 0]))]):=by
 have hg1:Ai [[],d] (0+1)=some d:=YF _ _ _
 refine tq ?_
 rw[UF b u]
 refine tq ?_
 refine tq ?_
 rw[show(0:Int)+1=1 from rfl,UG b u h]
 refine tq ?_
 exact tq rfl
theorem A0e(u i:Int)(d:List UInt8)(h:EF 32 b)(hd:d.length=32):Y E0 (.loop 46 1 0 2 [(2,AV.i i),(3,AV.sl Ty.u8.sl [[],d]),(4,AV.pa 0 0),(8,AV.pa 1 0),(11,AV.i 0)] [(0,some (Rs.var [AV.sl Ty.u8.sl.sl [[],b],AV.i u])),(1,some (Rs.var [AV.nil,AV.i 0]))])=some (.fin (.exit 2) 2 [(2,AV.i i),(3,AV.sl Ty.u8.sl [[],d]),(4,AV.pa 0 0),(8,AV.pa 1 0)] [(0,some (Rs.var [AV.sl Ty.u8.sl.sl [[],b],AV.i u])),(1,some (Rs.var [AV.nil,AV.i 0]))]):=by
 have hg1:Ai [[],d] (0+1)=some d:=YF _ _ _
 refine tq ?_
 rw[UF b u]
 refine tq ?_
 refine tq ?_
 rw[show(0:Int)+1=1 from rfl,UG b u h]
 refine tq ?_
 rw[rJ]
 refine tq ?_
 exact tq rfl
theorem A0f(u i:Int)(d x:List UInt8)(h:EF 32 b)(hi:0<=i/\i<16)(hd:d.length=32)(hg:Ai b i=some x)(hx:x.length=32):Y E0 (.loop 46 2 0 6 [(2,AV.i i),(3,AV.sl Ty.u8.sl [[],d]),(4,AV.pa 0 0),(8,AV.pa 1 0),(12,.pa 2 0),(13,AV.i 0)] [(0,some (Rs.var [AV.sl Ty.u8.sl.sl [[],b],AV.i u])),(1,some (Rs.var [AV.nil,AV.i 0])),(2,some (.var [.nm 3,.i u])),(3,some (.rowA 24 1 2 [.nm 4,.nm 5])),(4,some (.row 22 (.sl .u8) [])),(5,some (.row 22 (.sl .u8) b))])=some (.fin (.exit 4) 5 [(8,.pa 0 0),(12,.pa 1 0)] [(0,some (.var [.nil,.i 0])),(1,some (.var [.nm 2,.i u])),(2,some (.rowA 24 1 2 [.nm 3,.nm 4])),(3,some (.row 22 (.sl .u8) [])),(4,some (.row 22 (.sl .u8) (BH b i (sha256 (BO x d)))))]):=by
 have hb:=h.1
 have hg1:Ai [[],d] (0+1)=some d:=YF _ _ _
 have hg2:Ai [[],b] (0+1)=some b:=YF _ _ _
 have hg3:Ai [[],d] 1=some d:=YF _ _ _
 have hg4:Ai [[],b] 1=some b:=YF _ _ _
 refine tq ?_
 rw[UF b u]
 refine tq ?_
 refine tq ?_
 rw[show(0:Int)+1=1 from rfl,UG b u h]
 conv=>lhs;whnf
 rw[Fg zaa]
 conv=>lhs;whnf
 rw[Dp zaa]
 conv=>lhs;whnf
 rw[hg4]
 refine tq ?_
 rw[hg]
 refine tq ?_
 rw[WT _ Aq]
 conv=>lhs;whnf
 rw[hg3]
 refine tq ?_
 rw[Zx _ Aq]
 refine tq ?_
 rw[hg]
 refine tq ?_
 exact tq rfl
theorem A9C(u i:Int)(d x:List UInt8)(h:EF 32 b)(hu:0<=u/\u<=1000000)(hi:0<=i/\i<16)(hd:d.length=32)(hg:Ai b i=some x):Y E0 (.call 46 [Om [[],b] u,.i 4,.i i,.sl (.sl .u8) [[],d]] [])=some (.ret (.tup [Om [[],BH b i (sha256 (BO x d))] (u+1),.i 0]) []):=by
 obtain⟨n,hn,e⟩:=A4g i hi
 have k1:=Og (.inr h) (show 32<=1000 by decide)
 have ec:=Zy [] b u zak k1.1 zak k1.2
 have e0:=A0d b u i d h hd
 have e1:=A0e b u i d h hd
 have hx:x.length=32:=by
  obtain⟨y,hm,hy⟩:=Gp (l:=b) (i:=i) (by have:=h.1;omega)
  rw[hg] at hy;cases hy;exact h.2 x hm
 have e2:=A0f b u i d x h hi hd hg hx
 refine tq ?_
 rw[e]
 refine tq ?_
 rw[e0]
 refine tq ?_
 rw[e1]
 refine tq ?_
 rw[ec]
 conv=>lhs;whnf
 rw[AO]
 conv=>lhs;whnf
 try dsimp -iota -beta -eta -zeta only
 rw[EQ]
 erw[e2]
 exact tq rfl
theorem A6z(u i:Int)(d x:List UInt8)(h:EF 32 b)(hu:0<=u/\u<=1000000)(hi:0<=i/\i<16)(hd:d.length<=100)(hg:Ai b i=some x):Y E0 (.call 24 [Om [[],b] u,.i 4,.i i,.sl .u8 d] [])=some (.ret (.tup [Om [[],BH b i (sha256 (BO x (sha256 d)))] (u+1),.i 0]) []):=by
 have e1:=A4h b u h d zaa
 have e2:=A9C b u i (sha256 d) x h hu hi (A7 _) hg
 refine tq ?_
 rw[e1]
 refine tq ?_
 rw[e2]
 exact tq rfl
theorem oD(u:Int):Y E0 (.loop 28 1 0 5 [(2,AV.pa 0 0),(3,AV.pa 1 0),(4,AV.i 0),(5,AV.i 12)] [(0,some (Rs.var [AV.nil,AV.i 0])),(1,some (.var [.nm 2,.i u])),(2,some (.rowA 24 1 2 [.nm 3,.nm 4])),(3,some (.row 22 (.sl .u8) [])),(4,some (.row 22 (.sl .u8) b))])=some (.fin (.exit 2) 5 [(2,.pa 0 0),(3,.pa 1 0),(4,.i 0)] [(0,some (Rs.var [AV.nil,AV.i 0])),(1,some (.var [.nm 2,.i u])),(2,some (.rowA 24 1 2 [.nm 3,.nm 4])),(3,some (.row 22 (.sl .u8) [])),(4,some (.row 22 (.sl .u8) b))]):=by
 exact tq rfl
theorem oG(u:Int)(h:EF 32 b):Y E0 (.loop 28 1 0 5 [(2,AV.pa 0 0),(3,AV.pa 1 0),(4,AV.i 1),(5,AV.i 12)] [(0,some (Rs.var [AV.nil,AV.i 0])),(1,some (.var [.nm 2,.i u])),(2,some (.rowA 24 1 2 [.nm 3,.nm 4])),(3,some (.row 22 (.sl .u8) [])),(4,some (.row 22 (.sl .u8) b))])=some (.fin (.exit 2) 5 [(2,.pa 0 0),(3,.pa 1 0),(4,.i 1)] [(0,some (Rs.var [AV.nil,AV.i 0])),(1,some (.var [.nm 2,.i u])),(2,some (.rowA 24 1 2 [.nm 3,.nm 4])),(3,some (.row 22 (.sl .u8) [])),(4,some (.row 22 (.sl .u8) (LH b)))]):=by
 have hb:=h.1
 refine tq ?_
 rw[Ld _ _ Aq]
 conv=>lhs;whnf
 rw[GL zaa]
 conv=>lhs;whnf
 rw[D8 zaa]
 conv=>lhs;whnf
 try dsimp -iota -beta -eta -zeta only
 rw[drw zaj];conv=>lhs;whnf
 try dsimp -iota -beta -eta -zeta only
 rw[Bc zaa]
 refine tq ?_
 rw[Ld _ _ Aq]
 conv=>lhs;whnf
 rw[GL zaz]
 conv=>lhs;whnf
 rw[D8 zaz]
 conv=>lhs;whnf
 try dsimp -iota -beta -eta -zeta only
 rw[drw zaj];conv=>lhs;whnf
 try dsimp -iota -beta -eta -zeta only
 rw[Bc zaa]
 refine tq ?_
 rw[Ld _ _ Aq]
 conv=>lhs;whnf
 rw[GL zaz]
 conv=>lhs;whnf
 rw[D8 zaz]
 conv=>lhs;whnf
 try dsimp -iota -beta -eta -zeta only
 rw[drw zaj];conv=>lhs;whnf
 try dsimp -iota -beta -eta -zeta only
 rw[Bc zaa]
 refine tq ?_
 rw[Ld _ _ Aq]
 conv=>lhs;whnf
 rw[GL zaz]
 conv=>lhs;whnf
 rw[D8 zaz]
 conv=>lhs;whnf
 try dsimp -iota -beta -eta -zeta only
 rw[drw zaj];conv=>lhs;whnf
 try dsimp -iota -beta -eta -zeta only
 rw[Bc zaa]
 refine tq ?_
 rfl
theorem uY(u:Int)(h:EF 32 b):Y E0 (.loop 28 0 0 5 [(2,AV.pa 0 0),(3,AV.pa 1 0),(4,AV.i 0)] [(0,some (Rs.var [AV.nil,AV.i 0])),(1,some (.var [.nm 2,.i u])),(2,some (.rowA 24 1 2 [.nm 3,.nm 4])),(3,some (.row 22 (.sl .u8) [])),(4,some (.row 22 (.sl .u8) b))])=some (.fin (.exit 0) 5 [(2,.pa 0 0),(3,.pa 1 0)] [(0,some (Rs.var [AV.nil,AV.i 0])),(1,some (.var [.nm 2,.i u])),(2,some (.rowA 24 1 2 [.nm 3,.nm 4])),(3,some (.row 22 (.sl .u8) [])),(4,some (.row 22 (.sl .u8) (LH b)))]):=by
 refine tq ?_
 rw[oD b u]
 refine tq ?_
 refine tq ?_
 rw[show(0:Int)+1=1 from rfl,oG b u h]
 refine tq ?_
 exact tq rfl
theorem A70(u:Int)(h:EF 32 b):Y E0 (.call 28 [Om [[],b] u] [])=some (.ret (Om [[],LH b] u) []):=by
 have k1:=Og (.inr h) (show 32<=1000 by decide)
 have ec:=Zy [] b u zak k1.1 zak k1.2
 have e2:=uY b u h
 refine tq ?_
 rw[ec]
 refine tq ?_
 erw[e2]
 exact tq rfl
end
section
attribute [local irreducible] Bl CQ CS Bo Bg Ar CU Dw EN Dy EC Bf BU Bv Bz and' C9 CB BK Au BA BL BN Aa Ad AP AZ CV Dq CW DI CE BP BM BF BG BB AU BC Ae Ap Ai CX BH Bh Ba BO CG CY CJ fits CZ CO A8 AA Ac
attribute [local irreducible] Ef ES nameB EL EJ FM qU UD Fb U0
abbrev MP:Ty:=.pair (.sl .u8) (.pair (.sl .u8) (.pair .i64 (.pair .i64 (.pair .i64 (.pair .bool (.pair .i64 (.pair (.pair .i64 .i64) (.sl .u8))))))))
abbrev qA(R P u m:Int)(F:Bool)(K N d:List UInt8):AV:=.agg [.sl .u8 K,.sl .u8 N,.i R,.i P,.i 0,.b F,.i u,.i 0,.i m,.sl .u8 d]
theorem ag:Y E0 (.call 23 [.i i,.sl .u8 d] [])=some (.ret (rq 7 [] [] [i] [d]) []):=by
 refine tq ?_
 with_reducible rfl
theorem gU(c h:Int)(bs:List (List UInt8)):Y E0 (.call 15 [.i c,.i h,.sl (.sl .u8) bs] [])=some (.ret (rq c [h] [] [] bs) []):=by
 refine tq ?_
 with_reducible rfl
theorem oH:Y E0 (.call 27 [.i 1] [])=some (.ret (rq 1 [] [] [1] []) []):=by
 refine tq ?_
 with_reducible rfl
def qNe(R P u:Int)(x:El MP):Prop:=¬(R=x.2.2.1/\P=x.2.2.2.1/\u=x.2.2.2.2.2.2.1)
theorem oI(cs:List UInt8)(mask R P u mk wr1 Jh wr4 nx4:Int)(i:Nat)(ar1 ar4:List (List UInt8))(J J1:List (El BR))(b:List (List UInt8))(F:Bool)(K N d:List UInt8)(Q:List (El MP))(hQ:Q.length<=8)(hN:∀ x∈Q,qNe R P u x):∀(k j:Nat),j+k=Q.length ->
  Y E0 (.loop 5 1 0 5 [(0,.sl .u8 cs),(1,.i mask),(5,.pa 0 0),(7,.pa 1 0),(8,.i R),(9,.i P),(10,.nm 2),(11,.i (i:Int)),(24,.pa 3 0),(28,.pa 4 0),(263,.nm 2),(264,.i (Q.length:Int)),(265,.i (j:Int))] [(0,some (.var [.sl (.sl .u8) ar1,.i wr1,.i 0,.i 0,.b false,.sl (.sl .u8) (AX zen),.sl (.sl .u8) [[],[],[],[]],.sl .u8 (Aw zen BI [] 32),.i 2,.i R,.i P,.i 0,.b false,.sl (.sl (.sl .u8)) [],.i 0,.i 0,.sl AL [],.i 0,.i 5,.i 100,.i 0,.i 0,.i 1000,.sl BR J,.b true,.b false,.sl (.sl (.sl .u8)) [[],b],.i u,.i 0,.b F,.i 0,.sl sesT Cm,.sl objT noOb,.sl .i64 [],.sl .i64 [],.b true,.i Jh])),(1,some (.var [.sl (.sl (.sl .u8)) [[],b],.i u])),(2,some (.row 88 MP Q)),(3,some (.var [.sl (.sl .u8) ar4,.i wr4,.i 0,.i 0,.b false,.sl (.sl .u8) (AX zen),.sl (.sl .u8) [[],[],[],[]],.sl .u8 (Aw zen BI [] 32),.i 2,.i R,.i P,.i 0,.b false,.sl (.sl (.sl .u8)) [],.i 0,.i 0,.sl AL [],.i 0,.i 5,.i 100,.i 0,.i 0,.i 1000,.sl BR J1,.b true,.b false,.sl (.sl (.sl .u8)) [[],b],.i u,.i 0,.b F,.i 0,.sl sesT Cm,.sl objT noOb,.sl .i64 [],.sl .i64 [],.b true,.i nx4])),(4,some (.var [.sl .u8 K,.sl .u8 N,.i R,.i P,.i 0,.b F,.i u,.i 0,.i mk,.sl .u8 d]))])=some (.fin (.exit 3) 5 [(0,.sl .u8 cs),(1,.i mask),(5,.pa 0 0),(7,.pa 1 0),(8,.i R),(9,.i P),(10,.nm 2),(11,.i (i:Int)),(24,.pa 3 0),(28,.pa 4 0)] [(0,some (.var [.sl (.sl .u8) ar1,.i wr1,.i 0,.i 0,.b false,.sl (.sl .u8) (AX zen),.sl (.sl .u8) [[],[],[],[]],.sl .u8 (Aw zen BI [] 32),.i 2,.i R,.i P,.i 0,.b false,.sl (.sl (.sl .u8)) [],.i 0,.i 0,.sl AL [],.i 0,.i 5,.i 100,.i 0,.i 0,.i 1000,.sl BR J,.b true,.b false,.sl (.sl (.sl .u8)) [[],b],.i u,.i 0,.b F,.i 0,.sl sesT Cm,.sl objT noOb,.sl .i64 [],.sl .i64 [],.b true,.i Jh])),(1,some (.var [.sl (.sl (.sl .u8)) [[],b],.i u])),(2,some (.row 88 MP Q)),(3,some (.var [.sl (.sl .u8) ar4,.i wr4,.i 0,.i 0,.b false,.sl (.sl .u8) (AX zen),.sl (.sl .u8) [[],[],[],[]],.sl .u8 (Aw zen BI [] 32),.i 2,.i R,.i P,.i 0,.b false,.sl (.sl (.sl .u8)) [],.i 0,.i 0,.sl AL [],.i 0,.i 5,.i 100,.i 0,.i 0,.i 1000,.sl BR J1,.b true,.b false,.sl (.sl (.sl .u8)) [[],b],.i u,.i 0,.b F,.i 0,.sl sesT Cm,.sl objT noOb,.sl .i64 [],.sl .i64 [],.b true,.i nx4])),(4,some (.var [.sl .u8 K,.sl .u8 N,.i R,.i P,.i 0,.b F,.i u,.i 0,.i mk,.sl .u8 d]))])
 | 0,j,hj=>by
  obtain rfl:j=Q.length:=zaa
  rw[AO];conv=>lhs;whnf
  refine tq ?_
  with_reducible rfl
 | k+1,j,hj=>by
  obtain⟨y,hm,hg⟩:=Gp (l:=Q) (i:=(j:Int)) zaa
  have hn:=hN y hm
  obtain⟨x1,x2,r,p,x5,x6,v,⟨x8,x9⟩,x10⟩:=y
  have hn:¬(R=r/\P=p/\u=v):=hn
  have ih:=oI cs mask R P u mk wr1 Jh wr4 nx4 i ar1 ar4 J J1 b F K N d Q hQ hN k (j+1) zaa
  rw[show((j+1:Nat):Int)=(j:Int)+1 from by omega] at ih
  by_cases h1:R=r
  ·by_cases h2:P=p
   ·have h3:u≠v:=fun h=>hn ⟨h1,h2,h⟩
    rw[AO];conv=>lhs;whnf
    refine to ?_
    rw[hg]
    refine tq ?_
    exact ih
   ·rw[AO];conv=>lhs;whnf
    refine to ?_
    rw[hg]
    refine tq ?_
    exact ih
  ·rw[AO];conv=>lhs;whnf
   refine to ?_
   rw[hg]
   refine tq ?_
   exact ih
theorem uZ(wr1 Jh wr4 nx4:Int)(i:Nat)(ar1 ar4:List (List UInt8))(J J1:List (El BR))(b:List (List UInt8))(F:Bool)(K N d:List UInt8)(Q:List (El MP))(hQ:Q.length<=8)(hN:∀ x∈Q,qNe R P u x):Y E0 (.loop 5 1 0 5 [(0,.sl .u8 cs),(1,.i mask),(5,.pa 0 0),(7,.pa 1 0),(8,.i R),(9,.i P),(10,.nm 2),(11,.i (i:Int)),(24,.pa 3 0),(28,.pa 4 0),(263,.nm 2),(264,.i (Ap Q)),(265,.i 0)] [(0,some (.var [.sl (.sl .u8) ar1,.i wr1,.i 0,.i 0,.b false,.sl (.sl .u8) (AX zen),.sl (.sl .u8) [[],[],[],[]],.sl .u8 (Aw zen BI [] 32),.i 2,.i R,.i P,.i 0,.b false,.sl (.sl (.sl .u8)) [],.i 0,.i 0,.sl AL [],.i 0,.i 5,.i 100,.i 0,.i 0,.i 1000,.sl BR J,.b true,.b false,.sl (.sl (.sl .u8)) [[],b],.i u,.i 0,.b F,.i 0,.sl sesT Cm,.sl objT noOb,.sl .i64 [],.sl .i64 [],.b true,.i Jh])),(1,some (.var [.sl (.sl (.sl .u8)) [[],b],.i u])),(2,some (.row 88 MP Q)),(3,some (.var [.sl (.sl .u8) ar4,.i wr4,.i 0,.i 0,.b false,.sl (.sl .u8) (AX zen),.sl (.sl .u8) [[],[],[],[]],.sl .u8 (Aw zen BI [] 32),.i 2,.i R,.i P,.i 0,.b false,.sl (.sl (.sl .u8)) [],.i 0,.i 0,.sl AL [],.i 0,.i 5,.i 100,.i 0,.i 0,.i 1000,.sl BR J1,.b true,.b false,.sl (.sl (.sl .u8)) [[],b],.i u,.i 0,.b F,.i 0,.sl sesT Cm,.sl objT noOb,.sl .i64 [],.sl .i64 [],.b true,.i nx4])),(4,some (.var [.sl .u8 K,.sl .u8 N,.i R,.i P,.i 0,.b F,.i u,.i 0,.i mk,.sl .u8 d]))])=some (.fin (.exit 3) 5 [(0,.sl .u8 cs),(1,.i mask),(5,.pa 0 0),(7,.pa 1 0),(8,.i R),(9,.i P),(10,.nm 2),(11,.i (i:Int)),(24,.pa 3 0),(28,.pa 4 0)] [(0,some (.var [.sl (.sl .u8) ar1,.i wr1,.i 0,.i 0,.b false,.sl (.sl .u8) (AX zen),.sl (.sl .u8) [[],[],[],[]],.sl .u8 (Aw zen BI [] 32),.i 2,.i R,.i P,.i 0,.b false,.sl (.sl (.sl .u8)) [],.i 0,.i 0,.sl AL [],.i 0,.i 5,.i 100,.i 0,.i 0,.i 1000,.sl BR J,.b true,.b false,.sl (.sl (.sl .u8)) [[],b],.i u,.i 0,.b F,.i 0,.sl sesT Cm,.sl objT noOb,.sl .i64 [],.sl .i64 [],.b true,.i Jh])),(1,some (.var [.sl (.sl (.sl .u8)) [[],b],.i u])),(2,some (.row 88 MP Q)),(3,some (.var [.sl (.sl .u8) ar4,.i wr4,.i 0,.i 0,.b false,.sl (.sl .u8) (AX zen),.sl (.sl .u8) [[],[],[],[]],.sl .u8 (Aw zen BI [] 32),.i 2,.i R,.i P,.i 0,.b false,.sl (.sl (.sl .u8)) [],.i 0,.i 0,.sl AL [],.i 0,.i 5,.i 100,.i 0,.i 0,.i 1000,.sl BR J1,.b true,.b false,.sl (.sl (.sl .u8)) [[],b],.i u,.i 0,.b F,.i 0,.sl sesT Cm,.sl objT noOb,.sl .i64 [],.sl .i64 [],.b true,.i nx4])),(4,some (.var [.sl .u8 K,.sl .u8 N,.i R,.i P,.i 0,.b F,.i u,.i 0,.i mk,.sl .u8 d]))]):=by
 rw[AC]
 exact oI cs mask R P u mk wr1 Jh wr4 nx4 i ar1 ar4 J J1 b F K N d Q hQ hN Q.length 0 zaa
theorem A71(i:Nat):DI (i:Int)=UInt8.ofNat i:=by
 rw[Dh];apply UInt8.toNat_inj.1;rw[UInt8.ofInt,UInt8.toNat_ofNat',UInt8.toNat_ofNat'];omega
structure Tl (cs:List UInt8) (ar1:List (List UInt8)) (wr1 Jh R P u mk:Int) (F:Bool) (J:List (El BR)) (b:List (List UInt8)) (i:Nat) (V B1 B2 S1 S2 K d U S:List UInt8) (ar4:List (List UInt8)) (wr4 nx4:Int) (J1:List (El BR)):Prop where
 s1:Y E0 (.call 29 [.sl .u8 [DI (i:Int)]] [])=some (.ret (.sl .u8 V) [])
 m2:Y E0 (.call 9 [GR ar1 wr1 0 0 false (AX zen) [[],[],[],[]] (Aw zen BI [] 32) 2 R P 0 false [] 0 0 [] 0 5 100 0 0 1000 J true false [[],b] u 0 F 0 Cm noOb [] [] true Jh,.i 0,rq 9 [0] [(0,[],[])] [2,5,0] [V,[],[]],.i 1,.i 2] [])=some (.ret (.tup [GR ar1 wr1 0 0 false (AX zen) [[],[],[],[]] (Aw zen BI [] 32) 2 R P 0 false [] 0 0 [] 0 5 100 0 0 1000 J true false [[],b] u 0 F 0 Cm (qO V U S) [] [] true Jh,JC 0 [512] [B1,B2] [],.b true]) [])
 m3:Y E0 (.call 9 [GR ar1 wr1 0 0 false (AX zen) [[],[],[],[]] (Aw zen BI [] 32) 2 R P 0 false [] 0 0 [] 0 5 100 0 0 1000 J true false [[],b] u 0 F 0 Cm (qO V U S) [] [] true Jh,.i 0,rq 15 [512] [(0,[],[])] [0,mk] [[DI (i:Int)]],.i 0,.i 2] [])=some (.ret (.tup [GR ar4 wr4 0 0 false (AX zen) [[],[],[],[]] (Aw zen BI [] 32) 2 R P 0 false [] 0 0 [] 0 5 100 0 0 1000 J1 true false [[],b] u 0 F 0 Cm (qO V U S) [] [] true nx4,JC 0 [] [S1,S2] [],.b true]) [])
 m4:Y E0 (.call 9 [GR ar4 wr4 0 0 false (AX zen) [[],[],[],[]] (Aw zen BI [] 32) 2 R P 0 false [] 0 0 [] 0 5 100 0 0 1000 J1 true false [[],b] u 0 F 0 Cm (qO V U S) [] [] true nx4,.i 0,rq 12 [] [] [512] [],.i 0,.i 0] [])=some (.ret (.tup [GR ar4 wr4 0 0 false (AX zen) [[],[],[],[]] (Aw zen BI [] 32) 2 R P 0 false [] 0 0 [] 0 5 100 0 0 1000 J1 true false [[],b] u 0 F 0 Cm noOb [] [] true nx4,JC 0 [] [] [],.b true]) [])
 d1:Y E0 (.call 30 [.sl .u8 B1] [])=some (.ret (.tup [.agg [.i 2,.i 5,.i 0,.sl .u8 V,.sl .u8 U],.i 0]) [])
 v1:Y E0 (.call 31 [.agg [.i 2,.i 5,.i 0,.sl .u8 V,.sl .u8 U],.sl .u8 S1,.sl .u8 S2] [])=some (.ret (.tup [qA R P u mk F K [DI (i:Int)] d,.i 0,.i 0]) [])
 g1:Y E0 (.call 32 [Om [[],b] u,.agg [.i 0,.i mk]] [])=some (.ret (.tup [.sl .u8 d,.i 0]) [])
 dl:d.length=32
 inv:qI ar4 wr4 nx4 (qS R P false [] 0 J1)
 nx:nx4<=Jh+1
 jo:oN J1
 je:J1=J++[(qU i,1)]
theorem uf(F:Bool)(J:List (El BR))(b:List (List UInt8))(i:Nat)(hR:0<=R/\R<=200)(hP:0<=P/\P<=200)(hu:0<=u/\u<=1000)(hJ:oN J)(hJl:J.length<8)(hU:∀ x∈J,x.1≠qU i)(hb:EF 32 b)(hmk:0<=mk/\mk<=65535)(hI:qI ar wr nx (qS R P false [] 0 J))(hn:nx<=900):
  ∃ V B1 B2 S1 S2 K d U S ar4 wr4 nx4 J1,Tl cs ar wr nx R P u mk F J b i V B1 B2 S1 S2 K d U S ar4 wr4 nx4 J1:=by
 have hb16:=hb.1
 have hD:Y E0 (.call 256 [.agg [.sl (.sl (.sl .u8)) [[],b],.i u],.agg [.i 0,.i mk]] [])=some (.ret (.tup [.sl .u8 (U0 0 mk [] b),.i 0]) []):=by
  rcases xA [] b u 0 mk (.inl rfl) (.inr hb) with⟨e,he,hr⟩|⟨-,hr⟩
  ·exact absurd he zaa
  ·exact hr
 have hG:Y E0 (.call 32 [Om [[],b] u,.agg [.i 0,.i mk]] [])=some (.ret (.tup [.sl .u8 (U0 0 mk [] b),.i 0]) []):=by
  rcases A3Q [] b u 0 mk (.inl rfl) (.inr hb) with⟨e,he,hr⟩|⟨-,hr⟩
  ·exact absurd he.2 zaa
  ·exact hr
 have hdl:(U0 0 mk [] b).length=32:=by unfold U0;exact A7 _
 generalize U0 0 mk [] b=d at *
 obtain⟨V,hV⟩:∃ V,V=sha256 [UInt8.ofNat i]:=⟨_,rfl⟩
 have hVl:V.length=32:=by rw[hV];exact A7 _
 obtain⟨S,hS,hK,hUl,m2⟩:=AAl ar wr nx R P u F J b i V hV zaa zaa hJ
 obtain⟨A,hA⟩:∃ A:Att,A=⟨nameB ⟨2,5,0,V,qU i⟩,[DI (i:Int)],R,P,0,F,u,0,mk,d⟩:=⟨_,rfl⟩
 obtain⟨ar4,wr4,nx4,hI4,hn4,hJ4,m3⟩:=AAn ar wr nx R P u F J b V (qU i) S d [DI (i:Int)] mk A hA hR hP hJ hJl hU hUl hVl hS zak hdl hmk hI hn hD
 have m4:=AAm ar4 wr4 nx4 R P u F (J++[(qU i,1)]) b V (qU i) S zaa zaa hJ4
 have hn32:=EU ⟨2,5,0,V,qU i⟩
 have hAok:OkA A:=by
  rw[hA]
  exact⟨hn32,by simp,(by show 0<=R/\R<9223372036854775808;omega),(by show 0<=P/\P<9223372036854775808;omega),(by show(0:Int)<=0/\(0:Int)<9223372036854775808;decide),(by show 0<=u/\u<9223372036854775808;omega),(by show(0:Int)<=0/\(0:Int)<65536;decide),(by show 0<=mk/\mk<65536;omega),hdl⟩
 have hAk:A.key=nameB ⟨2,5,0,V,qU i⟩:=by rw[hA]
 have hsV:Di V=V:=by unfold Di;rw[List.take_of_length_le zaa,List.drop_of_length_le (by rw[List.length_replicate];omega),List.append_nil]
 have hkq:Yu S 0 V=⟨2,5,0,V,qU i⟩:=by rw[Yu,hsV,<-hK,show UE 0=5 from by decide]
 have hV1:UD ⟨2,5,0,V,qU i⟩ (Ef A) (ES S 0 0 (Ef A))=(A,0,0):=by
  have h:=A9B (o:=V) (t:=0) (A32 (seed:=S) (m:=Ef A) (h:=0) (leaf:=0) zad zad) (A5W hAok)
  rw[hkq,if_pos hAk] at h
  exact h
 have hEl:=aH A (by rw[hAk,hn32];decide) (by rw[hA];simp) (by rw[hA];show d.length<=10000;omega)
 have v1:=oC 2 5 0 V (qU i) (Ef A) (ES S 0 0 (Ef A)) zaa zaa zaa
 rw[hV1] at v1
 have hKc:Cb ⟨2,5,0,V,qU i⟩=0:=by
  have h:=xe (seed:=S) (o:=V) (t:=0)
  rwa [hkq] at h
 have hE:=PM (p:=⟨2,5,0,V,qU i⟩) (by show V.length<=65535;omega) (by show(qU i).length<=65535;omega)
 have d1:=zU (EL ⟨2,5,0,V,qU i⟩) (by rw[hE];show 7+V.length+(qU i).length<=4294967296;omega)
 rw[A35 hKc] at d1
 have s1:=QL [DI (i:Int)] zak
 rw[show sha256 [DI (i:Int)]=V from by rw[A71,hV]] at s1
 refine⟨V,_,_,_,_,A.key,d,qU i,S,ar4,wr4,nx4,J++[(qU i,1)],s1,m2,m3,m4,d1,?_,hG,hdl,hI4,hn4,hJ4,rfl⟩
 rw[v1,hA]
end
section
attribute [local irreducible] Bl CQ CS Bo Bg Ar CU Dw EN Dy EC Bf BU Bv Bz and' C9 CB BK Au BA BL BN Aa Ad AP AZ CV Dq CW DI CE BP BM BF BG BB AU BC Ae Ap Ai CX BH Bh Ba BO CG CY CJ fits CZ CO A8 AA Ac
attribute [local irreducible] Ef ES nameB EL EJ FM qU UD Fb U0
theorem AAo(hc:cs.length<=8)(ar ar1 ar4:List (List UInt8))(wr nx R P u wr1 Jh wr4 nx4:Int)(J J1:List (El BR))(b b1:List (List UInt8))(F:Bool)(i:Nat)(x:UInt8)(hi:i<cs.length)(hg:Ai cs (i:Int)=some x)(Q:List (El MP))(hQ:Q.length<8)(V B1 B2 S1 S2 K d U S:List UInt8)(D2:List UInt8)(hh:Bg (Dq x) 4=0\/Bg (Dq x) 4=1)(hu:0<=u/\u<=1000)(hR:0<=R/\R<=200)(hP:0<=P/\P<=200)(hN:∀ x∈Q,qNe (R) (P) (u+1) x)(m1:Y E0 (.call 9 [GR ar wr 0 0 false (AX zen) [[],[],[],[]] (Aw zen BI [] 32) 2 R P 0 false [] 0 0 [] 0 5 100 0 0 1000 J true false [[],b] u 0 F 0 Cm noOb [] [] true nx,.i 4,rq 7 [] [] [Bg (Bo (Dq x) 4) 16] [[x]],.i 0,.i 2] [])=some (.ret (.tup [GR ar1 wr1 0 0 false (AX zen) [[],[],[],[]] (Aw zen BI [] 32) 2 R P 0 false [] 0 0 [] 0 5 100 0 0 1000 J true false [[],b1] (u+1) 0 F 0 Cm noOb [] [] true Jh,JC 0 [] [[],D2] [],.b true]) []))(e1:Y E0 (.call 24 [Om [[],b] u,.i 4,.i (Bg (Bo (Dq x) 4) 16),.sl .u8 [x]] [])=some (.ret (.tup [Om [[],b1] (u+1),.i 0]) []))(T:Tl cs ar1 wr1 Jh (R) (P) (u+1) (Ar .and mask 65535) F J b1 i V B1 B2 S1 S2 K d U S ar4 wr4 nx4 J1)(r:Option Rsp)(ih:Y E0 (.loop 5 0 0 3 [(0,.sl .u8 cs),(1,.i mask),(5,.pa 0 0),(7,.pa 1 0),(8,.i (R)),(9,.i (P)),(10,.nm 2),(11,.i ((i:Int)+1))] [(0,some (.var [.sl (.sl .u8) ar4,.i wr4,.i 0,.i 0,.b false,.sl (.sl .u8) (AX zen),.sl (.sl .u8) [[],[],[],[]],.sl .u8 (Aw zen BI [] 32),.i 2,.i (R),.i (P),.i 0,.b false,.sl (.sl (.sl .u8)) [],.i 0,.i 0,.sl AL [],.i 0,.i 5,.i 100,.i 0,.i 0,.i 1000,.sl BR J1,.b true,.b false,.sl (.sl (.sl .u8)) [[],b1],.i (u+1),.i 0,.b F,.i 0,.sl sesT Cm,.sl objT noOb,.sl .i64 [],.sl .i64 [],.b true,.i nx4])),(1,some (.var [.sl (.sl (.sl .u8)) [[],b1],.i (u+1)])),(2,some (.row 88 MP (BO Q [(K,[DI (i:Int)],R,P,0,F,u+1,(0,Ar .and mask 65535),d)])))])=r):
  Y E0 (.loop 5 0 0 3 [(0,.sl .u8 cs),(1,.i mask),(5,.pa 0 0),(7,.pa 1 0),(8,.i R),(9,.i P),(10,.nm 2),(11,.i (i:Int))] [(0,some (.var [.sl (.sl .u8) ar,.i wr,.i 0,.i 0,.b false,.sl (.sl .u8) (AX zen),.sl (.sl .u8) [[],[],[],[]],.sl .u8 (Aw zen BI [] 32),.i 2,.i R,.i P,.i 0,.b false,.sl (.sl (.sl .u8)) [],.i 0,.i 0,.sl AL [],.i 0,.i 5,.i 100,.i 0,.i 0,.i 1000,.sl BR J,.b true,.b false,.sl (.sl (.sl .u8)) [[],b],.i u,.i 0,.b F,.i 0,.sl sesT Cm,.sl objT noOb,.sl .i64 [],.sl .i64 [],.b true,.i nx])),(1,some (.var [.sl (.sl (.sl .u8)) [[],b],.i u])),(2,some (.row 88 MP Q))])=r:=by
 obtain⟨s1,m2,m3,m4,d1,v1,g1,hd,-,-,-,-⟩:=T
 have hin:=uZ cs mask (R) (P) (u+1) (Ar .and mask 65535) wr1 Jh wr4 nx4 i ar1 ar4 J J1 b1 F K [DI (i:Int)] d Q zaa hN
 rcases hh with hh|hh
 ·rw[AO];conv=>lhs;whnf
  refine to ?_
  rw[hg]
  refine to ?_
  rw[hg]
  refine tq ?_
  rw[ag ..]
  refine tq ?_
  rw[m1]
  refine to ?_
  rw[hg]
  refine tq ?_
  rw[e1]
  refine tq ?_
  rw[s1]
  refine tq ?_
  rw[MK ..]
  refine tq ?_
  rw[m2]
  refine tq ?_
  rw[gU ..]
  refine tq ?_
  rw[Wh ..]
  refine tq ?_
  rw[m3]
  refine tq ?_
  rw[m4]
  refine tq ?_
  rw[d1]
  conv=>lhs;whnf
  rw[DF];conv=>lhs;whnf
  rw[DY zaa]
  conv=>lhs;whnf
  rw[AO]
  conv=>lhs;whnf
  try dsimp -iota -beta -eta -zeta only
  rw[oL];conv=>lhs;whnf
  rw[YF];conv=>lhs;whnf
  try dsimp -iota -beta -eta -zeta only
  rw[Ak]
  rw[v1]
  refine tq ?_
  rw[g1]
  conv=>lhs;whnf
  rw[DY zaa]
  conv=>lhs;whnf
  rw[DY zaa]
  conv=>lhs;whnf
  rw[DY zaa]
  conv=>lhs;whnf
  rw[DY zaa]
  conv=>lhs;whnf
  rw[AO]
  conv=>lhs;whnf
  try dsimp -iota -beta -eta -zeta only
  rw[Ak]
  rw[OM _ _ Aq]
  refine tq ?_
  rw[hin]
  refine tq ?_
  exact ih
 ·rw[AO];conv=>lhs;whnf
  refine to ?_
  rw[hg]
  refine to ?_
  rw[hg]
  refine tq ?_
  rw[ag ..]
  refine tq ?_
  rw[m1]
  refine to ?_
  rw[hg]
  refine tq ?_
  rw[e1]
  refine tq ?_
  rw[s1]
  refine tq ?_
  rw[MK ..]
  refine tq ?_
  rw[m2]
  refine tq ?_
  rw[gU ..]
  refine tq ?_
  rw[Wh ..]
  refine tq ?_
  rw[m3]
  refine tq ?_
  rw[m4]
  refine tq ?_
  rw[d1]
  conv=>lhs;whnf
  rw[DF];conv=>lhs;whnf
  rw[DY zaa]
  conv=>lhs;whnf
  rw[AO]
  conv=>lhs;whnf
  try dsimp -iota -beta -eta -zeta only
  rw[oL];conv=>lhs;whnf
  rw[YF];conv=>lhs;whnf
  try dsimp -iota -beta -eta -zeta only
  rw[Ak]
  rw[v1]
  refine tq ?_
  rw[g1]
  conv=>lhs;whnf
  rw[DY zaa]
  conv=>lhs;whnf
  rw[DY zaa]
  conv=>lhs;whnf
  rw[DY zaa]
  conv=>lhs;whnf
  rw[DY zaa]
  conv=>lhs;whnf
  rw[AO]
  conv=>lhs;whnf
  try dsimp -iota -beta -eta -zeta only
  rw[Ak]
  rw[OM _ _ Aq]
  refine tq ?_
  rw[hin]
  refine tq ?_
  exact ih
end
section
attribute [local irreducible] Bl CQ CS Bo Bg Ar CU Dw EN Dy EC Bf BU Bv Bz and' C9 CB BK Au BA BL BN Aa Ad AP AZ CV Dq CW DI CE BP BM BF BG BB AU BC Ae Ap Ai CX BH Bh Ba BO CG CY CJ fits CZ CO A8 AA Ac
attribute [local irreducible] Ef ES nameB EL EJ FM qU UD Fb U0
theorem AAp(hc:cs.length<=8)(ar ar1 ar4:List (List UInt8))(wr nx R P u wr1 Jh wr4 nx4:Int)(J J1:List (El BR))(b:List (List UInt8))(F:Bool)(i:Nat)(x:UInt8)(hi:i<cs.length)(hg:Ai cs (i:Int)=some x)(Q:List (El MP))(hQ:Q.length<8)(V B1 B2 S1 S2 K d U S:List UInt8)(hh:Bg (Dq x) 4=2)(hu:0<=u/\u<=1000)(hR:0<=R/\R<=200)(hP:0<=P/\P<=200)(hN:∀ x∈Q,qNe (R+1) (0) (0) x)(c1:Y E0 (.call 16 [GR ar wr 0 0 false (AX zen) [[],[],[],[]] (Aw zen BI [] 32) 2 R P 0 false [] 0 0 [] 0 5 100 0 0 1000 J true false [[],b] u 0 F 0 Cm noOb [] [] true nx] [])=some (.ret (.tup [GR ar1 wr1 0 0 false (AX zen) [[],[],[],[]] (Aw zen BI [] 32) 2 (R+1) 0 0 false [] 0 0 [] 0 5 100 0 0 1000 J true false [[],Ec 32] 0 0 false 0 Cm noOb [] [] true Jh,.b true]) []))(n1:Y E0 (.call 22 [.i 2] [])=some (.ret (Om [[],Ec 32] 0) []))(T:Tl cs ar1 wr1 Jh (R+1) (0) (0) (Ar .and mask 65535) false J (Ec 32) i V B1 B2 S1 S2 K d U S ar4 wr4 nx4 J1)(r:Option Rsp)(ih:Y E0 (.loop 5 0 0 3 [(0,.sl .u8 cs),(1,.i mask),(5,.pa 0 0),(7,.pa 1 0),(8,.i (R+1)),(9,.i (0)),(10,.nm 2),(11,.i ((i:Int)+1))] [(0,some (.var [.sl (.sl .u8) ar4,.i wr4,.i 0,.i 0,.b false,.sl (.sl .u8) (AX zen),.sl (.sl .u8) [[],[],[],[]],.sl .u8 (Aw zen BI [] 32),.i 2,.i (R+1),.i (0),.i 0,.b false,.sl (.sl (.sl .u8)) [],.i 0,.i 0,.sl AL [],.i 0,.i 5,.i 100,.i 0,.i 0,.i 1000,.sl BR J1,.b true,.b false,.sl (.sl (.sl .u8)) [[],(Ec 32)],.i (0),.i 0,.b false,.i 0,.sl sesT Cm,.sl objT noOb,.sl .i64 [],.sl .i64 [],.b true,.i nx4])),(1,some (.var [.sl (.sl (.sl .u8)) [[],(Ec 32)],.i (0)])),(2,some (.row 88 MP (BO Q [(K,[DI (i:Int)],R+1,0,0,false,0,(0,Ar .and mask 65535),d)])))])=r):
  Y E0 (.loop 5 0 0 3 [(0,.sl .u8 cs),(1,.i mask),(5,.pa 0 0),(7,.pa 1 0),(8,.i R),(9,.i P),(10,.nm 2),(11,.i (i:Int))] [(0,some (.var [.sl (.sl .u8) ar,.i wr,.i 0,.i 0,.b false,.sl (.sl .u8) (AX zen),.sl (.sl .u8) [[],[],[],[]],.sl .u8 (Aw zen BI [] 32),.i 2,.i R,.i P,.i 0,.b false,.sl (.sl (.sl .u8)) [],.i 0,.i 0,.sl AL [],.i 0,.i 5,.i 100,.i 0,.i 0,.i 1000,.sl BR J,.b true,.b false,.sl (.sl (.sl .u8)) [[],b],.i u,.i 0,.b F,.i 0,.sl sesT Cm,.sl objT noOb,.sl .i64 [],.sl .i64 [],.b true,.i nx])),(1,some (.var [.sl (.sl (.sl .u8)) [[],b],.i u])),(2,some (.row 88 MP Q))])=r:=by
 obtain⟨s1,m2,m3,m4,d1,v1,g1,hd,-,-,-,-⟩:=T
 have hin:=uZ cs mask (R+1) (0) (0) (Ar .and mask 65535) wr1 Jh wr4 nx4 i ar1 ar4 J J1 (Ec 32) false K [DI (i:Int)] d Q zaa hN
 rw[AO];conv=>lhs;whnf
 refine to ?_
 rw[hg]
 refine tq ?_
 rw[c1]
 refine tq ?_
 rw[n1]
 refine tq ?_
 rw[s1]
 refine tq ?_
 rw[MK ..]
 refine tq ?_
 rw[m2]
 refine tq ?_
 rw[gU ..]
 refine tq ?_
 rw[Wh ..]
 refine tq ?_
 rw[m3]
 refine tq ?_
 rw[m4]
 refine tq ?_
 rw[d1]
 conv=>lhs;whnf
 rw[DF];conv=>lhs;whnf
 rw[DY zaa]
 conv=>lhs;whnf
 rw[AO]
 conv=>lhs;whnf
 try dsimp -iota -beta -eta -zeta only
 rw[oL];conv=>lhs;whnf
 rw[YF];conv=>lhs;whnf
 try dsimp -iota -beta -eta -zeta only
 rw[Ak]
 rw[v1]
 refine tq ?_
 rw[g1]
 conv=>lhs;whnf
 rw[DY zaa]
 conv=>lhs;whnf
 rw[DY zaa]
 conv=>lhs;whnf
 rw[DY zaa]
 conv=>lhs;whnf
 rw[DY zaa]
 conv=>lhs;whnf
 rw[AO]
 conv=>lhs;whnf
 try dsimp -iota -beta -eta -zeta only
 rw[Ak]
 rw[OM _ _ Aq]
 refine tq ?_
 rw[hin]
 refine tq ?_
 exact ih
end
section
attribute [local irreducible] Bl CQ CS Bo Bg Ar CU Dw EN Dy EC Bf BU Bv Bz and' C9 CB BK Au BA BL BN Aa Ad AP AZ CV Dq CW DI CE BP BM BF BG BB AU BC Ae Ap Ai CX BH Bh Ba BO CG CY CJ fits CZ CO A8 AA Ac
attribute [local irreducible] Ef ES nameB EL EJ FM qU UD Fb U0
theorem AAq(hc:cs.length<=8)(ar ar1 ar4:List (List UInt8))(wr nx R P u wr1 Jh wr4 nx4:Int)(J J1:List (El BR))(b:List (List UInt8))(F:Bool)(i:Nat)(x:UInt8)(hi:i<cs.length)(hg:Ai cs (i:Int)=some x)(Q:List (El MP))(hQ:Q.length<8)(V B1 B2 S1 S2 K d U S:List UInt8)(ar2:List (List UInt8))(wr2 nx2:Int)(hh:Bg (Dq x) 4=3)(hu:0<=u/\u<=1000)(hR:0<=R/\R<=200)(hP:0<=P/\P<=200)(hN:∀ x∈Q,qNe (R) (P+1) (u) x)(c1:Y E0 (.call 9 [GR ar wr 0 0 false (AX zen) [[],[],[],[]] (Aw zen BI [] 32) 2 R P 0 false [] 0 0 [] 0 5 100 0 0 1000 J true false [[],b] u 0 F 0 Cm noOb [] [] true nx,.i 0,rq 2 [] [] [1] [],.i 0,.i 0] [])=some (.ret (.tup [GR ar2 wr2 0 0 false (AX zen) [[],[],[],[]] (Aw zen BI [] 32) 2 R P 0 F [[],b] u 0 [] 0 5 100 0 0 1000 J false true [] 0 0 false 0 Cm noOb [] [] true nx2,JC 0 [] [] [],.b true]) []))(c2:Y E0 (.call 26 [GR ar2 wr2 0 0 false (AX zen) [[],[],[],[]] (Aw zen BI [] 32) 2 R P 0 F [[],b] u 0 [] 0 5 100 0 0 1000 J false true [] 0 0 false 0 Cm noOb [] [] true nx2] [])=some (.ret (zg ar2 wr2 0 0 true false nx2) []))(c3:Y E0 (.call 25 [zg ar2 wr2 0 0 true false nx2] [])=some (.ret (.tup [GR ar2 0 0 0 false (AX zen) [[],[],[],[]] (Aw zen BI [] 32) 2 R P 0 F [[],b] u 0 [] 0 5 100 0 0 1000 J false false [] 0 0 false 0 Cm noOb [] [] true nx2,.i 0]) []))(c4:Y E0 (.call 9 [GR ar2 0 0 0 false (AX zen) [[],[],[],[]] (Aw zen BI [] 32) 2 R P 0 F [[],b] u 0 [] 0 5 100 0 0 1000 J false false [] 0 0 false 0 Cm noOb [] [] true nx2,.i 0,rq 1 [] [] [1] [],.i 0,.i 0] [])=some (.ret (.tup [GR ar1 wr1 0 0 false (AX zen) [[],[],[],[]] (Aw zen BI [] 32) 2 R (P+1) 0 false [] 0 0 [] 0 5 100 0 0 1000 J true false [[],LH b] u 0 F 0 Cm noOb [] [] true Jh,JC 0 [] [] [],.b true]) []))(n1:Y E0 (.call 28 [Om [[],b] u] [])=some (.ret (Om [[],LH b] u) []))(T:Tl cs ar1 wr1 Jh (R) (P+1) (u) (Ar .and mask 65535) F J (LH b) i V B1 B2 S1 S2 K d U S ar4 wr4 nx4 J1)(r:Option Rsp)(ih:Y E0 (.loop 5 0 0 3 [(0,.sl .u8 cs),(1,.i mask),(5,.pa 0 0),(7,.pa 1 0),(8,.i (R)),(9,.i (P+1)),(10,.nm 2),(11,.i ((i:Int)+1))] [(0,some (.var [.sl (.sl .u8) ar4,.i wr4,.i 0,.i 0,.b false,.sl (.sl .u8) (AX zen),.sl (.sl .u8) [[],[],[],[]],.sl .u8 (Aw zen BI [] 32),.i 2,.i (R),.i (P+1),.i 0,.b false,.sl (.sl (.sl .u8)) [],.i 0,.i 0,.sl AL [],.i 0,.i 5,.i 100,.i 0,.i 0,.i 1000,.sl BR J1,.b true,.b false,.sl (.sl (.sl .u8)) [[],(LH b)],.i (u),.i 0,.b F,.i 0,.sl sesT Cm,.sl objT noOb,.sl .i64 [],.sl .i64 [],.b true,.i nx4])),(1,some (.var [.sl (.sl (.sl .u8)) [[],(LH b)],.i (u)])),(2,some (.row 88 MP (BO Q [(K,[DI (i:Int)],R,P+1,0,F,u,(0,Ar .and mask 65535),d)])))])=r):
  Y E0 (.loop 5 0 0 3 [(0,.sl .u8 cs),(1,.i mask),(5,.pa 0 0),(7,.pa 1 0),(8,.i R),(9,.i P),(10,.nm 2),(11,.i (i:Int))] [(0,some (.var [.sl (.sl .u8) ar,.i wr,.i 0,.i 0,.b false,.sl (.sl .u8) (AX zen),.sl (.sl .u8) [[],[],[],[]],.sl .u8 (Aw zen BI [] 32),.i 2,.i R,.i P,.i 0,.b false,.sl (.sl (.sl .u8)) [],.i 0,.i 0,.sl AL [],.i 0,.i 5,.i 100,.i 0,.i 0,.i 1000,.sl BR J,.b true,.b false,.sl (.sl (.sl .u8)) [[],b],.i u,.i 0,.b F,.i 0,.sl sesT Cm,.sl objT noOb,.sl .i64 [],.sl .i64 [],.b true,.i nx])),(1,some (.var [.sl (.sl (.sl .u8)) [[],b],.i u])),(2,some (.row 88 MP Q))])=r:=by
 obtain⟨s1,m2,m3,m4,d1,v1,g1,hd,-,-,-,-⟩:=T
 have hin:=uZ cs mask (R) (P+1) (u) (Ar .and mask 65535) wr1 Jh wr4 nx4 i ar1 ar4 J J1 (LH b) F K [DI (i:Int)] d Q zaa hN
 rw[AO];conv=>lhs;whnf
 refine to ?_
 rw[hg]
 refine tq ?_
 rw[c1]
 refine tq ?_
 rw[c2]
 refine tq ?_
 rw[c3]
 refine tq ?_
 rw[oH]
 refine tq ?_
 rw[c4]
 conv=>lhs;whnf
 try dsimp -iota -beta -eta -zeta only
 rw[drw zaj];conv=>lhs;whnf
 try dsimp -iota -beta -eta -zeta only
 rw[Ak]
 rw[n1]
 refine tq ?_
 rw[s1]
 refine tq ?_
 rw[MK ..]
 refine tq ?_
 rw[m2]
 refine tq ?_
 rw[gU ..]
 refine tq ?_
 rw[Wh ..]
 refine tq ?_
 rw[m3]
 refine tq ?_
 rw[m4]
 refine tq ?_
 rw[d1]
 conv=>lhs;whnf
 rw[DF];conv=>lhs;whnf
 rw[DY zaa]
 conv=>lhs;whnf
 rw[AO]
 conv=>lhs;whnf
 try dsimp -iota -beta -eta -zeta only
 rw[oL];conv=>lhs;whnf
 rw[YF];conv=>lhs;whnf
 try dsimp -iota -beta -eta -zeta only
 rw[Ak]
 rw[v1]
 refine tq ?_
 rw[g1]
 conv=>lhs;whnf
 rw[DY zaa]
 conv=>lhs;whnf
 rw[DY zaa]
 conv=>lhs;whnf
 rw[DY zaa]
 conv=>lhs;whnf
 rw[DY zaa]
 conv=>lhs;whnf
 rw[AO]
 conv=>lhs;whnf
 try dsimp -iota -beta -eta -zeta only
 rw[Ak]
 rw[OM _ _ Aq]
 refine tq ?_
 rw[hin]
 refine tq ?_
 exact ih
end
section
attribute [local irreducible] Bl CQ CS Bo Bg Ar CU Dw EN Dy EC Bf BU Bv Bz and' C9 CB BK Au BA BL BN Aa Ad AP AZ CV Dq CW DI CE BP BM BF BG BB AU BC Ae Ap Ai CX BH Bh Ba BO CG CY CJ fits CZ CO A8 AA Ac
attribute [local irreducible] Ef ES nameB EL EJ FM qU UD Fb U0
theorem AAr{R P u r p v:Int}(h:r<R\/r=R/\(p<P\/p=P/\v<=u))(h1:R<R1\/R=R1/\(P<P1\/P=P1/\u<u1)):¬(R1=r/\P1=p/\u1=v):=zaa
theorem AAs{R P u r p v:Int}(h:r<R\/r=R/\(p<P\/p=P/\v<=u))(h1:R<R1\/R=R1/\(P<P1\/P=P1/\u<u1)):r<R1\/r=R1/\(p<P1\/p=P1/\v<=u1):=zaa
def qBe(R P u:Int)(x:El MP):Prop:=(x.2.2.1:Int)<R\/(x.2.2.1:Int)=R/\((x.2.2.2.1:Int)<P\/(x.2.2.2.1:Int)=P/\(x.2.2.2.2.2.2.1:Int)<=u)
theorem gV{R P u:Int}{x:El MP}(h:qBe R P u x)(h1:R<R1\/R=R1/\(P<P1\/P=P1/\u<u1)):qNe R1 P1 u1 x/\qBe R1 P1 u1 x:=by
 obtain⟨x1,x2,r,p,x5,x6,v,x8,x9⟩:=x
 have h:(r:Int)<R\/(r:Int)=R/\((p:Int)<P\/(p:Int)=P/\(v:Int)<=u):=h
 have e1:¬((R1:Int)=r/\(P1:Int)=p/\(u1:Int)=v):=AAr h h1
 have e2:(r:Int)<R1\/(r:Int)=R1/\((p:Int)<P1\/(p:Int)=P1/\(v:Int)<=u1):=AAs h h1
 exact⟨e1,e2⟩
theorem A4i:EF 32 (Ec 32):=by
 refine⟨Dv 32 16,fun x hx=>?_⟩
 unfold Ec Gs at hx
 obtain⟨j,_,rfl⟩:=List.mem_map.1 hx
 exact List.length_replicate
structure qInv (i:Nat) (ar:List (List UInt8)) (wr nx R P u:Int) (J:List (El BR)) (b:List (List UInt8)) (Q:List (El MP)):Prop where
 inv:qI ar wr nx (qS R P false [] 0 J)
 nn:nx<=3+3*(i:Int)
 rr:1<=R/\R<=1+(i:Int)
 pp:0<=P/\P<=(i:Int)
 uu:0<=u/\u<=(i:Int)
 jo:oN J
 jl:J.length=i
 jq:∀ y∈J,∃ j,j<i/\y.1=qU j
 bk:EF 32 b
 ql:Q.length=i
 qb:∀ y∈Q,qBe R P u y
theorem A4j{i:Nat}{R P u mk:Int}{F1:Bool}{K N d:List UInt8}{Q:List (El MP)}(hl:Q.length=i)(hq:∀ y∈Q,qBe R P u y)(h1:R<R1\/R=R1/\(P<P1\/P=P1/\u<u1)):(BO Q [(K,N,R1,P1,0,F1,u1,(0,mk),d)]).length=i+1/\∀ y∈BO Q [(K,N,R1,P1,0,F1,u1,(0,mk),d)],qBe R1 P1 u1 y:=by
 rw[Am]
 refine⟨by simp[hl],fun y hy=>?_⟩
 rcases List.mem_append.1 hy with hy|hy
 ·exact(gV (hq y hy) h1).2
 ·rw[List.mem_singleton] at hy;subst hy
  exact .inr ⟨rfl,.inr ⟨rfl,Int.le_refl _⟩⟩
theorem A4k{i:Nat}{J J1:List (El BR)}(hl:J.length=i)(hq:∀ y∈J,∃ j,j<i/\y.1=qU j)(he:J1=J++[(qU i,1)]):J1.length=i+1/\∀ y∈J1,∃ j,j<i+1/\y.1=qU j:=by
 subst he
 refine⟨by simp[hl],fun y hy=>?_⟩
 rcases List.mem_append.1 hy with hy|hy
 ·obtain⟨j,h1,h2⟩:=hq y hy;exact⟨j,by omega,h2⟩
 ·rw[List.mem_singleton] at hy;subst hy;exact⟨i,by omega,rfl⟩
theorem A72{b:List (List UInt8)}(h:EF 32 b):EF 32 (LH b):=by
 unfold LH
 refine YK (YK (YK (YK h ?_) ?_) ?_) ?_<;>exact List.length_replicate
theorem Wi(cs:List UInt8)(mask:Int)(hc:cs.length<=8):∀(k i:Nat),i+k=cs.length->∀(ar:List (List UInt8)) (wr nx R P u:Int) (J:List (El BR)) (b:List (List UInt8)) (F:Bool) (Q:List (El MP)),qInv i ar wr nx R P u J b Q ->
  Y E0 (.loop 5 0 0 3 [(0,.sl .u8 cs),(1,.i mask),(5,.pa 0 0),(7,.pa 1 0),(8,.i R),(9,.i P),(10,.nm 2),(11,.i (i:Int))] [(0,some (.var [.sl (.sl .u8) ar,.i wr,.i 0,.i 0,.b false,.sl (.sl .u8) (AX zen),.sl (.sl .u8) [[],[],[],[]],.sl .u8 (Aw zen BI [] 32),.i 2,.i R,.i P,.i 0,.b false,.sl (.sl (.sl .u8)) [],.i 0,.i 0,.sl AL [],.i 0,.i 5,.i 100,.i 0,.i 0,.i 1000,.sl BR J,.b true,.b false,.sl (.sl (.sl .u8)) [[],b],.i u,.i 0,.b F,.i 0,.sl sesT Cm,.sl objT noOb,.sl .i64 [],.sl .i64 [],.b true,.i nx])),(1,some (.var [.sl (.sl (.sl .u8)) [[],b],.i u])),(2,some (.row 88 MP Q))])=some (.fin (.exit 0) 0 [] [])
 | 0,i,hi=>by
  intro ar wr nx R P u J b F Q h
  obtain rfl:i=cs.length:=zaa
  rw[AO];conv=>lhs;whnf
  refine tq ?_
  with_reducible rfl
 | k+1,i,hi=>by
  intro ar wr nx R P u J b F Q h
  obtain⟨hI,hn,hR,hP,hu,hJ,hJl,hJq,hb,hQl,hQb⟩:=h
  obtain⟨x,hm,hg⟩:=Gp (l:=cs) (i:=(i:Int)) zaa
  have hmk:0<=Ar .and mask 65535/\Ar .and mask 65535<=65535:=by
   rw[show Ar .and mask 65535=mask%65536 from I5 16 zad mask];omega
  have hU:∀ y∈J,y.1≠qU i:=fun y hy e=>by
   obtain⟨j,h1,h2⟩:=hJq y hy
   have:=AAf j i zaa zaa (h2.symm.trans e)
   omega
  have hx:=x.toNat_lt
  have h4:Bg (Dq x) 4=(x.toNat:Int)%4:=by rw[Jn,MX zaa]
  rcases(by omega:((x.toNat:Int)%4=0\/(x.toNat:Int)%4=1)\/(x.toNat:Int)%4=2\/(x.toNat:Int)%4=3) with hh|hh|hh
  ·have hii:0<=Bg (Bo (Dq x) 4) 16/\Bg (Bo (Dq x) 4) 16<16:=by
    rw[Jn,QC zaa,MX zaa];omega
   obtain⟨y,hym,hyg⟩:=Gp (l:=b) (i:=Bg (Bo (Dq x) 4) 16) (by have:=hb.1;omega)
   have m1:=AAg ar wr nx R P u F J b (Bg (Bo (Dq x) 4) 16) [x] y zaa zaa hJ hb zaa hii zak hyg
   have e1:=A6z b u (Bg (Bo (Dq x) 4) 16) [x] y hb zaa hii zak hyg
   have hb1:EF 32 (BH b (Bg (Bo (Dq x) 4) 16) (sha256 (BO y (sha256 [x])))):=YK hb (A7 _)
   generalize BH b (Bg (Bo (Dq x) 4) 16) (sha256 (BO y (sha256 [x])))=b1 at m1 e1 hb1
   obtain⟨V,B1,B2,S1,S2,K,d,U,S,ar4,wr4,nx4,J1,T⟩:=uf cs ar wr nx R P (u+1) (Ar .and mask 65535) F J b1 i zaa zaa zaa hJ zaa hU hb1 hmk hI zaa
   obtain⟨a1,a2⟩:=A4j (K:=K) (N:=[DI (i:Int)]) (d:=d) (F1:=F) (mk:=Ar .and mask 65535) hQl hQb (show R<R\/R=R/\(P<P\/P=P/\u<u+1) from by omega)
   obtain⟨a3,a4⟩:=A4k hJl hJq T.je
   have ih:=Wi cs mask hc k (i+1) zaa ar4 wr4 nx4 R P (u+1) J1 b1 F _ ⟨T.inv,by have:=T.nx;omega,by omega,by omega,by omega,T.jo,a3,a4,hb1,a1,a2⟩
   rw[show((i+1:Nat):Int)=(i:Int)+1 from by omega] at ih
   exact AAo cs mask hc ar ar ar4 wr nx R P u wr nx wr4 nx4 J J1 b b1 F i x zaa hg Q zaa V B1 B2 S1 S2 K d U S (sha256 [x]) (by rw[h4];exact hh) zaa zaa zaa (fun y hy=>(gV (hQb y hy) zaa).1) m1 e1 T _ ih
  ·obtain⟨ar1,wr1,Jh,hI1,hn1,c1⟩:=AAh ar wr nx R P u F J b zaa zaa hJ hI zaa
   have n1:=YL 2 zad
   have hb1:EF 32 (Ec 32):=A4i
   obtain⟨V,B1,B2,S1,S2,K,d,U,S,ar4,wr4,nx4,J1,T⟩:=uf cs ar1 wr1 Jh (R+1) 0 0 (Ar .and mask 65535) false J (Ec 32) i zaa zad zad hJ zaa hU hb1 hmk hI1 zaa
   obtain⟨a1,a2⟩:=A4j (K:=K) (N:=[DI (i:Int)]) (d:=d) (F1:=false) (mk:=Ar .and mask 65535) hQl hQb (show R<R+1\/R=R+1/\(P<0\/P=0/\u<0) from by omega)
   obtain⟨a3,a4⟩:=A4k hJl hJq T.je
   have ih:=Wi cs mask hc k (i+1) zaa ar4 wr4 nx4 (R+1) 0 0 J1 (Ec 32) false _ ⟨T.inv,by have:=T.nx;omega,by omega,by omega,by omega,T.jo,a3,a4,hb1,a1,a2⟩
   rw[show((i+1:Nat):Int)=(i:Int)+1 from by omega] at ih
   exact AAp cs mask hc ar ar1 ar4 wr nx R P u wr1 Jh wr4 nx4 J J1 b F i x zaa hg Q zaa V B1 B2 S1 S2 K d U S (by rw[h4];exact hh) zaa zaa zaa (fun y hy=>(gV (hQb y hy) zaa).1) c1 n1 T _ ih
  ·obtain⟨ar2,wr2,nx2,hI2,hn2,c1⟩:=AAi ar wr nx R P u F J b zaa zaa hJ hb zaa hI zaa
   have c2:=A4D ar2 wr2 0 0 false true nx2 (AX zen) [[],[],[],[]] (Aw zen BI [] 32) 2 R P 0 F [[],b] u 0 [] 0 5 100 0 0 1000 J false true [] 0 0 false 0 Cm noOb [] []
   have c3:=AAj ar2 wr2 nx2 R P u F J b zaa zaa hJ hb zaa hI2
   obtain⟨ar1,wr1,Jh,hI1,hn1,c4⟩:=AAk ar2 nx2 R P u F J b zaa zaa hJ hb zaa hI2.1 zaa
   have n1:=A70 b u hb
   have hb1:=A72 hb
   obtain⟨V,B1,B2,S1,S2,K,d,U,S,ar4,wr4,nx4,J1,T⟩:=uf cs ar1 wr1 Jh R (P+1) u (Ar .and mask 65535) F J (LH b) i zaa zaa zaa hJ zaa hU hb1 hmk hI1 zaa
   obtain⟨a1,a2⟩:=A4j (K:=K) (N:=[DI (i:Int)]) (d:=d) (F1:=F) (mk:=Ar .and mask 65535) hQl hQb (show R<R\/R=R/\(P<P+1\/P=P+1/\u<u) from by omega)
   obtain⟨a3,a4⟩:=A4k hJl hJq T.je
   have ih:=Wi cs mask hc k (i+1) zaa ar4 wr4 nx4 R (P+1) u J1 (LH b) F _ ⟨T.inv,by have:=T.nx;omega,by omega,by omega,by omega,T.jo,a3,a4,hb1,a1,a2⟩
   rw[show((i+1:Nat):Int)=(i:Int)+1 from by omega] at ih
   exact AAq cs mask hc ar ar1 ar4 wr nx R P u wr1 Jh wr4 nx4 J J1 b F i x zaa hg Q zaa V B1 B2 S1 S2 K d U S ar2 wr2 nx2 (by rw[h4];exact hh) zaa zaa zaa (fun y hy=>(gV (hQb y hy) zaa).1) c1 c2 c3 c4 n1 T _ ih
theorem gW:Y E0 (.call 5 [.sl .u8 cs,.i mask] [])=some (.ret (.b true) []):=by
 by_cases hc:cs.length<=8
 ·obtain⟨ar,wr,nx,k1,k2,k3,k4,hf⟩:=nX
  have n1:=YL 2 zad
  have hl:=Wi cs mask hc cs.length 0 zaa ar wr nx 1 0 0 [] (Ec 32) true [] ⟨⟨k1,k2,k3⟩,by omega,by omega,by omega,by omega,⟨by simp,by simp⟩,rfl,by simp,A4i,rfl,by simp⟩
  rw[show((0:Nat):Int)=0 from rfl] at hl
  rw[show Dk 2=[[],Ec 32] from rfl] at hf n1
  refine tq ?_
  rw[aX]
  refine tq ?_
  rw[hf]
  refine tq ?_
  rw[n1]
  refine tq ?_
  rw[hl]
  exact tq rfl
 ·have h2:8<cs.length:=zaa
  refine tq ?_
  rw[aX]
  exact tq rfl
end
end Go.Proofs.YtanagnimhaemgaaGreatDoor
