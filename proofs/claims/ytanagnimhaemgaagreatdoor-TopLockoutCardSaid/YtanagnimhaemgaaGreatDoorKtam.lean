/-
  Own texts, laid together for this claim: contracts of functions of the program and its references, used by the statements of this seat.
-/
import Derived.Test.YtanagnimhaemgaaGreatDoorKtac
import Derived.Test.YtanagnimhaemgaaGreatDoorKtad
import Derived.Test.YtanagnimhaemgaaGreatDoorKtaf
import Derived.Test.YtanagnimhaemgaaGreatDoorKtah
import Derived.Test.YtanagnimhaemgaaGreatDoorKtai
import Derived.Test.YtanagnimhaemgaaGreatDoorKtaj
set_option linter.all false
set_option maxHeartbeats 40000000
set_option maxRecDepth 100000
namespace Go.Proofs.YtanagnimhaemgaaGreatDoor
open Go Go.Ax Go.Eng
variable {r:List UInt8}(sd:List (List UInt8))(x:List UInt8)(u:Int)(au:List (List UInt8))(en b:List UInt8)(ac re rs:Int)(p:Nat)(ck:Int)(od:Bool)(su mc:Int)
section
attribute [local irreducible] Bl CS CU CJ Bh Ak CV Du EN E5 EH Be BN CE Bz and' CG CO BC Ag Ar BF BG AY Aa AP AX CW Dv CX DT C9 BJ BD BA BB Au AQ Az Ac Aw Ah CY BL Bi BR BI CB CZ CP fits Cb CQ A8 AA AZ
theorem SQ(q:Nat)(size most x:Int)(hb:b.length<=1000000)(hp:p<=b.length)(g:IZ b p 0 size=(x,q,0))(hx:x<=most):Y E0 (.call 93 [.pa 0 0,.i size,.i most] [.var [.pa 1 0,.i 0],.var [.sl .u8 b,.i (p:Int),.i 0]])=some (.ret (.i x) [some (.var [.pa 1 0,.i 0]),some (.var [.sl .u8 b,.i (q:Int),.i 0])]):=by
 have h:=Fa b p 0 size zaa hp
 rw[g] at h
 refine tq ?_
 rw[h]
 refine tq ?_
 rw[ML ..]
 exact tq rfl
theorem Jf(q:Nat)(size x:Int)(hb:b.length<=1000000)(hp:p<=b.length)(g:IZ b p 0 size=(x,q,0))(hx:x<=9223372036854775807):Y E0 (.call 92 [.pa 0 0,.i size] [.var [.pa 1 0,.i 0],.var [.sl .u8 b,.i (p:Int),.i 0]])=some (.ret (.i x) [some (.var [.pa 1 0,.i 0]),some (.var [.sl .u8 b,.i (q:Int),.i 0])]):=by
 have h:=SQ b p q size 9223372036854775807 x hb hp g hx
 refine tq ?_
 rw[h]
 exact tq rfl
theorem A0O(q:Nat)(x:Int)(hb:b.length<=1000000)(hp:p<=b.length)(g:IZ b p 0 1=(x,q,0))(hx:x<=1):Y E0 (.call 96 [.pa 0 0] [.var [.pa 1 0,.i 0],.var [.sl .u8 b,.i (p:Int),.i 0]])=some (.ret (.b (Du x 1)) [some (.var [.pa 1 0,.i 0]),some (.var [.sl .u8 b,.i (q:Int),.i 0])]):=by
 have h:=SQ b p q 1 1 x hb hp g hx
 refine tq ?_
 rw[h]
 exact tq rfl
theorem Wq(x:List UInt8)(p q:Nat)(hb:b.length<=1000000)(hp:p<=b.length)(g:MH b p 0 4096=(x,q,0)):Y E0 (.call 95 [.pa 0 0] [.var [.pa 1 0,.i 0],.var [.sl .u8 b,.i (p:Int),.i 0]])=some (.ret (.sl .u8 x) [some (.var [.pa 1 0,.i 0]),some (.var [.sl .u8 b,.i (q:Int),.i 0])]):=by
 have h:=SE b p 0 4096 zaa hp
 rw[g] at h
 refine tq ?_
 rw[h]
 refine tq ?_
 rw[ML ..]
 exact tq rfl
theorem A0P:Y E0 (.call 170 [.i 0] [])=some (.ret (.agg [.sl (.sl (.sl .u8)) [],.i 0]) []):=by
 have e:Ak .and 0 3=0:=by rw[Ba];decide
 refine tq ?_
 with_reducible rfl
theorem lW:Y E0 (.loop 138 0 0 3 [(2,.pa 0 0),(4,.pa 1 0),(6,.pa 2 0),(29,.i 0),(30,.i 0)] [(0,some (.var [.nil,.i 0])),(1,some (.var [.sl .u8 x,.i ((9:Nat):Int),.i 0])),(2,some (.var [.sl (.sl (.sl .u8)) [],.i u]))])=some (.fin (.exit 0) 3 [(2,.pa 0 0),(4,.pa 1 0),(6,.pa 2 0)] [(0,some (.var [.nil,.i 0])),(1,some (.var [.sl .u8 x,.i ((9:Nat):Int),.i 0])),(2,some (.var [.sl (.sl (.sl .u8)) [],.i u]))]):=by
 rw[AU];conv=>lhs;whnf
 exact tq rfl
theorem A0Q(hx:x=0::n8 u)(hu:0<=u/\u<=1000000):Y E0 (.call 138 [.sl .u8 x] [])=some (.ret (.tup [.agg [.sl (.sl (.sl .u8)) [],.i u],.i 0]) []):=by
 have hl:x.length=9:=by rw[hx,List.length_cons,Bo]
 have e0:x.drop 0=Rh 1 (UInt64.ofInt 0)++(n8 u++[]):=by rw[hx];simp;rfl
 obtain⟨a0,a1,a2⟩:=Kr (n:=1) (x:=0) zaa zaa e0 zaa zaa zac
 obtain⟨b0,b1,b2⟩:=Kr (n:=8) (x:=u) a1 zaa a2 zaa zaa zaa
 have e1:=WM b1 b2
 have h0:=Fa x 0 0 1 zaa zaa
 have h1:=Fa x 1 0 8 zaa zaa
 have h2:=Zd x 9 0 zaa zaa
 rw[show IZ x 0 0 1=(0,1,0) from a0] at h0;rw[show IZ x 1 0 8=(u,9,0) from b0] at h1;rw[show aG x 9 0=0 from e1] at h2
 have e3:Aw ([]:List (List (List UInt8)))=0:=zaQ
 refine tq ?_
 rw[U6 _ Am]
 refine tq ?_
 rw[show Y E0 (.call 135 [.pa 0 0,.i 1] [.var [.sl .u8 x,.i 0,.i 0]])=_ from h0]
 refine tq ?_
 rw[ML ..]
 refine tq ?_
 rw[A0P]
 refine tq ?_
 rw[h1]
 refine tq ?_
 rw[e3,lW]
 refine tq ?_
 rw[h2]
 exact tq rfl
theorem JQ{b:List UInt8}{p q:Nat}{n x:Int}(hp:p<=b.length)(g:IZ b p 0 n=(x,q,0)):q<=b.length:=by
 have:=A4Z (b:=b) (at':=p) (e:=0) (size:=n) hp;rw[g] at this;exact this
theorem OI{b x:List UInt8}{p q:Nat}{n:Int}(hp:p<=b.length)(g:MH b p 0 n=(x,q,0)):q<=b.length:=by
 have:=A4a (b:=b) (at':=p) (e:=0) (most:=n) hp;rw[g] at this;exact this
def uU(b:List UInt8):Nat->List (List UInt8)->Nat->Prop
 | p,[],q=>q=p
 | p,x::xs,q=>∃ p',MH b p 0 4096=(x,p',0)/\uU b p' xs q
theorem uV(u:Int)(p q:Nat)(hb:b.length<=1000000)(hp:p<=b.length)(hu:0<=u/\u<=1000000)(g:MH b p 0 4096=(0::n8 u,q,0)):Y E0 (.call 97 [.pa 0 0] [.var [.pa 1 0,.i 0],.var [.sl .u8 b,.i (p:Int),.i 0]])=some (.ret (.agg [.sl (.sl (.sl .u8)) [],.i u]) [some (.var [.pa 1 0,.i 0]),some (.var [.sl .u8 b,.i (q:Int),.i 0])]):=by
 have h:=Wq b (0::n8 u) p q hb hp g
 have h2:=A0Q (0::n8 u) u rfl hu
 refine tq ?_
 rw[h]
 refine tq ?_
 rw[h2]
 exact tq rfl
theorem Ui(b:List UInt8)(m:Nat)(hb:b.length<=1000000)(hm:m<=10):∀(k j:Nat) (l xs:List (List UInt8)) (p q:Nat),j+k=m->xs.length=k->p<=b.length->l.length+k<=20->uU b p xs q ->
  Y E0 (.loop 94 0 3 4 [(1,.pa 0 0),(3,.nm 3),(4,.i (m:Int)),(5,.i (j:Int))] [(0,some (.var [.pa 1 0])),(1,some (.var [.pa 2 0,.i 0])),(2,some (.var [.sl .u8 b,.i (p:Int),.i 0])),(3,some (.row 22 (.sl .u8) l))])
   = some (.fin (.exit 0) 3 [(3,.sl (.sl .u8) (l++xs))] [(0,some (.var [.pa 1 0])),(1,some (.var [.pa 2 0,.i 0])),(2,some (.var [.sl .u8 b,.i (q:Int),.i 0]))])
 | 0,j,l,[],p,q,hj,hx,hp,hl,h=>by
  obtain rfl:j=m:=zaa
  obtain rfl:q=p:=h
  rw[List.append_nil]
  rw[AU];conv=>lhs;whnf
  refine tq ?_
  with_reducible rfl
 | k+1,j,l,x::xs,p,q,hj,hx,hp,hl,h=>by
  obtain⟨q1,h1,h2⟩:=h
  have g:=Wq b x p q1 hb hp h1
  have ih:=Ui b m hb hm k (j+1) (l++[x]) xs q1 q zaa zaS (OI hp h1) zar h2
  rw[show((j+1:Nat):Int)=(j:Int)+1 from by omega,List.append_assoc,List.singleton_append] at ih
  rw[<-Ap l [x]] at ih
  rw[AU];conv=>lhs;whnf
  refine tq ?_
  rw[g]
  refine tq ?_
  exact ih
theorem YS(m:Nat)(xs:List (List UInt8))(p q:Nat)(hb:b.length<=1000000)(hm:xs.length=m)(hm':m<=10)(hp:p<=b.length)(h:uU b p xs q):
  Y E0 (.call 94 [.i (m:Int),.pa 0 0] [.var [.pa 1 0],.var [.pa 2 0,.i 0],.var [.sl .u8 b,.i (p:Int),.i 0]])=some (.ret (.sl (.sl .u8) xs) [some (.var [.pa 1 0]),some (.var [.pa 2 0,.i 0]),some (.var [.sl .u8 b,.i (q:Int),.i 0])]):=by
 have hl:=Ui b m hb hm' m 0 [] xs p q zaa hm hp zar h
 rw[show((0:Nat):Int)=0 from rfl,List.nil_append] at hl
 refine tq ?_
 (conv in Y E0 _=>arg 2;change Rq.loop 94 0 3 4 [(1,AV.pa 0 0),(3,AV.nm 3),(4,AV.i (m:Int)),(5,AV.i 0)] [(0,some (Rs.var [AV.pa 1 0])),(1,some (Rs.var [AV.pa 2 0,AV.i 0])),(2,some (Rs.var [AV.sl Ty.u8 b,AV.i (p:Int),AV.i 0])),(3,some (Rs.row 22 Ty.u8.sl []))]);rw[hl]
 refine tq ?_
 rfl
def A33(b:List UInt8):Nat->List Int->Nat->Prop
 | p,[],q=>q=p
 | p,x::xs,q=>x<=9223372036854775807/\∃ p',IZ b p 0 8=(x,p',0)/\A33 b p' xs q
theorem lX{b:List UInt8}:∀ {l:List (List UInt8)} {p q:Nat},p<=b.length->uU b p l q->q<=b.length
 | [],p,q,hp,h=>by obtain rfl:q=p:=h;exact hp
 | x::l,p,q,hp,⟨p',h1,h2⟩=>lX (OI hp h1) h2
theorem A0R{b:List UInt8}:∀ {l:List Int} {p q:Nat},p<=b.length->A33 b p l q->q<=b.length
 | [],p,q,hp,h=>by obtain rfl:q=p:=h;exact hp
 | x::l,p,q,hp,⟨_,p',h1,h2⟩=>A0R (JQ hp h1) h2
theorem lY(b:List UInt8)(p:Nat):Y E0 (.loop 51 0 0 5 [(2,.pa 0 0),(4,.pa 1 0),(6,.pa 2 0),(62,.i 0),(63,.i 0)] [(0,some (.var [.nil,.nil,.nil,.i 0,.i 0,.i 0,.i 0,.b false,.nil,.i 0,.i 0,.nil,.i 0,.i 0,.i 0,.i 0,.i 0,.i 0,.nil])),(1,some (.var [.pa 3 0])),(2,some (.var [.sl (.sl .u8) sd,.sl (.sl .u8) au,.sl .u8 en,.i ac,.i re,.i rs,.i ck,.b od,.sl (.sl (.sl .u8)) [],.i su,.i mc,.nil,.i 0,.i 0,.i 0,.i 0,.i 0,.i 0,.nil])),(3,some (.var [.pa 4 0,.i 0])),(4,some (.var [.sl .u8 b,.i (p:Int),.i 0]))])=some (.fin (.exit 0) 5 [(2,.pa 0 0),(4,.pa 1 0),(6,.pa 2 0)] [(0,some (.var [.nil,.nil,.nil,.i 0,.i 0,.i 0,.i 0,.b false,.nil,.i 0,.i 0,.nil,.i 0,.i 0,.i 0,.i 0,.i 0,.i 0,.nil])),(1,some (.var [.pa 3 0])),(2,some (.var [.sl (.sl .u8) sd,.sl (.sl .u8) au,.sl .u8 en,.i ac,.i re,.i rs,.i ck,.b od,.sl (.sl (.sl .u8)) [],.i su,.i mc,.nil,.i 0,.i 0,.i 0,.i 0,.i 0,.i 0,.nil])),(3,some (.var [.pa 4 0,.i 0])),(4,some (.var [.sl .u8 b,.i (p:Int),.i 0]))]):=by
 rw[AU];conv=>lhs;whnf
 exact tq rfl
theorem Ws(b:List UInt8)(l1 l2 l3 l4 l5 l6:Int)(p q:Nat)(hb:b.length<=1000000)(hp:p<=b.length)(g:A33 b p [l1,l2,l3,l4,l5,l6] q):Y E0 (.loop 51 1 0 6 [(2,.pa 0 0),(4,.pa 1 0),(6,.pa 2 0),(92,.nm 3),(93,.i ((6:Nat):Int)),(94,.i 0)] [(0,some (.var [.nil,.nil,.nil,.i 0,.i 0,.i 0,.i 0,.b false,.nil,.i 0,.i 0,.nil,.i 0,.i 0,.i 0,.i 0,.i 0,.i 0,.nil])),(1,some (.var [.pa 4 0])),(2,some (.var [.sl (.sl .u8) sd,.sl (.sl .u8) au,.sl .u8 en,.i ac,.i re,.i rs,.i ck,.b od,.sl (.sl (.sl .u8)) [],.i su,.i mc,.nil,.i 0,.i 0,.i 0,.i 0,.i 0,.i 0,.nil])),(3,some (.rowA 184 1 6 [.pa 2 12,.pa 2 13,.pa 2 14,.pa 2 15,.pa 2 16,.pa 2 17])),(4,some (.var [.pa 5 0,.i 0])),(5,some (.var [.sl .u8 b,.i (p:Int),.i 0]))])=some (.fin (.exit 2) 5 [(2,.pa 0 0),(4,.pa 1 0),(6,.pa 2 0)] [(0,some (.var [.nil,.nil,.nil,.i 0,.i 0,.i 0,.i 0,.b false,.nil,.i 0,.i 0,.nil,.i 0,.i 0,.i 0,.i 0,.i 0,.i 0,.nil])),(1,some (.var [.pa 3 0])),(2,some (.var [.sl (.sl .u8) sd,.sl (.sl .u8) au,.sl .u8 en,.i ac,.i re,.i rs,.i ck,.b od,.sl (.sl (.sl .u8)) [],.i su,.i mc,.nil,.i l1,.i l2,.i l3,.i l4,.i l5,.i l6,.nil])),(3,some (.var [.pa 4 0,.i 0])),(4,some (.var [.sl .u8 b,.i (q:Int),.i 0]))]):=by
 obtain⟨b1,p1,g1,b2,p2,g2,b3,p3,g3,b4,p4,g4,b5,p5,g5,b6,p6,g6,hq⟩:=g
 obtain rfl:q=p6:=hq
 have k1:=JQ hp g1
 have k2:=JQ k1 g2
 have k3:=JQ k2 g3
 have k4:=JQ k3 g4
 have k5:=JQ k4 g5
 have h1:=Jf b p p1 8 l1 hb hp g1 b1
 have h2:=Jf b p1 p2 8 l2 hb k1 g2 b2
 have h3:=Jf b p2 p3 8 l3 hb k2 g3 b3
 have h4:=Jf b p3 p4 8 l4 hb k3 g4 b4
 have h5:=Jf b p4 p5 8 l5 hb k4 g5 b5
 have h6:=Jf b p5 q 8 l6 hb k5 g6 b6
 rw[AU];conv=>lhs;whnf
 refine tq ?_
 rw[h1]
 refine tq ?_
 refine tq ?_
 rw[h2]
 refine tq ?_
 refine tq ?_
 rw[h3]
 refine tq ?_
 refine tq ?_
 rw[h4]
 refine tq ?_
 refine tq ?_
 rw[h5]
 refine tq ?_
 refine tq ?_
 rw[h6]
 refine tq ?_
 exact tq rfl
theorem lZ(b:List UInt8)(l1 l2 l3 l4 l5 l6:Int)(p:Nat):Y E0 (.loop 51 2 0 5 [(2,.pa 0 0),(4,.pa 1 0),(6,.pa 2 0),(104,.i 0),(105,.i 0)] [(0,some (.var [.nil,.nil,.nil,.i 0,.i 0,.i 0,.i 0,.b false,.nil,.i 0,.i 0,.nil,.i 0,.i 0,.i 0,.i 0,.i 0,.i 0,.nil])),(1,some (.var [.pa 3 0])),(2,some (.var [.sl (.sl .u8) sd,.sl (.sl .u8) au,.sl .u8 en,.i ac,.i re,.i rs,.i ck,.b od,.sl (.sl (.sl .u8)) [],.i su,.i mc,.nil,.i l1,.i l2,.i l3,.i l4,.i l5,.i l6,.nil])),(3,some (.var [.pa 4 0,.i 0])),(4,some (.var [.sl .u8 b,.i (p:Int),.i 0]))])=some (.fin (.exit 4) 5 [(2,.pa 0 0),(4,.pa 1 0),(6,.pa 2 0)] [(0,some (.var [.nil,.nil,.nil,.i 0,.i 0,.i 0,.i 0,.b false,.nil,.i 0,.i 0,.nil,.i 0,.i 0,.i 0,.i 0,.i 0,.i 0,.nil])),(1,some (.var [.pa 3 0])),(2,some (.var [.sl (.sl .u8) sd,.sl (.sl .u8) au,.sl .u8 en,.i ac,.i re,.i rs,.i ck,.b od,.sl (.sl (.sl .u8)) [],.i su,.i mc,.nil,.i l1,.i l2,.i l3,.i l4,.i l5,.i l6,.nil])),(3,some (.var [.pa 4 0,.i 0])),(4,some (.var [.sl .u8 b,.i (p:Int),.i 0]))]):=by
 rw[AU];conv=>lhs;whnf
 exact tq rfl
theorem A34(sd au:List (List UInt8))(en:List UInt8)(ac re rs ck:Int)(od:Bool)(su mc:Int)(l1 l2 l3 l4 l5 l6 w:Int)(pA pB pC pD pE pF pG pH pI pJ pL pM:Nat)(hb:b.length<=1000000)(hbl:2<=b.length)(hac:ac<=3)(hsd:sd.length=3)(hau:au.length=4)(hre:re<=1000000)(hrs:rs<=1000000)(hck:ck<=2000000000000)(hw:w<=1)(hod:Du w 1=od)(hsu:0<=su/\su<=1000000)(hmc:mc<=2000000000000)(g0:IZ b 0 0 1=(1,1,0))(g1:IZ b 1 0 1=(ac,2,0))(gA:uU b 2 sd pA)(gB:uU b pA au pB)(gC:MH b pB 0 4096=(en,pC,0))(gD:IZ b pC 0 8=(re,pD,0))(gE:IZ b pD 0 8=(rs,pE,0))(gF:IZ b pE 0 8=(ck,pF,0))(gG:IZ b pF 0 1=(w,pG,0))(gH:MH b pG 0 4096=(0::n8 su,pH,0))(gI:IZ b pH 0 8=(mc,pI,0))(gJ:IZ b pI 0 1=(0,pJ,0))(gL:A33 b pJ [l1,l2,l3,l4,l5,l6] pL)(gM:IZ b pL 0 1=(0,pM,0))(gZ:aG b pM 0=0)(hN:pM<=b.length):
  Y E0 (.call 51 [.sl .u8 b] [])=some (.ret (.tup [.agg (qK sd au en ac re rs ck od [] su mc [] l1 l2 l3 l4 l5 l6 []),.i 0]) []):=by
 have k2:2<=b.length:=hbl
 have kA:=lX k2 gA
 have kB:=lX kA gB
 have kC:=OI kB gC
 have kD:=JQ kC gD
 have h0:=Jf b 0 1 1 1 hb zaa g0 zaa
 have h1:=SQ b 1 2 1 3 ac hb zaa g1 hac
 have hA:=YS b 3 sd 2 pA hb hsd zaa k2 gA
 have hB:=YS b 4 au pA pB hb hau zaa kA gB
 have hC:=Wq b en pB pC hb kB gC
 have hD:=Jf b pC pD 8 re hb kC gD zaa
 have kE:=JQ kD gE
 have hE:=Jf b pD pE 8 rs hb kD gE zaa
 have kF:=JQ kE gF
 have hF:=Jf b pE pF 8 ck hb kE gF zaa
 have kG:=JQ kF gG
 have hG:=A0O b pF pG w hb kF gG hw
 rw[hod] at hG
 have kH:=OI kG gH
 have hH:=uV b su pG pH hb kG hsu gH
 have kI:=JQ kH gI
 have hI:=Jf b pH pI 8 mc hb kH gI zaa
 have kJ:=JQ kI gJ
 have hJ:=SQ b pI pJ 1 6 0 hb kI gJ zaa
 have hL:=Ws sd au en ac re rs ck od su mc b l1 l2 l3 l4 l5 l6 pJ pL hb kJ gL
 have kL:pL<=b.length:=A0R kJ gL
 have hM:=SQ b pL pM 1 8 0 hb kL gM zaa
 have hZ:=Zd b pM 0 zaa hN
 rw[gZ] at hZ
 refine tq ?_
 rw[U6 _ Am]
 refine tq ?_
 rw[show Y E0 (.call 92 [.pa 0 0,.i 1] [.var [.pa 1 0,.i 0],.var [.sl .u8 b,.i 0,.i 0]])=_ from h0]
 refine tq ?_
 rw[h1]
 refine tq ?_
 rw[show Y E0 (.call 94 [.i 3,.pa 0 0] _)=_ from hA]
 refine tq ?_
 rw[show Y E0 (.call 94 [.i 4,.pa 0 0] _)=_ from hB]
 refine tq ?_
 rw[hC]
 refine tq ?_
 rw[hD]
 refine tq ?_
 rw[hE]
 refine tq ?_
 rw[hF]
 refine tq ?_
 rw[hG]
 refine tq ?_
 rw[hH]
 refine tq ?_
 rw[hI]
 refine tq ?_
 rw[hJ]
 refine tq ?_
 rw[lY ..]
 refine tq ?_
 rw[Ws (hb:=Am) (hp:=Am) (g:=Am) ..]
 refine tq ?_
 rw[hM]
 refine tq ?_
 rw[lZ ..]
 refine tq ?_
 rw[hZ]
 conv=>lhs;whnf
 try dsimp -iota -beta -eta -zeta only
 rw[drw zai];conv=>lhs;whnf
 rw[AU]
 conv=>lhs;whnf
 rw[AU]
 conv=>lhs;whnf
 rw[Jh zaa]
 conv=>lhs;whnf
theorem Zo{b x:List UInt8}{p:Nat}(hp:p<=b.length)(h:b.drop p=bl x++r)(hx:x.length<=4096):∃ q,MH b p 0 4096=(x,q,0)/\q<=b.length/\b.drop q=r:=by
 obtain⟨h1,h2,h3⟩:=oJ (most:=4096) hp h zaa zaa
 exact⟨_,h1,h2,h3⟩
theorem V3{b:List UInt8}{p:Nat}{x:Int}(hp:p<=b.length)(h:b.drop p=n8 x++r)(h0:0<=x/\x<9223372036854775808):∃ q,IZ b p 0 8=(x,q,0)/\q<=b.length/\b.drop q=r:=by
 obtain⟨h1,h2,h3⟩:=Kr (n:=8) (x:=x) hp zaa h zaa zaa zaa
 exact⟨_,h1,h2,h3⟩
theorem Wu{b:List UInt8}{p:Nat}{x:Int}(hp:p<=b.length)(h:b.drop p=UInt8.ofInt x::r)(h0:0<=x/\x<256):IZ b p 0 1=(x,p+1,0)/\p+1<=b.length/\b.drop (p+1)=r :=
 Kr (n:=1) (x:=x) hp zaa (by rw[h,VG];rfl) zaa zaa zaa
theorem fD(l1 l2 l3 l4 l5 l6:Int)(hac:0<=ac/\ac<=3)(hsd:sd.length=3)(hau:au.length=4)(hsm:∀ x∈sd,x.length<=1000)(ham:∀ x∈au,x.length<=1000)(hen:en.length<=1000)(hre:0<=re/\re<=1000000)(hrs:0<=rs/\rs<=1000000)(hck:0<=ck/\ck<=2000000000000)(hsu:0<=su/\su<=1000000)(hmc:0<=mc/\mc<=2000000000000)(hl:Zl l1 l2 l3 l4 l5 l6):
  Y E0 (.call 51 [.sl .u8 (encS sd au en ac re rs ck od [] su mc [] l1 l2 l3 l4 l5 l6 [])] [])=some (.ret (.tup [.agg (qK sd au en ac re rs ck od [] su mc [] l1 l2 l3 l4 l5 l6 []),.i 0]) []):=by
 obtain⟨s0,s1,s2,rfl⟩:∃ s0 s1 s2,sd=[s0,s1,s2]:=by
  match sd,hsd with
  | [a,b,c],_=>exact⟨a,b,c,rfl⟩
 obtain⟨a0,a1,a2,a3,rfl⟩:∃ a0 a1 a2 a3,au=[a0,a1,a2,a3]:=by
  match au,hau with
  | [a,b,c,d],_=>exact⟨a,b,c,d,rfl⟩
 have m0:=hsm s0 zan
 have m1:=hsm s1 zan
 have m2:=hsm s2 zan
 have n0:=ham a0 zan
 have n1:=ham a1 zan
 have n2:=ham a2 zan
 have n3:=ham a3 zan
 obtain⟨z1,z2,z3,z4,z5,z6,z7,z8,z9,z10,z11,z12⟩:=hl
 generalize hb:encS [s0,s1,s2] [a0,a1,a2,a3] en ac re rs ck od [] su mc [] l1 l2 l3 l4 l5 l6 []=b
 have e0:b.drop 0=UInt8.ofInt 1::UInt8.ofInt ac::(bl s0++(bl s1++(bl s2++(bl a0++(bl a1++(bl a2++(bl a3++(bl en++(n8 re++(n8 rs++(n8 ck++(UInt8.ofInt (if od then 1 else 0)::(bl (0::n8 su)++(n8 mc++(UInt8.ofInt 0::(n8 l1++(n8 l2++(n8 l3++(n8 l4++(n8 l5++(n8 l6++(UInt8.ofInt 0::[])))))))))))))))))))))):=by
  rw[List.drop_zero,<-hb]
  delta encS
  rw[pz,show We od=UInt8.ofInt (if od then 1 else 0) from by cases od<;>rfl]
  simp only[List.append_assoc,List.cons_append,List.nil_append,List.append_nil,List.flatMap_nil,List.getD_cons_zero,List.getD_cons_succ,List.length_nil]
  rfl
 have hlen:b.length<=20000:=by
  have:=congrArg List.length e0
  simp only[List.drop_zero,List.length_cons,List.length_append,Cc,Bo,List.length_nil] at this
  omega
 obtain⟨g0,q0,d0⟩:=Wu (Nat.zero_le _) e0 zaa
 obtain⟨g1,q1,d1⟩:=Wu q0 d0 zaa
 obtain⟨pa,ga,qa,da⟩:=Zo q1 d1 zaa
 obtain⟨pb,gb,qb,db⟩:=Zo qa da zaa
 obtain⟨pA,gc,qA,dA⟩:=Zo qb db zaa
 obtain⟨pd,gd,qd,dd⟩:=Zo qA dA zaa
 obtain⟨pe,ge,qe,de⟩:=Zo qd dd zaa
 obtain⟨pf,gf,qf,df⟩:=Zo qe de zaa
 obtain⟨pB,gg,qB,dB⟩:=Zo qf df zaa
 obtain⟨pC,gC,qC,dC⟩:=Zo qB dB zaa
 obtain⟨pD,gD,qD,dD⟩:=V3 qC dC zaa
 obtain⟨pE,gE,qE,dE⟩:=V3 qD dD zaa
 obtain⟨pF,gF,qF,dF⟩:=V3 qE dE zaa
 obtain⟨gG,qG,dG⟩:=Wu qF dF (by cases od<;>simp)
 obtain⟨pH,gH,qH,dH⟩:=Zo qG dG (by rw[List.length_cons,Bo];omega)
 obtain⟨pI,gI,qI,dI⟩:=V3 qH dH zaa
 obtain⟨gJ,qJ,dJ⟩:=Wu qI dI zaa
 obtain⟨p1,k1,r1,t1⟩:=V3 qJ dJ zaa
 obtain⟨p2,k2,r2,t2⟩:=V3 r1 t1 zaa
 obtain⟨p3,k3,r3,t3⟩:=V3 r2 t2 zaa
 obtain⟨p4,k4,r4,t4⟩:=V3 r3 t3 zaa
 obtain⟨p5,k5,r5,t5⟩:=V3 r4 t4 zaa
 obtain⟨pL,k6,r6,t6⟩:=V3 r5 t5 zaa
 obtain⟨gM,qM,dM⟩:=Wu r6 t6 zaa
 refine A34 b [s0,s1,s2] [a0,a1,a2,a3] en ac re rs ck od su mc l1 l2 l3 l4 l5 l6 (if od then 1 else 0) pA pB pC pD pE pF (pF+1) pH pI (pI+1) pL (pL+1) zaa zaa hac.2 rfl rfl hre.2 hrs.2 hck.2 (by cases od<;>simp) ?_ hsu hmc.2 g0 g1 ⟨pa,ga,pb,gb,pA,gc,rfl⟩ ⟨pd,gd,pe,ge,pf,gf,pB,gg,rfl⟩ gC gD gE gF gG gH gI gJ ⟨by omega,p1,k1,by omega,p2,k2,by omega,p3,k3,by omega,p4,k4,by omega,p5,k5,by omega,pL,k6,rfl⟩ gM (WM qM dM) qM
 cases od
 ·exact JK zac
 ·exact Ep rfl
end
end Go.Proofs.YtanagnimhaemgaaGreatDoor
