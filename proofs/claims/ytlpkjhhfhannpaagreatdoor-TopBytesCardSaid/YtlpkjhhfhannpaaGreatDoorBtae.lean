/- Own texts of this claim: contracts of functions. -/
import Derived.Test.YtlpkjhhfhannpaaGreatDoorBtac
set_option linter.all false
set_option maxHeartbeats 40000000
set_option maxRecDepth 100000
namespace Go.Proofs.YtlpkjhhfhannpaaGreatDoor
open Go Go.Ax Go.Eng
attribute [local irreducible] CS Cj CP CW CQ BC Cm ED ES Dx EG CJ Bi Ce CX and' Cf CU BL Au BI BP BR Ag Ai AY Ae D5 EJ D6 DX Cb BZ BQ BM BO BJ AZ BK Aj Ak Ap D7 BB CV BU BF CO D8 Cc fits D9 Ci AC AQ Ah
section
variable {r:List UInt8}(sd au:List (List UInt8))(en:List UInt8)(ac re rs ck:Int)(od:Bool)(su mc:Int)(b x:List UInt8)(u l1 l2 l3 l4 l5 l6:Int)(p q:Nat)
theorem UT(size most x:Int)(hb:b.length<=1000000)(hp:p<=b.length)(g:Dt b p 0 size=(x,q,0))(hx:x<=most):Y E0 (.call 159 [.pa 0 0,.i size,.i most] [.var [.pa 1 0,.i 0],.var [.sl .u8 b,.i (p:Int),.i 0]])=some (.ret (.i x) [some (.var [.pa 1 0,.i 0]),some (.var [.sl .u8 b,.i (q:Int),.i 0])]):=by
 have h:=Ed b p 0 size zaa hp
 rw[g] at h
 refine tq ?_
 rw[h]
 refine tq ?_
 rw[Jq ..]
 exact tq rfl
theorem Ju(size x:Int)(hb:b.length<=1000000)(hp:p<=b.length)(g:Dt b p 0 size=(x,q,0))(hx:x<=9223372036854775807):Y E0 (.call 158 [.pa 0 0,.i size] [.var [.pa 1 0,.i 0],.var [.sl .u8 b,.i (p:Int),.i 0]])=some (.ret (.i x) [some (.var [.pa 1 0,.i 0]),some (.var [.sl .u8 b,.i (q:Int),.i 0])]):=by
 have h:=UT b p q size 9223372036854775807 x hb hp g hx
 refine tq ?_
 rw[h]
 exact tq rfl
theorem A4F(x:Int)(hb:b.length<=1000000)(hp:p<=b.length)(g:Dt b p 0 1=(x,q,0))(hx:x<=1):Y E0 (.call 162 [.pa 0 0] [.var [.pa 1 0,.i 0],.var [.sl .u8 b,.i (p:Int),.i 0]])=some (.ret (.b (ED x 1)) [some (.var [.pa 1 0,.i 0]),some (.var [.sl .u8 b,.i (q:Int),.i 0])]):=by
 have h:=UT b p q 1 1 x hb hp g hx
 refine tq ?_
 rw[h]
 exact tq rfl
theorem Yt(hb:b.length<=1000000)(hp:p<=b.length)(g:Fg b p 0 4096=(x,q,0)):Y E0 (.call 161 [.pa 0 0] [.var [.pa 1 0,.i 0],.var [.sl .u8 b,.i (p:Int),.i 0]])=some (.ret (.sl .u8 x) [some (.var [.pa 1 0,.i 0]),some (.var [.sl .u8 b,.i (q:Int),.i 0])]):=by
 have h:=Jr b p 0 4096 zaa hp
 rw[g] at h
 refine tq ?_
 rw[h]
 refine tq ?_
 rw[Jq ..]
 exact tq rfl
theorem A4G:Y E0 (.call 221 [.i 0] [])=some (.ret (.agg [.nil,.i 0]) []):=by
 have e:BC .and 0 3=0:=by rw[Aq];decide
 refine tq ?_
 with_reducible rfl
theorem uk:Y E0 (.loop 215 0 0 3 [(2,.pa 0 0),(4,.pa 1 0),(6,.pa 2 0),(29,.i 0),(30,.i 0)] [(0,some (.var [.nil,.i 0])),(1,some (.var [.sl .u8 x,.i ((9:Nat):Int),.i 0])),(2,some (.var [.nil,.i u]))])=some (.fin (.exit 0) 3 [(2,.pa 0 0),(4,.pa 1 0),(6,.pa 2 0)] [(0,some (.var [.nil,.i 0])),(1,some (.var [.sl .u8 x,.i ((9:Nat):Int),.i 0])),(2,some (.var [.nil,.i u]))]):=by
 rw[AL];conv=>lhs;whnf
 exact tq rfl
theorem A4H(hx:x=0::n8 u)(hu:0<=u/\u<=1000000):Y E0 (.call 215 [.sl .u8 x] [])=some (.ret (.tup [.agg [.sl (.sl (.sl .u8)) [],.i u],.i 0]) []):=by
 have hl:x.length=9:=by rw[hx,List.length_cons,BX]
 have e0:x.drop 0=Sm 1 (UInt64.ofInt 0)++(n8 u++[]):=by rw[hx];simp;rfl
 obtain⟨a0,a1,a2⟩:=Oe (n:=1) (x:=0) zaa zaa e0 zaa zaa zaj
 obtain⟨b0,b1,b2⟩:=Oe (n:=8) (x:=u) a1 zaa a2 zaa zaa zaa
 have e1:=YN b1 b2
 have h0:=Ed x 0 0 1 zaa zaa
 have h1:=Ed x 1 0 8 zaa zaa
 have h2:=UI x 9 0 zaa zaa
 rw[show Dt x 0 0 1=(0,1,0) from a0] at h0;rw[show Dt x 1 0 8=(u,9,0) from b0] at h1;rw[show PI x 9 0=0 from e1] at h2
 have e3:Ak ([]:List (List (List UInt8)))=0:=zaV
 refine tq ?_
 rw[LW _ AA]
 refine tq ?_
 rw[show Y E0 (.call 130 [.pa 0 0,.i 1] [.var [.sl .u8 x,.i 0,.i 0]])=_ from h0]
 refine tq ?_
 rw[Jq ..]
 refine tq ?_
 rw[A4G]
 refine tq ?_
 rw[h1]
 refine tq ?_
 rw[uk]
 refine tq ?_
 rw[h2]
 exact tq rfl
theorem Jg{b:List UInt8}{p q:Nat}{n x:Int}(hp:p<=b.length)(g:Dt b p 0 n=(x,q,0)):q<=b.length:=by
 have:=FQ (b:=b) (at':=p) (e:=0) (size:=n) hp;rw[g] at this;exact this
theorem Oy{b x:List UInt8}{p q:Nat}{n:Int}(hp:p<=b.length)(g:Fg b p 0 n=(x,q,0)):q<=b.length:=by
 have:=JB (b:=b) (at':=p) (e:=0) (most:=n) hp;rw[g] at this;exact this
def A0i(b:List UInt8):Nat->List (List UInt8)->Nat->Prop
 | p,[],q=>q=p
 | p,x::xs,q=>∃ p',Fg b p 0 4096=(x,p',0)/\A0i b p' xs q
theorem A0j(hb:b.length<=1000000)(hp:p<=b.length)(hu:0<=u/\u<=1000000)(g:Fg b p 0 4096=(0::n8 u,q,0)):Y E0 (.call 163 [.pa 0 0] [.var [.pa 1 0,.i 0],.var [.sl .u8 b,.i (p:Int),.i 0]])=some (.ret (.agg [.sl (.sl (.sl .u8)) [],.i u]) [some (.var [.pa 1 0,.i 0]),some (.var [.sl .u8 b,.i (q:Int),.i 0])]):=by
 have h:=Yt b (0::n8 u) p q hb hp g
 have h2:=A4H (0::n8 u) u rfl hu
 refine tq ?_
 rw[h]
 refine tq ?_
 rw[h2]
 exact tq rfl
theorem WL(b:List UInt8)(m:Nat)(hb:b.length<=1000000)(hm:m<=10):∀(k j:Nat) (l xs:List (List UInt8)) (p q:Nat),j+k=m->xs.length=k->p<=b.length->l.length+k<=20->A0i b p xs q ->
  Y E0 (.loop 160 0 3 4 [(1,.pa 0 0),(3,.nm 3),(4,.i (m:Int)),(5,.i (j:Int))] [(0,some (.var [.pa 1 0])),(1,some (.var [.pa 2 0,.i 0])),(2,some (.var [.sl .u8 b,.i (p:Int),.i 0])),(3,some (.row 22 (.sl .u8) l))])
   = some (.fin (.exit 0) 3 [(3,.sl (.sl .u8) (l++xs))] [(0,some (.var [.pa 1 0])),(1,some (.var [.pa 2 0,.i 0])),(2,some (.var [.sl .u8 b,.i (q:Int),.i 0]))])
 | 0,j,l,[],p,q,hj,hx,hp,hl,h=>by
  obtain rfl:j=m:=zaa
  obtain rfl:q=p:=h
  rw[List.append_nil]
  rw[AL];conv=>lhs;whnf
  refine tq ?_
  with_reducible rfl
 | k+1,j,l,x::xs,p,q,hj,hx,hp,hl,h=>by
  obtain⟨q1,h1,h2⟩:=h
  have g:=Yt b x p q1 hb hp h1
  have ih:=WL b m hb hm k (j+1) (l++[x]) xs q1 q zaa zbm (Oy hp h1) zaD h2
  rw[show((j+1:Nat):Int)=(j:Int)+1 from by omega,List.append_assoc,List.singleton_append] at ih
  rw[<-Ac l [x]] at ih
  rw[AL];conv=>lhs;whnf
  refine tq ?_
  rw[g]
  refine tq ?_
  exact ih
theorem bI(m:Nat)(xs:List (List UInt8))(p q:Nat)(hb:b.length<=1000000)(hm:xs.length=m)(hm':m<=10)(hp:p<=b.length)(h:A0i b p xs q):
  Y E0 (.call 160 [.i (m:Int),.pa 0 0] [.var [.pa 1 0],.var [.pa 2 0,.i 0],.var [.sl .u8 b,.i (p:Int),.i 0]])=some (.ret (.sl (.sl .u8) xs) [some (.var [.pa 1 0]),some (.var [.pa 2 0,.i 0]),some (.var [.sl .u8 b,.i (q:Int),.i 0])]):=by
 have hl:=WL b m hb hm' m 0 [] xs p q zaa hm hp zaD h
 rw[show((0:Nat):Int)=0 from rfl,List.nil_append] at hl
 refine tq ?_
 (conv in Y E0 _=>arg 2;change Rq.loop 160 0 3 4 [(1,AV.pa 0 0),(3,AV.nm 3),(4,AV.i (m:Int)),(5,AV.i 0)] [(0,some (Rs.var [AV.pa 1 0])),(1,some (Rs.var [AV.pa 2 0,AV.i 0])),(2,some (Rs.var [AV.sl Ty.u8 b,AV.i (p:Int),AV.i 0])),(3,some (Rs.row 22 Ty.u8.sl []))]);rw[hl]
 refine tq ?_
 rfl
def A7V(b:List UInt8):Nat->List Int->Nat->Prop
 | p,[],q=>q=p
 | p,x::xs,q=>x<=9223372036854775807/\∃ p',Dt b p 0 8=(x,p',0)/\A7V b p' xs q
theorem ul{b:List UInt8}:∀ {l:List (List UInt8)} {p q:Nat},p<=b.length->A0i b p l q->q<=b.length
 | [],p,q,hp,h=>by obtain rfl:q=p:=h;exact hp
 | x::l,p,q,hp,⟨p',h1,h2⟩=>ul (Oy hp h1) h2
theorem A4I{b:List UInt8}:∀ {l:List Int} {p q:Nat},p<=b.length->A7V b p l q->q<=b.length
 | [],p,q,hp,h=>by obtain rfl:q=p:=h;exact hp
 | x::l,p,q,hp,⟨_,p',h1,h2⟩=>A4I (Jg hp h1) h2
theorem um:Y E0 (.loop 110 0 0 5 [(2,.pa 0 0),(4,.pa 1 0),(6,.pa 2 0),(62,.i 0),(63,.i 0)] [(0,some (.var [.nil,.nil,.nil,.i 0,.i 0,.i 0,.i 0,.b false,.nil,.i 0,.i 0,.nil,.i 0,.i 0,.i 0,.i 0,.i 0,.i 0,.nil])),(1,some (.var [.pa 3 0])),(2,some (.var [.sl (.sl .u8) sd,.sl (.sl .u8) au,.sl .u8 en,.i ac,.i re,.i rs,.i ck,.b od,.sl (.sl (.sl .u8)) [],.i su,.i mc,.nil,.i 0,.i 0,.i 0,.i 0,.i 0,.i 0,.nil])),(3,some (.var [.pa 4 0,.i 0])),(4,some (.var [.sl .u8 b,.i (p:Int),.i 0]))])=some (.fin (.exit 0) 5 [(2,.pa 0 0),(4,.pa 1 0),(6,.pa 2 0)] [(0,some (.var [.nil,.nil,.nil,.i 0,.i 0,.i 0,.i 0,.b false,.nil,.i 0,.i 0,.nil,.i 0,.i 0,.i 0,.i 0,.i 0,.i 0,.nil])),(1,some (.var [.pa 3 0])),(2,some (.var [.sl (.sl .u8) sd,.sl (.sl .u8) au,.sl .u8 en,.i ac,.i re,.i rs,.i ck,.b od,.sl (.sl (.sl .u8)) [],.i su,.i mc,.nil,.i 0,.i 0,.i 0,.i 0,.i 0,.i 0,.nil])),(3,some (.var [.pa 4 0,.i 0])),(4,some (.var [.sl .u8 b,.i (p:Int),.i 0]))]):=by
 rw[AL];conv=>lhs;whnf
 exact tq rfl
theorem Yu(hb:b.length<=1000000)(hp:p<=b.length)(g:A7V b p [l1,l2,l3,l4,l5,l6] q):Y E0 (.loop 110 1 0 6 [(2,.pa 0 0),(4,.pa 1 0),(6,.pa 2 0),(92,.nm 3),(93,.i ((6:Nat):Int)),(94,.i 0)] [(0,some (.var [.nil,.nil,.nil,.i 0,.i 0,.i 0,.i 0,.b false,.nil,.i 0,.i 0,.nil,.i 0,.i 0,.i 0,.i 0,.i 0,.i 0,.nil])),(1,some (.var [.pa 4 0])),(2,some (.var [.sl (.sl .u8) sd,.sl (.sl .u8) au,.sl .u8 en,.i ac,.i re,.i rs,.i ck,.b od,.sl (.sl (.sl .u8)) [],.i su,.i mc,.nil,.i 0,.i 0,.i 0,.i 0,.i 0,.i 0,.nil])),(3,some (.rowA 225 1 6 [.pa 2 12,.pa 2 13,.pa 2 14,.pa 2 15,.pa 2 16,.pa 2 17])),(4,some (.var [.pa 5 0,.i 0])),(5,some (.var [.sl .u8 b,.i (p:Int),.i 0]))])=some (.fin (.exit 2) 5 [(2,.pa 0 0),(4,.pa 1 0),(6,.pa 2 0)] [(0,some (.var [.nil,.nil,.nil,.i 0,.i 0,.i 0,.i 0,.b false,.nil,.i 0,.i 0,.nil,.i 0,.i 0,.i 0,.i 0,.i 0,.i 0,.nil])),(1,some (.var [.pa 3 0])),(2,some (.var [.sl (.sl .u8) sd,.sl (.sl .u8) au,.sl .u8 en,.i ac,.i re,.i rs,.i ck,.b od,.sl (.sl (.sl .u8)) [],.i su,.i mc,.nil,.i l1,.i l2,.i l3,.i l4,.i l5,.i l6,.nil])),(3,some (.var [.pa 4 0,.i 0])),(4,some (.var [.sl .u8 b,.i (q:Int),.i 0]))]):=by
 obtain⟨b1,p1,g1,b2,p2,g2,b3,p3,g3,b4,p4,g4,b5,p5,g5,b6,p6,g6,hq⟩:=g
 obtain rfl:q=p6:=hq
 have k1:=Jg hp g1
 have k2:=Jg k1 g2
 have k3:=Jg k2 g3
 have k4:=Jg k3 g4
 have k5:=Jg k4 g5
 have h1:=Ju b p p1 8 l1 hb hp g1 b1
 have h2:=Ju b p1 p2 8 l2 hb k1 g2 b2
 have h3:=Ju b p2 p3 8 l3 hb k2 g3 b3
 have h4:=Ju b p3 p4 8 l4 hb k3 g4 b4
 have h5:=Ju b p4 p5 8 l5 hb k4 g5 b5
 have h6:=Ju b p5 q 8 l6 hb k5 g6 b6
 rw[AL];conv=>lhs;whnf
 refine tq ?_
 rw[h1]
 refine tq ?_
 refine tq ?_
 rw[h2]
 refine tq ?_
 refine tq ?_
 rw[h3]
 refine tq ?_
 refine tq ?_
 rw[h4]
 refine tq ?_
 refine tq ?_
 rw[h5]
 refine tq ?_
 refine tq ?_
 rw[h6]
 refine tq ?_
 exact tq rfl
theorem uo:Y E0 (.loop 110 2 0 5 [(2,.pa 0 0),(4,.pa 1 0),(6,.pa 2 0),(104,.i 0),(105,.i 0)] [(0,some (.var [.nil,.nil,.nil,.i 0,.i 0,.i 0,.i 0,.b false,.nil,.i 0,.i 0,.nil,.i 0,.i 0,.i 0,.i 0,.i 0,.i 0,.nil])),(1,some (.var [.pa 3 0])),(2,some (.var [.sl (.sl .u8) sd,.sl (.sl .u8) au,.sl .u8 en,.i ac,.i re,.i rs,.i ck,.b od,.sl (.sl (.sl .u8)) [],.i su,.i mc,.nil,.i l1,.i l2,.i l3,.i l4,.i l5,.i l6,.nil])),(3,some (.var [.pa 4 0,.i 0])),(4,some (.var [.sl .u8 b,.i (p:Int),.i 0]))])=some (.fin (.exit 4) 5 [(2,.pa 0 0),(4,.pa 1 0),(6,.pa 2 0)] [(0,some (.var [.nil,.nil,.nil,.i 0,.i 0,.i 0,.i 0,.b false,.nil,.i 0,.i 0,.nil,.i 0,.i 0,.i 0,.i 0,.i 0,.i 0,.nil])),(1,some (.var [.pa 3 0])),(2,some (.var [.sl (.sl .u8) sd,.sl (.sl .u8) au,.sl .u8 en,.i ac,.i re,.i rs,.i ck,.b od,.sl (.sl (.sl .u8)) [],.i su,.i mc,.nil,.i l1,.i l2,.i l3,.i l4,.i l5,.i l6,.nil])),(3,some (.var [.pa 4 0,.i 0])),(4,some (.var [.sl .u8 b,.i (p:Int),.i 0]))]):=by
 rw[AL];conv=>lhs;whnf
 exact tq rfl
theorem A7W(sd au:List (List UInt8))(en:List UInt8)(ac re rs ck:Int)(od:Bool)(su mc:Int)(l1 l2 l3 l4 l5 l6 w:Int)(pA pB pC pD pE pF pG pH pI pJ pL pM:Nat)(hb:b.length<=1000000)(hbl:2<=b.length)(hac:ac<=3)(hsd:sd.length=3)(hau:au.length=4)(hre:re<=1000000)(hrs:rs<=1000000)(hck:ck<=2000000000000)(hw:w<=1)(hod:ED w 1=od)(hsu:0<=su/\su<=1000000)(hmc:mc<=2000000000000)(g0:Dt b 0 0 1=(1,1,0))(g1:Dt b 1 0 1=(ac,2,0))(gA:A0i b 2 sd pA)(gB:A0i b pA au pB)(gC:Fg b pB 0 4096=(en,pC,0))(gD:Dt b pC 0 8=(re,pD,0))(gE:Dt b pD 0 8=(rs,pE,0))(gF:Dt b pE 0 8=(ck,pF,0))(gG:Dt b pF 0 1=(w,pG,0))(gH:Fg b pG 0 4096=(0::n8 su,pH,0))(gI:Dt b pH 0 8=(mc,pI,0))(gJ:Dt b pI 0 1=(0,pJ,0))(gL:A7V b pJ [l1,l2,l3,l4,l5,l6] pL)(gM:Dt b pL 0 1=(0,pM,0))(gZ:PI b pM 0=0)(hN:pM<=b.length):
  Y E0 (.call 110 [.sl .u8 b] [])=some (.ret (.tup [.agg (VW sd au en ac re rs ck od [] su mc [] l1 l2 l3 l4 l5 l6 []),.i 0]) []):=by
 have k2:2<=b.length:=hbl
 have kA:=ul k2 gA
 have kB:=ul kA gB
 have kC:=Oy kB gC
 have kD:=Jg kC gD
 have h0:=Ju b 0 1 1 1 hb zaa g0 zaa
 have h1:=UT b 1 2 1 3 ac hb zaa g1 hac
 have hA:=bI b 3 sd 2 pA hb hsd zaa k2 gA
 have hB:=bI b 4 au pA pB hb hau zaa kA gB
 have hC:=Yt b en pB pC hb kB gC
 have hD:=Ju b pC pD 8 re hb kC gD zaa
 have kE:=Jg kD gE
 have hE:=Ju b pD pE 8 rs hb kD gE zaa
 have kF:=Jg kE gF
 have hF:=Ju b pE pF 8 ck hb kE gF zaa
 have kG:=Jg kF gG
 have hG:=A4F b pF pG w hb kF gG hw
 rw[hod] at hG
 have kH:=Oy kG gH
 have hH:=A0j b su pG pH hb kG hsu gH
 have kI:=Jg kH gI
 have hI:=Ju b pH pI 8 mc hb kH gI zaa
 have kJ:=Jg kI gJ
 have hJ:=UT b pI pJ 1 6 0 hb kI gJ zaa
 have hL:=Yu sd au en ac re rs ck od su mc b l1 l2 l3 l4 l5 l6 pJ pL hb kJ gL
 have kL:pL<=b.length:=A4I kJ gL
 have hM:=UT b pL pM 1 8 0 hb kL gM zaa
 have hZ:=UI b pM 0 zaa hN
 rw[gZ] at hZ
 refine tq ?_
 rw[LW _ AA]
 refine tq ?_
 rw[show Y E0 (.call 158 [.pa 0 0,.i 1] [.var [.pa 1 0,.i 0],.var [.sl .u8 b,.i 0,.i 0]])=_ from h0]
 refine tq ?_
 rw[h1]
 refine tq ?_
 rw[show Y E0 (.call 160 [.i 3,.pa 0 0] _)=_ from hA]
 refine tq ?_
 rw[show Y E0 (.call 160 [.i 4,.pa 0 0] _)=_ from hB]
 refine tq ?_
 rw[hC]
 refine tq ?_
 rw[hD]
 refine tq ?_
 rw[hE]
 refine tq ?_
 rw[hF]
 refine tq ?_
 rw[hG]
 refine tq ?_
 rw[hH]
 refine tq ?_
 rw[hI]
 refine tq ?_
 rw[hJ]
 refine tq ?_
 rw[um ..]
 refine tq ?_
 rw[Yu (hb:=AA) (hp:=AA) (g:=AA) ..]
 refine tq ?_
 rw[hM]
 refine tq ?_
 rw[uo ..]
 refine tq ?_
 rw[hZ]
 conv=>lhs;whnf
 try dsimp -iota -beta -eta -zeta only
 rw[drw zaw];conv=>lhs;whnf
 rw[AL]
 conv=>lhs;whnf
 rw[AL]
 conv=>lhs;whnf
 rw[FH zaa]
 conv=>lhs;whnf
theorem iU{b x:List UInt8}{p:Nat}(hp:p<=b.length)(h:b.drop p=bl x++r)(hx:x.length<=4096):∃ q,Fg b p 0 4096=(x,q,0)/\q<=b.length/\b.drop q=r:=by
 obtain⟨h1,h2,h3⟩:=yA (most:=4096) hp h zaa zaa
 exact⟨_,h1,h2,h3⟩
theorem Wu{b:List UInt8}{p:Nat}{x:Int}(hp:p<=b.length)(h:b.drop p=n8 x++r)(h0:0<=x/\x<9223372036854775808):∃ q,Dt b p 0 8=(x,q,0)/\q<=b.length/\b.drop q=r:=by
 obtain⟨h1,h2,h3⟩:=Oe (n:=8) (x:=x) hp zaa h zaa zaa zaa
 exact⟨_,h1,h2,h3⟩
theorem Yv{b:List UInt8}{p:Nat}{x:Int}(hp:p<=b.length)(h:b.drop p=UInt8.ofInt x::r)(h0:0<=x/\x<256):Dt b p 0 1=(x,p+1,0)/\p+1<=b.length/\b.drop (p+1)=r :=
 Oe (n:=1) (x:=x) hp zaa (by rw[h,XG];rfl) zaa zaa zaa
theorem A4J(hac:0<=ac/\ac<=3)(hsd:sd.length=3)(hau:au.length=4)(hsm:∀ x∈sd,x.length<=1000)(ham:∀ x∈au,x.length<=1000)(hen:en.length<=1000)(hre:0<=re/\re<=1000000)(hrs:0<=rs/\rs<=1000000)(hck:0<=ck/\ck<=2000000000000)(hsu:0<=su/\su<=1000000)(hmc:0<=mc/\mc<=2000000000000)(hl:VV l1 l2 l3 l4 l5 l6):
  Y E0 (.call 110 [.sl .u8 (encS sd au en ac re rs ck od [] su mc [] l1 l2 l3 l4 l5 l6 [])] [])=some (.ret (.tup [.agg (VW sd au en ac re rs ck od [] su mc [] l1 l2 l3 l4 l5 l6 []),.i 0]) []):=by
 obtain⟨s0,s1,s2,rfl⟩:∃ s0 s1 s2,sd=[s0,s1,s2]:=by
  match sd,hsd with
  | [a,b,c],_=>exact⟨a,b,c,rfl⟩
 obtain⟨a0,a1,a2,a3,rfl⟩:∃ a0 a1 a2 a3,au=[a0,a1,a2,a3]:=by
  match au,hau with
  | [a,b,c,d],_=>exact⟨a,b,c,d,rfl⟩
 have m0:=hsm s0 zat
 have m1:=hsm s1 zat
 have m2:=hsm s2 zat
 have n0:=ham a0 zat
 have n1:=ham a1 zat
 have n2:=ham a2 zat
 have n3:=ham a3 zat
 obtain⟨z1,z2,z3,z4,z5,z6,z7,z8,z9,z10,z11,z12⟩:=hl
 generalize hb:encS [s0,s1,s2] [a0,a1,a2,a3] en ac re rs ck od [] su mc [] l1 l2 l3 l4 l5 l6 []=b
 have e0:b.drop 0=UInt8.ofInt 1::UInt8.ofInt ac::(bl s0++(bl s1++(bl s2++(bl a0++(bl a1++(bl a2++(bl a3++(bl en++(n8 re++(n8 rs++(n8 ck++(UInt8.ofInt (if od then 1 else 0)::(bl (0::n8 su)++(n8 mc++(UInt8.ofInt 0::(n8 l1++(n8 l2++(n8 l3++(n8 l4++(n8 l5++(n8 l6++(UInt8.ofInt 0::[])))))))))))))))))))))):=by
  rw[List.drop_zero,<-hb]
  delta encS
  rw[yT,show A48 od=UInt8.ofInt (if od then 1 else 0) from by cases od<;>rfl]
  simp only[List.append_assoc,List.cons_append,List.nil_append,List.append_nil,List.flatMap_nil,List.getD_cons_zero,List.getD_cons_succ,List.length_nil]
  rfl
 have hlen:b.length<=20000:=by
  have:=congrArg List.length e0
  simp only[List.drop_zero,List.length_cons,List.length_append,Ba,BX,List.length_nil] at this
  omega
 obtain⟨g0,q0,d0⟩:=Yv (Nat.zero_le _) e0 zaa
 obtain⟨g1,q1,d1⟩:=Yv q0 d0 zaa
 obtain⟨pa,ga,qa,da⟩:=iU q1 d1 zaa
 obtain⟨pb,gb,qb,db⟩:=iU qa da zaa
 obtain⟨pA,gc,qA,dA⟩:=iU qb db zaa
 obtain⟨pd,gd,qd,dd⟩:=iU qA dA zaa
 obtain⟨pe,ge,qe,de⟩:=iU qd dd zaa
 obtain⟨pf,gf,qf,df⟩:=iU qe de zaa
 obtain⟨pB,gg,qB,dB⟩:=iU qf df zaa
 obtain⟨pC,gC,qC,dC⟩:=iU qB dB zaa
 obtain⟨pD,gD,qD,dD⟩:=Wu qC dC zaa
 obtain⟨pE,gE,qE,dE⟩:=Wu qD dD zaa
 obtain⟨pF,gF,qF,dF⟩:=Wu qE dE zaa
 obtain⟨gG,qG,dG⟩:=Yv qF dF (by cases od<;>simp)
 obtain⟨pH,gH,qH,dH⟩:=iU qG dG (by rw[List.length_cons,BX];omega)
 obtain⟨pI,gI,qI,dI⟩:=Wu qH dH zaa
 obtain⟨gJ,qJ,dJ⟩:=Yv qI dI zaa
 obtain⟨p1,k1,r1,t1⟩:=Wu qJ dJ zaa
 obtain⟨p2,k2,r2,t2⟩:=Wu r1 t1 zaa
 obtain⟨p3,k3,r3,t3⟩:=Wu r2 t2 zaa
 obtain⟨p4,k4,r4,t4⟩:=Wu r3 t3 zaa
 obtain⟨p5,k5,r5,t5⟩:=Wu r4 t4 zaa
 obtain⟨pL,k6,r6,t6⟩:=Wu r5 t5 zaa
 obtain⟨gM,qM,dM⟩:=Yv r6 t6 zaa
 refine A7W b [s0,s1,s2] [a0,a1,a2,a3] en ac re rs ck od su mc l1 l2 l3 l4 l5 l6 (if od then 1 else 0) pA pB pC pD pE pF (pF+1) pH pI (pI+1) pL (pL+1) zaa zaa hac.2 rfl rfl hre.2 hrs.2 hck.2 (by cases od<;>simp) ?_ hsu hmc.2 g0 g1 ⟨pa,ga,pb,gb,pA,gc,rfl⟩ ⟨pd,gd,pe,ge,pf,gf,pB,gg,rfl⟩ gC gD gE gF gG gH gI gJ ⟨by omega,p1,k1,by omega,p2,k2,by omega,p3,k3,by omega,p4,k4,by omega,p5,k5,by omega,pL,k6,rfl⟩ gM (YN qM dM) qM
 cases od
 ·exact Aa zaj
 ·exact Dz rfl
end
section
variable (h n:Int)(ls:List (List UInt8))
theorem A0n(i:Int)(l r:List UInt8)(hl:l.length<=1000000)(hr:r.length<=1000000):Y E0 (.call 343 [.i h,.i i,.sl .u8 l,.sl .u8 r] [])=some (.ret (.sl .u8 (O6 h i l r)) []):=by
 refine tq ?_;rw[Fe _ _ (by rw[Yd];simp;omega) zat]
 refine tq ?_;simp only[Dq];rfl
theorem A7Y(i:Int)(l r:List UInt8)(hl:l.length<=1000000)(hr:r.length<=1000000):Y E0 (.call 216 [.i h,.i i,.sl .u8 l,.sl .u8 r] [])=some (.ret (.sl .u8 (O6 h i l r)) []):=by
 refine tq ?_;rw[FK _ _ (by rw[Yd];simp;omega) zat]
 refine tq ?_;simp only[Dq];rfl
theorem Q7:Y E0 (.loop 368 0 0 0 [(0,.i n),(3,.i 0)] [])=(if F8 n<0 then some (.fin (.exit 0) 0 [] []) else some (.fin .ret 0 [(2,.i (F8 n))] [])):=by
 unfold F8
 refine tq ?_;rw[show CJ 1 (BZ 0).toNat=1 from mF zaj];refine tq ?_
 rcases Ar n 1 with hc0|hc0
 ·subst hc0;refine tq ?_
  simp[*]
 refine tq ?_;refine tq ?_;rw[show CJ 1 (BZ (0+1)).toNat=2 from mF zaj];refine tq ?_
 rcases Ar n 2 with hc1|hc1
 ·subst hc1;refine tq ?_
  simp[*]
 refine tq ?_;refine tq ?_;rw[show CJ 1 (BZ (0+1+1)).toNat=4 from mF zaj];refine tq ?_
 rcases Ar n 4 with hc2|hc2
 ·subst hc2;refine tq ?_
  simp[*]
 refine tq ?_;refine tq ?_;rw[show CJ 1 (BZ (0+1+1+1)).toNat=8 from mF zaj];refine tq ?_
 rcases Ar n 8 with hc3|hc3
 ·subst hc3;refine tq ?_
  simp[*]
 refine tq ?_;refine tq ?_
 simp[*]
theorem bM:Y E0 (.call 368 [.i n] [])=some (.ret (.i (F8 n)) []):=by
 by_cases h:F8 n<0
 ·have h1:F8 n = -1:=by(unfold F8 at *;(repeat' split at h)<;>first|omega|simp[*])
  refine tq ?_;rw[Q7,if_pos h];refine tq ?_;rw[h1]
 ·refine tq ?_;rw[Q7,if_neg h];exact tq rfl
theorem XH:Y E0 (.call 168 [.i n] [])=some (.ret (.b (decide (n=1\/n=2\/n=4\/n=8))) []):=by
 refine tq ?_
 rcases Ar n 1 with hc0|hc0
 ·subst hc0;refine tq ?_
  rfl
 refine tq ?_
 rcases Ar n 2 with hc1|hc1
 ·subst hc1;refine tq ?_
  rfl
 refine tq ?_
 rcases Ar n 4 with hc2|hc2
 ·subst hc2;refine tq ?_
  rfl
 refine tq ?_
 exact zas
theorem Yw(h:Int)(ls:List (List UInt8))(hm:∀ l∈ls,l.length<=1000000)(hn:ls.length<=1000):∀(k i:Nat) (acc:List (List UInt8)),2*i<=ls.length->ls.length<=2*i+2*k+1->acc.length<=i ->
  Y E0 (.loop 169 0 0 1 [(0,.i h),(1,.sl (.sl .u8) ls),(5,.nm 0),(6,.i i)] [(0,some (.row 22 (.sl .u8) acc))])=some (.fin (.exit 0) 0 [(5,.sl (.sl .u8) (acc++Wq h i (ls.drop (2*i))))] [])
 | k,i,acc,h0,hi,ha=>by
  by_cases hc:2*i+1<ls.length
  ·obtain⟨k,rfl⟩:∃ j,k=j+1:=⟨k-1,by omega⟩
   have h1:=hm _ (List.getElem_mem (l:=ls) (n:=2*i) zaa)
   have h2:=hm _ (List.getElem_mem (l:=ls) (n:=2*i+1) zaa)
   have ih:=Yw h ls hm hn k (i+1) (acc++[O6 h i ls[2*i] ls[2*i+1]]) zaa zaa zaD
   rw[drop2 hc,Wq];rw[List.append_assoc,List.singleton_append] at ih
   rw[AL];conv=>lhs;whnf
   rw[JL zaa];rw[Bj zaa];rw[Dl zbt]
   conv=>lhs;whnf
   rw[JL zaa];rw[Bv zaa]
   conv=>lhs;whnf
   rw[JL zaa];rw[Bj zaa];rw[Bv zaa]
   conv=>lhs;whnf
   try dsimp -iota -beta -eta -zeta only
   rw[AX];rw[A7Y _ _ _ _ AA AA];refine tq ?_
   refine(congrArg (Y E0) ?_).trans ih;(try simp only[Rq.loop.injEq,Rq.call.injEq,Rq.ops.injEq,List.cons.injEq,Prod.mk.injEq,AV.i.injEq,AV.sl.injEq,AV.st.injEq,AV.b.injEq,AV.u8.injEq,AV.nm.injEq,Option.some.injEq,Rs.row.injEq,Rs.var.injEq,heq_eq_eq,true_and,and_true]);(try(repeat' apply And.intro));all_goals first|(with_reducible rfl)|omega|(rw[Bj zaa];omega)|(rw[DV zaa];omega)|(rw[Ac];rfl)
  ·rw[UK _ _ _ zaY,List.append_nil]
   exact tq rfl
theorem A8x(hm:∀ l∈ls,l.length<=1000000)(hn:ls.length<=1000):Y E0 (.call 169 [.i h,.sl (.sl .u8) ls] [])=some (.ret (.sl (.sl .u8) (Wq h 0 ls)) []):=by
 have h0:=Yw h ls hm hn ls.length 0 [] zaa zaa zat
 refine tq ?_;rw[show(0:Int)=((0:Nat):Int) from rfl,h0];refine tq ?_
 rfl
theorem P6(O:List (List (List UInt8)))(h:Nat)(ls:List (List UInt8))(hO:O[h]?=some ls)(hOl:O.length<=10)(hm:∀ l∈ls,l.length<=1000000)(hn:ls.length<=1000):∀(k i:Nat) (acc:List (List UInt8)),ls.length=2*i+2*k->acc.length<=i ->
  Y E0 (.loop 369 1 0 2 [(3,.nm 0),(4,.i h),(5,.nm 1),(6,.i i)] [(0,some (.row 24 (.sl (.sl .u8)) O)),(1,some (.row 22 (.sl .u8) acc))])=some (.fin (.exit 2) 1 [(3,.nm 0),(4,.i h),(5,.sl (.sl .u8) (acc++Wq h i (ls.drop (2*i))))] [(0,some (.row 24 (.sl (.sl .u8)) O))])
 | k,i,acc,hi,ha=>by
  have hg:Ap O (h:Int)=some ls:=by rw[DU];exact hO
  have hh:h<O.length:=(List.getElem?_eq_some_iff.1 hO).1
  by_cases hc:2*i+1<ls.length
  ·obtain⟨k,rfl⟩:∃ j,k=j+1:=⟨k-1,by omega⟩
   have h1:=hm _ (List.getElem_mem (l:=ls) (n:=2*i) zaa)
   have h2:=hm _ (List.getElem_mem (l:=ls) (n:=2*i+1) zaa)
   have ih:=P6 O h ls hO hOl hm hn k (i+1) (acc++[O6 h i ls[2*i] ls[2*i+1]]) zaa zaD
   rw[drop2 hc,Wq];rw[List.append_assoc,List.singleton_append] at ih
   rw[AL];conv=>lhs;whnf
   rw[H6 zaa]
   conv=>lhs;whnf
   try dsimp -iota -beta -eta -zeta only
   rw[hg];refine to ?_;rw[hg]
   conv=>lhs;whnf
   rw[JL zaa];rw[Bv zaa]
   conv=>lhs;whnf
   rw[H6 zaa]
   conv=>lhs;whnf
   try dsimp -iota -beta -eta -zeta only
   rw[hg]
   conv=>lhs;whnf
   rw[JL zaa];rw[Bj zaa];rw[Bv zaa]
   conv=>lhs;whnf
   try dsimp -iota -beta -eta -zeta only
   rw[AX];rw[A0n _ _ _ _ AA AA];refine tq ?_
   refine(congrArg (Y E0) ?_).trans ih;(try simp only[Rq.loop.injEq,Rq.call.injEq,Rq.ops.injEq,List.cons.injEq,Prod.mk.injEq,AV.i.injEq,AV.sl.injEq,AV.st.injEq,AV.b.injEq,AV.u8.injEq,AV.nm.injEq,Option.some.injEq,Rs.row.injEq,Rs.var.injEq,heq_eq_eq,true_and,and_true]);(try(repeat' apply And.intro));all_goals first|(with_reducible rfl)|omega|(rw[Bj zaa];omega)|(rw[DV zaa];omega)|(rw[Ac];rfl)
  ·rw[UK _ _ _ zaY,List.append_nil]
   rw[AL];conv=>lhs;whnf
   rw[H6 zaa]
   conv=>lhs;whnf
   try dsimp -iota -beta -eta -zeta only
   rw[hg];exact tq rfl
theorem Q8:∀(k h:Nat) (pre:List (List (List UInt8))) (cur:List (List UInt8)),k<=3->pre.length=h->h<=3->cur.length=2^k->(∀ l∈cur,l.length<=1000000)->h+k<=3->Y E0 (.loop 369 0 0 1 [(3,.nm 0),(4,.i h)] [(0,some (.row 24 (.sl (.sl .u8)) (pre++[cur])))])=some (.fin (.exit 0) 0 [(3,.sl (.sl (.sl .u8)) (pre++mQ k h cur))] [])
 | 0,h,pre,cur,hk,hp,hh,hc,hm,hs=>by
  have hg:=ae pre cur h zaa
  have hpl:(pre++[cur]).length=h+1:=zaD
  rw[mQ]
  refine to ?_;rw[hg];exact tq rfl
 | k+1,h,pre,cur,hk,hp,hh,hc,hm,hs=>by
  have hg:=ae pre cur h zaa
  have hpl:(pre++[cur]).length=h+1:=zaD
  have hc':cur.length=2*2^k:=by rw[hc,Nat.pow_succ];omega
  have hk1:1<=2^k:=Nat.one_le_two_pow
  have hk2:2^k<=4:=by
   have:=Nat.pow_le_pow_right (n:=2) zaa (show k<=2 by omega);simpa using this
  have h1:=P6 (pre++[cur]) h cur (by subst hp;simp) zaa hm zaa (2^k) 0 [] zaa zat
  have ih:=Q8 k (h+1) (pre++[cur]) (Wq h 0 cur) zaa zaD zaa zbn (UL h _ 0 cur (Nat.le_refl _)) zaa
  rw[List.nil_append,Nat.mul_zero,List.drop_zero,show((0:Nat):Int)=0 from rfl] at h1;rw[mQ];rw[show((h+1:Nat):Int)=(h:Int)+1 from by omega] at ih;simp only[List.append_assoc,List.cons_append,List.nil_append] at ih
  refine to ?_;rw[hg];refine tq ?_;rw[h1];refine tq ?_
  refine(congrArg (Y E0) ?_).trans ih;(try simp only[Rq.loop.injEq,Rq.call.injEq,Rq.ops.injEq,List.cons.injEq,Prod.mk.injEq,AV.i.injEq,AV.sl.injEq,AV.st.injEq,AV.b.injEq,AV.u8.injEq,AV.nm.injEq,Option.some.injEq,Rs.row.injEq,Rs.var.injEq,heq_eq_eq,true_and,and_true]);(try(repeat' apply And.intro));all_goals first|(with_reducible rfl)|omega|(rw[Bj zaa];omega)|(rw[DV zaa];omega)|(rw[Ac,List.append_assoc];rfl)
theorem A0o(k:Nat)(ls:List (List UInt8))(hk:k<=3)(hl:ls.length=2^k)(hm:∀ l∈ls,l.length<=1000000):Y E0 (.call 369 [.sl (.sl .u8) ls] [])=some (.ret (.sl (.sl (.sl .u8)) (mQ k 0 ls)) []):=by
 have h0:=Q8 k 0 [] ls hk rfl zaa hl hm zaa
 rw[List.nil_append,List.nil_append,show((0:Nat):Int)=0 from rfl] at h0;refine tq ?_;rw[h0];exact tq rfl
theorem A4Q(hm:∀ l∈ls,l.length<=1000000)(hn:ls.length<=1000):Y E0 (.call 362 [.sl (.sl .u8) ls] [])=some (.ret (.sl .u8 (Ov ls)) []):=by
 by_cases h:F8 ls.length<0
 ·refine tq ?_;rw[bM _];refine tq ?_
  unfold Ov;(repeat(first|rw[if_pos zaA]|rw[if_neg zaA]));try simp only[NO]
 ·obtain⟨k,hk,hk2,hk3⟩:=Sv ls.length h
  have hlv:=A0o k ls hk hk3 hm
  have hg:Ap (mQ k 0 ls) (k:Int)=some (aZ k 0 ls):=by rw[DU];exact mW k 0 ls k (Nat.le_refl _)
  have hln:=XE k 0 ls 0 hk3
  have hx:=iH k 0 ls hm _ (List.getElem_mem (l:=aZ k 0 ls) (n:=0) zaa)
  refine tq ?_;rw[AP,bM,hk2];refine tq ?_;rw[hlv];refine tq ?_;rw[hg];refine tq ?_;rw[Bv zaa];refine tq ?_
  unfold Ov;rw[hk2,if_neg zaa];simp[Ac,List.getD,hln]
theorem RY:∀(k h:Nat) (ls:List (List UInt8)),k<=3->ls.length=2^k->(∀ l∈ls,l.length<=1000000)->h+k<=3->Y E0 (.loop 120 0 0 0 [(3,.sl (.sl .u8) ls),(4,.i h)] [])=some (.fin (.exit 0) 0 [(3,.sl (.sl .u8) (aZ k h ls))] [])
 | 0,h,ls,hk,hl,hm,hs=>by
  rw[aZ]
  exact tq rfl
 | k+1,h,ls,hk,hl,hm,hs=>by
  have hc':ls.length=2*2^k:=by rw[hl,Nat.pow_succ];omega
  have hk1:1<=2^k:=Nat.one_le_two_pow
  have hk2:2^k<=4:=by
   have:=Nat.pow_le_pow_right (n:=2) zaa (show k<=2 by omega);simpa using this
  have ih:=RY k (h+1) (Wq h 0 ls) zaa zbn (UL h _ 0 ls (Nat.le_refl _)) zaa
  rw[show((h+1:Nat):Int)=(h:Int)+1 from by omega] at ih;rw[aZ]
  refine tq ?_;rw[A8x _ _ AA AA];refine tq ?_
  refine(congrArg (Y E0) ?_).trans ih;rfl
theorem A4R(hm:∀ l∈ls,l.length<=1000000)(hn:ls.length<=1000):Y E0 (.call 120 [.sl (.sl .u8) ls] [])=some (.ret (.sl .u8 (Ov ls)) []):=by
 by_cases h:F8 ls.length<0
 ·have hf:decide ((ls.length:Int)=1\/(ls.length:Int)=2\/(ls.length:Int)=4\/(ls.length:Int)=8)=false:=by
   unfold F8 at h;rw[decide_eq_false_iff_not];repeat' split at h
   all_goals omega
  refine tq ?_;rw[AP,XH,hf];refine tq ?_
  unfold Ov;(repeat(first|rw[if_pos zaA]|rw[if_neg zaA]));try simp only[NO]
 ·obtain⟨k,hk,hk2,hk3⟩:=Sv ls.length h
  have hf:decide ((ls.length:Int)=1\/(ls.length:Int)=2\/(ls.length:Int)=4\/(ls.length:Int)=8)=true:=by
   unfold F8 at h;rw[decide_eq_true_iff];repeat' split at h
   all_goals omega
  have h0:=RY k 0 ls hk hk3 hm zaa
  rw[show((0:Nat):Int)=0 from rfl] at h0
  have hln:=XE k 0 ls 0 hk3
  have hx:=iH k 0 ls hm _ (List.getElem_mem (l:=aZ k 0 ls) (n:=Int.toNat 0) (by rw[hln];decide))
  refine tq ?_;rw[AP,XH,hf];refine tq ?_;rw[h0];refine tq ?_;rw[Bv zaa];refine tq ?_;rw[yP _ (Nat.le_trans hx zaj)];refine tq ?_
  unfold Ov;rw[hk2,if_neg zaa];simp[List.getD,hln]
end
theorem RZ:∀(k h:Nat) (i:Int) (ls acc:List (List UInt8)),k<=3->ls.length=2^k->(∀ l∈ls,l.length<=1000000)->h+k<=3->0<=i/\i<ls.length->acc.length<=h ->
  Y E0 (.loop 124 0 0 1 [(0,.i i),(5,.nm 0),(6,.sl (.sl .u8) ls),(7,.i h)] [(0,some (.row 22 (.sl .u8) acc))])=some (.fin (.exit 0) 0 [(5,.sl (.sl .u8) (acc++RQ k h i ls))] [])
 | 0,h,i,ls,acc,hk,hl,hm,hs,hi,ha=>by
  rw[RQ,List.append_nil]
  rw[AL];conv=>lhs;whnf
  rw[Fv zbt]
  conv=>lhs;whnf
 | k+1,h,i,ls,acc,hk,hl,hm,hs,hi,ha=>by
  have hc':ls.length=2*2^k:=by rw[hl,Nat.pow_succ];omega
  have hk1:1<=2^k:=Nat.one_le_two_pow
  have hk2:2^k<=4:=by
   have:=Nat.pow_le_pow_right (n:=2) zaa (show k<=2 by omega);simpa using this
  have hx:=A7J (i:=i) zaa
  have hsb:0<=sib i/\sib i<ls.length:=by unfold sib;split<;>omega
  have hx1:=hm _ (List.getElem_mem (l:=ls) (n:=(sib i).toNat) zaa)
  have hgd:ls.getD (sib i).toNat []=ls[(sib i).toNat]'zaa:=by simp[List.getD,show(sib i).toNat<ls.length by omega]
  have ih:=RZ k (h+1) (i/2) (Wq h 0 ls) (acc++[ls.getD (sib i).toNat []]) zaa zbn (UL h _ 0 ls (Nat.le_refl _)) zaa zbn zaD
  rw[show((h+1:Nat):Int)=(h:Int)+1 from by omega] at ih
  simp only[List.append_assoc,List.cons_append,List.nil_append] at ih
  rw[RQ,hgd]
  rw[hgd] at ih
  rw[AL];conv=>lhs;whnf
  rw[Dl zbt]
  conv=>lhs;whnf
  rw[hx];conv=>lhs;whnf
  rw[Bv zaa]
  conv=>lhs;whnf
  rw[AX]
  rw[yP _ zaa]
  conv=>lhs;whnf
  rw[Dk zbt]
  conv=>lhs;whnf
  rw[AX]
  rw[A8x _ _ zaa zaa]
  conv=>lhs;whnf
  rw[Aa zaa]
  conv=>lhs;whnf
  rw[F6 zaa]
  rw[Bj zaa]
  refine(congrArg (Y E0) ?_).trans ih;(try simp only[Rq.loop.injEq,Rq.call.injEq,Rq.ops.injEq,List.cons.injEq,Prod.mk.injEq,AV.i.injEq,AV.sl.injEq,AV.st.injEq,AV.b.injEq,AV.u8.injEq,AV.nm.injEq,Option.some.injEq,Rs.row.injEq,Rs.var.injEq,heq_eq_eq,true_and,and_true]);(try(repeat' apply And.intro));all_goals first|(with_reducible rfl)|omega|(rw[Bj zaa];omega)|(rw[DV zaa];omega)|(rw[Ac])
theorem A4S(i:Int)(ls:List (List UInt8))(hm:∀ l∈ls,l.length<=1000000)(hn:ls.length<=1000):Y E0 (.call 124 [.i i,.sl (.sl .u8) ls] [])=some (.ret (.sl (.sl .u8) (Ox i ls)) []):=by
 by_cases h:F8 ls.length<0
 ·have hf:decide ((ls.length:Int)=1\/(ls.length:Int)=2\/(ls.length:Int)=4\/(ls.length:Int)=8)=false:=by
   unfold F8 at h;rw[decide_eq_false_iff_not];repeat' split at h
   all_goals omega
  rw[AL];conv=>lhs;whnf
  rw[AX]
  rw[AP,XH,hf]
  conv=>lhs;whnf
  rw[DW];conv=>lhs;whnf
  unfold Ox;(repeat(first|rw[if_pos zaA]|rw[if_neg zaA]));try simp only[NO]
 ·obtain⟨k,hk,hk2,hk3⟩:=Sv ls.length h
  have hf:decide ((ls.length:Int)=1\/(ls.length:Int)=2\/(ls.length:Int)=4\/(ls.length:Int)=8)=true:=by
   unfold F8 at h;rw[decide_eq_true_iff];repeat' split at h
   all_goals omega
  rw[AL];conv=>lhs;whnf
  rw[AX]
  rw[AP,XH,hf]
  conv=>lhs;whnf
  rw[DW];conv=>lhs;whnf
  rcases Bool.eq_false_or_eq_true (Dx i 0) with hc0|hc0
  ·rw[hc0];replace hc0:=Ii hc0;try simp only[AP] at hc0
   conv=>lhs;whnf
   unfold Ox;rw[hk2];(repeat(first|rw[if_pos zaA]|rw[if_neg zaA]));try rfl
  ·rw[hc0];replace hc0:=Ij hc0;try simp only[AP] at hc0
   conv=>lhs;whnf
   rcases Bool.eq_false_or_eq_true (EG (Ak ls) i) with hc1|hc1
   ·rw[hc1];replace hc1:=A2x hc1;try simp only[AP] at hc1
    conv=>lhs;whnf
    unfold Ox;rw[hk2];(repeat(first|rw[if_pos zaA]|rw[if_neg zaA]));try rfl
   ·rw[hc1];replace hc1:=A2y hc1;try simp only[AP] at hc1
    conv=>lhs;whnf
    rw[Du]
    have h0:=RZ k 0 i ls [] hk hk3 hm zaa zaa zat;rw[show((0:Nat):Int)=0 from rfl,List.nil_append] at h0;rw[h0]
    conv=>lhs;whnf
    unfold Ox;rw[hk2];(repeat(first|rw[if_pos zaA]|rw[if_neg zaA]));try rfl
section
attribute [local irreducible] lsB VT IJ GI IW UJ ABr Ov Ox A3s Ye
variable (seed:List UInt8)(h:Int)
theorem bP:Y E0 (.call 297 [.i h] [])=some (.ret (.b (decide (0<=h/\h<=3))) []):=by
 refine tq ?_
 rcases Gw 0 h with hc0|hc0
 ·refine tq ?_;exact congrArg (fun b=>some (Rsp.ret (AV.b b) [])) (by rw[Hl];apply decide_eq_decide.2;omega)
 refine tq ?_;rw[decide_eq_false zaa]
theorem A4T(hs:seed.length<=1000000):Y E0 (.call 353 [.sl .u8 seed,.i h] [])=some (.ret (.sl .u8 (lsB seed h)) []):=by
 refine tq ?_;rw[show strOf {data := #[115,105,103,110,101,114]}=iI from rfl,GH _ _ _ _ zaa zaj zat,Dq];refine tq ?_
 (unfold lsB;rfl)
theorem bQ(hs:seed.length<=1000000):Y E0 (.call 123 [.sl .u8 seed,.i h] [])=some (.ret (.sl .u8 (lsB seed h)) []):=by
 refine tq ?_;rw[show strOf {data := #[115,105,103,110,101,114]}=iI from rfl,Il _ _ _ _ zaa zaj zat,Dq];refine tq ?_
 (unfold lsB;rfl)
theorem Q9(seed:List UInt8)(k N:Nat)(hk:k<=3)(hN:N=2^k):∀(n j:Nat),j+n=N->Y E0 (.loop 355 0 0 1 [(5,.sl .u8 (lsB seed k)),(6,.nm 0),(13,.i (N:Int)),(14,.i (j:Int))] [(0,some (.row 22 (.sl .u8) ((VT seed k).take j)))])=some (.fin (.exit 0) 0 [(6,.sl (.sl .u8) (VT seed k))] [])
 | 0,j,hj=>by
  have hl:=KZ seed k
  rw[List.take_of_length_le zaa]
  exact tq rfl
 | n+1,j,hj=>by
  have h8:=Ql hk
  have hl:=KZ seed k
  have ih:=Q9 seed k N hk hN n (j+1) zaa
  have ht:(VT seed k).take j++[IW (lsB seed k) j]=(VT seed k).take (j+1):=by
   have hg:=iK (seed:=seed) (k:=k) (i:=j) zaa
   rw[List.getD,List.getElem?_eq_getElem zaa,Option.getD_some] at hg;rw[List.take_succ_eq_append_getElem zaa,hg]
  have hs:=UM seed k
  refine tq ?_;rw[A0m _ _ zaa];refine tq ?_
  refine(congrArg (Y E0) ?_).trans ih;(try simp only[Rq.loop.injEq,Rq.call.injEq,Rq.ops.injEq,List.cons.injEq,Prod.mk.injEq,AV.i.injEq,AV.sl.injEq,AV.st.injEq,AV.b.injEq,AV.u8.injEq,AV.nm.injEq,Option.some.injEq,Rs.row.injEq,Rs.var.injEq,heq_eq_eq,true_and,and_true]);(try(repeat' apply And.intro));all_goals first|(with_reducible rfl)|omega|(rw[Bj zaa];omega)|(rw[DV zaa];omega)|(rw[Ac];exact ht)
theorem A0p(k:Nat)(hk:k<=3)(hs:seed.length<=1000000):Y E0 (.call 355 [.sl .u8 seed,.i (k:Int)] [])=some (.ret (.sl (.sl .u8) (VT seed k)) []):=by
 have hsh:CJ 1 (BZ (k:Int)).toNat=((2^k:Nat):Int):=by rw[iD zaa,Ko]
 have hl:=Q9 seed k _ hk rfl (2^k) 0 zaa
 rw[List.take_zero,show((0:Nat):Int)=0 from rfl] at hl;refine tq ?_;rw[A4T _ _ AA];refine tq ?_;rw[hsh,hl];exact tq rfl
theorem P7(seed:List UInt8)(k N:Nat)(hk:k<=3)(hN:N=2^k):∀(n j:Nat),j+n=N->Y E0 (.loop 121 0 0 1 [(1,.i (k:Int)),(5,.nm 0),(6,.sl .u8 (lsB seed k)),(7,.i (j:Int))] [(0,some (.row 22 (.sl .u8) ((VT seed k).take j)))])=some (.fin (.exit 0) 0 [(5,.sl (.sl .u8) (VT seed k))] [])
 | 0,j,hj=>by
  have hl:=KZ seed k
  have hsh:CJ 1 (BZ (k:Int)).toNat=(N:Int):=by rw[iD zaa,Ko,hN]
  rw[List.take_of_length_le zaa]
  rw[AL];conv=>lhs;whnf
  rw[hsh];exact tq rfl
 | n+1,j,hj=>by
  have h8:=Ql hk
  have hl:=KZ seed k
  have hsh:CJ 1 (BZ (k:Int)).toNat=(N:Int):=by rw[iD zaa,Ko,hN]
  have ih:=P7 seed k N hk hN n (j+1) zaa
  have ht:(VT seed k).take j++[IW (lsB seed k) j]=(VT seed k).take (j+1):=by
   have hg:=iK (seed:=seed) (k:=k) (i:=j) zaa
   rw[List.getD,List.getElem?_eq_getElem zaa,Option.getD_some] at hg;rw[List.take_succ_eq_append_getElem zaa,hg]
  have hs:=UM seed k
  rw[AL];conv=>lhs;whnf
  rw[hsh];refine tq ?_;rw[ut _ _ zaa];refine tq ?_
  refine(congrArg (Y E0) ?_).trans ih;(try simp only[Rq.loop.injEq,Rq.call.injEq,Rq.ops.injEq,List.cons.injEq,Prod.mk.injEq,AV.i.injEq,AV.sl.injEq,AV.st.injEq,AV.b.injEq,AV.u8.injEq,AV.nm.injEq,Option.some.injEq,Rs.row.injEq,Rs.var.injEq,heq_eq_eq,true_and,and_true]);(try(repeat' apply And.intro));all_goals first|(with_reducible rfl)|omega|(rw[Bj zaa];omega)|(rw[DV zaa];omega)|(rw[Ac];exact ht)
theorem Yx(k:Nat)(hk:k<=3)(hs:seed.length<=1000000):Y E0 (.call 121 [.sl .u8 seed,.i (k:Int)] [])=some (.ret (.sl (.sl .u8) (VT seed k)) []):=by
 have hl:=P7 seed k _ hk rfl (2^k) 0 zaa
 rw[List.take_zero,show((0:Nat):Int)=0 from rfl] at hl;refine tq ?_;rw[bQ _ _ AA];refine tq ?_;rw[hl];exact tq rfl
theorem A7Z(hs:seed.length<=1000000):Y E0 (.call 346 [.sl .u8 seed,.i h] [])=some (.ret (.sl .u8 (IJ seed h)) []):=by
 by_cases hh:0<=h/\h<=3
 ·obtain⟨k,rfl⟩:∃ k:Nat,h=k:=⟨h.toNat,by omega⟩
  have hk:k<=3:=zaa
  have hr:=iL (seed:=seed) hk
  refine tq ?_;rw[bP,decide_eq_true hh];refine tq ?_;rw[A0p _ _ hk hs];refine tq ?_;rw[A4Q _ (iJ hk) (A3v hk)];refine tq ?_
  (rw[IJ,if_pos hh,Int.toNat_natCast,Ac,Dq];rfl)
 ·refine tq ?_;rw[bP,decide_eq_false hh];refine tq ?_
  (rw[IJ,if_neg hh])
theorem nS(hs:seed.length<=1000000):Y E0 (.call 76 [.sl .u8 seed,.i h] [])=some (.ret (.nm 0) [some (.row 5 .u8 (IJ seed h))]):=by
 by_cases hh:0<=h/\h<=3
 ·obtain⟨k,rfl⟩:∃ k:Nat,h=k:=⟨h.toNat,by omega⟩
  have hk:k<=3:=zaa
  have hr:=iL (seed:=seed) hk
  refine tq ?_;rw[Yx _ _ hk hs];refine tq ?_;rw[A4R _ (iJ hk) (A3v hk)];refine tq ?_
  (rw[IJ,if_pos hh,Int.toNat_natCast,Ac,Dq];rfl)
 ·refine tq ?_
  rcases Bc h 0 with hc0|hc0
  ·refine tq ?_
   (rw[IJ,if_neg hh])
  refine tq ?_
  (rw[IJ,if_neg hh])
theorem QA(P:List (List UInt8))(hP:∀ l∈P,l.length=16)(hn:P.length<=3):∀(n j:Nat) (acc:List UInt8),j+n=P.length->acc.length<=1000+16*j->Y E0 (.loop 77 0 0 1 [(9,.nm 0),(10,.sl (.sl .u8) P),(11,.i (j:Int))] [(0,some (.row 5 .u8 acc))])=some (.fin (.exit 0) 1 [(9,.nm 0)] [(0,some (.row 5 .u8 (acc++(P.drop j).flatten)))])
 | 0,j,acc,hj,ha=>by
  rw[List.drop_eq_nil_of_le zaa,List.flatten_nil,List.append_nil]
  exact tq rfl
 | n+1,j,acc,hj,ha=>by
  have hx:=hP _ (List.getElem_mem (l:=P) (n:=j) zaa)
  have hg:Ap P (j:Int)=some (P[j]'zaa):=JC zaa
  have ih:=QA P hP hn n (j+1) (acc++P[j]'zaa) zaa zaP
  have hd:=List.drop_eq_getElem_cons (l:=P) (i:=j) zaa
  rw[List.append_assoc,<-List.flatten_cons,<-hd] at ih
  clear hd
  refine to ?_;rw[hg];refine tq ?_
  refine(congrArg (Y E0) ?_).trans ih;(try simp only[Rq.loop.injEq,Rq.call.injEq,Rq.ops.injEq,List.cons.injEq,Prod.mk.injEq,AV.i.injEq,AV.sl.injEq,AV.st.injEq,AV.b.injEq,AV.u8.injEq,AV.nm.injEq,Option.some.injEq,Rs.row.injEq,Rs.var.injEq,heq_eq_eq,true_and,and_true]);(try(repeat' apply And.intro));all_goals first|(with_reducible rfl)|omega|(rw[Bj zaa];omega)|(rw[DV zaa];omega)|rw[Ac]
theorem bT(leaf:Int)(m:List UInt8)(hs:seed.length<=1000000)(hm:m.length<=1000000):Y E0 (.call 77 [.sl .u8 seed,.i h,.i leaf,.sl .u8 m] [])=some (.ret (.nm 0) [some (.row 5 .u8 (GI seed h leaf m))]):=by
 by_cases hh:0<=h/\h<=3
 ·obtain⟨k,rfl⟩:∃ k:Nat,h=k:=⟨h.toNat,by omega⟩
  have hk:k<=3:=zaa
  have h8:=Ql hk
  have hsh:CJ 1 (BZ (k:Int)).toNat=((2^k:Nat):Int):=by rw[iD zaa,Ko]
  have hl:=UM seed k
  by_cases hc:0<=leaf/\leaf<((2^k:Nat):Int)
  ·have hsb:=aX (seed:=lsB seed k) (m:=m) (leaf:=leaf) zaa
   obtain⟨p1,p2⟩:=yR (seed:=seed) (k:=k) (i:=leaf) hk zaa (by rw[Ko];omega)
   have hlp:=QA _ p2 zaa (Ox leaf (VT seed k)).length 0 (BF [DX leaf] (UJ (lsB seed k) leaf m)) zaa (by rw[Ac,List.length_append,hsb];simp)
   rw[List.drop_zero,show((0:Nat):Int)=0 from rfl] at hlp;rw[AL]
   conv=>lhs;whnf
   rw[Fv zaa]
   conv=>lhs;whnf
   rw[Fv zaa]
   conv=>lhs;whnf
   rw[Fv zaa]
   conv=>lhs;whnf
   rw[hsh];refine tq ?_;rw[bQ _ _ AA];refine tq ?_;rw[A4P _ _ _ zaa zaa];refine tq ?_;rw[Yx _ _ hk hs];refine tq ?_;rw[A4S _ _ (iJ hk) (A3v hk)];refine tq ?_;rw[hlp];refine tq ?_
   (rw[GI,if_pos ⟨hh,by rw[Int.toNat_natCast,Ko];exact hc⟩,Int.toNat_natCast,Ac,Dq];rfl)
  ·refine tq ?_
   rcases Bc leaf 0 with hc0|hc0
   ·refine tq ?_
    (rw[GI,if_neg (by rw[Int.toNat_natCast,Ko];omega)])
   rw[Fv zaa]
   conv=>lhs;whnf
   rw[hsh];refine tq ?_
   (rw[GI,if_neg (by rw[Int.toNat_natCast,Ko];omega)])
 ·refine tq ?_
  rcases Bc h 0 with hc0|hc0
  ·refine tq ?_
   (rw[GI,if_neg zaa])
  refine tq ?_
  (rw[GI,if_neg zaa])
end
theorem A14(b:List UInt8)(u v w:UInt8)(hb:5<=b.length/\b.length<=2048)(h0:Ap b 0=some 83)(h1:Ap b 1=some 87)(h2:Ap b 2=some u)(h3:Ap b 3=some v)(h4:Ap b 4=some w)(hl:BC .or (CJ (EJ u) (UInt64.ofNat 8).toNat) (EJ v)=(b.length:Int)):Y E0 (.call 127 [.sl .u8 b] [])=some (.ret (.tup [.i (EJ w),.i 0]) []):=by
 refine tq ?_
 rw[h0]
 conv=>lhs;whnf
 refine tq ?_
 rw[h1]
 conv=>lhs;whnf
 refine tq ?_
 rw[h2]
 refine tq ?_
 refine tq ?_
 rw[h3]
 conv=>lhs;whnf
 refine tq ?_
 rw[h4]
 conv=>lhs;whnf
 rw[AL]
 conv=>lhs;whnf
def A4p(b:List UInt8):Nat->List Int->Nat->Prop
 | p,[],q=>q=p
 | p,x::xs,q=>∃ p',Dt b p 0 2=(x,p',0)/\A4p b p' xs q
theorem A4q{b:List UInt8}:∀ {l:List Int} {p q:Nat},p<=b.length->A4p b p l q->q<=b.length
 | [],p,q,hp,h=>by obtain rfl:q=p:=h;exact hp
 | x::l,p,q,hp,⟨p',h1,h2⟩=>A4q (Jg hp h1) h2
def A4r(b:List UInt8):Nat->List (El AB)->Nat->Prop
 | p,[],q=>q=p
 | p,x::xs,q=>∃ p1,Dt b p 0 2=(x.1,p1,0)/\∃ p2,Fg b p1 0 128=(x.2.1,p2,0)/\∃ p3,Fg b p2 0 128=(x.2.2,p3,0)/\A4r b p3 xs q
theorem A4s{b:List UInt8}:∀ {l:List (El AB)} {p q:Nat},p<=b.length->A4r b p l q->q<=b.length
 | [],p,q,hp,h=>by obtain rfl:q=p:=h;exact hp
 | x::l,p,q,hp,⟨p1,h1,p2,h2,p3,h3,h4⟩=>A4s (Oy (Oy (Jg hp h1) h2) h3) h4
def A4t(b:List UInt8):Nat->List Int->Nat->Prop
 | p,[],q=>q=p
 | p,x::xs,q=>x<=1099511627776/\∃ p',Dt b p 0 8=(x,p',0)/\A4t b p' xs q
theorem A4u{b:List UInt8}:∀ {l:List Int} {p q:Nat},p<=b.length->A4t b p l q->q<=b.length
 | [],p,q,hp,h=>by obtain rfl:q=p:=h;exact hp
 | x::l,p,q,hp,⟨_,p',h1,h2⟩=>A4u (Jg hp h1) h2
def vI(b:List UInt8)(m:Int):Nat->List (List UInt8)->Nat->Prop
 | p,[],q=>q=p
 | p,x::xs,q=>∃ p',Fg b p 0 m=(x,p',0)/\vI b m p' xs q
theorem A4v{b:List UInt8}{m:Int}:∀ {l:List (List UInt8)} {p q:Nat},p<=b.length->vI b m p l q->q<=b.length
 | [],p,q,hp,h=>by obtain rfl:q=p:=h;exact hp
 | x::l,p,q,hp,⟨p',h1,h2⟩=>A4v (Oy hp h1) h2
theorem oI(c:Int)(b:List UInt8)(m:Nat)(hb:b.length<=1000000)(hm:m<=10)(n1 n2 n3:Int):∀(k j:Nat) (l xs:List Int) (p q:Nat),j+k=m->xs.length=k->p<=b.length->l.length+k<=20->A4p b p xs q ->
  Y E0 (.loop 85 0 0 4 [(2,.pa 0 0),(7,.i n1),(8,.i n2),(9,.i n3),(11,.pa 1 0),(12,.pa 2 0),(42,.i (m:Int)),(43,.i (j:Int))] [(0,some (.var [.i 0,.nil,.nil,.nil,.nil])),(1,some (.var [.sl .u8 b,.i (p:Int),.i 0])),(2,some (.var [.i c,.nm 3,.nil,.nil,.nil])),(3,some (.row 3 .i64 l))])
   = some (.fin (.exit 0) 4 [(2,.pa 0 0),(7,.i n1),(8,.i n2),(9,.i n3),(11,.pa 1 0),(12,.pa 2 0)] [(0,some (.var [.i 0,.nil,.nil,.nil,.nil])),(1,some (.var [.sl .u8 b,.i (q:Int),.i 0])),(2,some (.var [.i c,.nm 3,.nil,.nil,.nil])),(3,some (.row 3 .i64 (l++xs)))])
 | 0,j,l,[],p,q,hj,hx,hp,hl,h=>by
  obtain rfl:j=m:=zaa
  obtain rfl:q=p:=h
  rw[List.append_nil]
  rw[AL];conv=>lhs;whnf
  refine tq ?_
  with_reducible rfl
 | k+1,j,l,x::xs,p,q,hj,hx,hp,hl,h=>by
  obtain⟨q1,h1,h2⟩:=h
  have g:=Ed b p 0 2 zaa hp
  rw[h1] at g
  have ih:=oI c b m hb hm n1 n2 n3 k (j+1) (l++[x]) xs q1 q zaa zbm (Jg hp h1) zaD h2
  rw[show((j+1:Nat):Int)=(j:Int)+1 from by omega,List.append_assoc,List.singleton_append] at ih
  rw[<-Ac l [x]] at ih
  rw[AL];conv=>lhs;whnf
  refine tq ?_
  rw[g]
  refine tq ?_
  exact ih
theorem oJ(c:Int)(hs:List Int)(b:List UInt8)(m:Nat)(hb:b.length<=1000000)(hm:m<=10)(n2 n3:Int):∀(k j:Nat) (l xs:List (El AB)) (p q:Nat),j+k=m->xs.length=k->p<=b.length->l.length+k<=20->A4r b p xs q ->
  Y E0 (.loop 85 1 0 5 [(2,.pa 0 0),(8,.i n2),(9,.i n3),(11,.pa 1 0),(12,.pa 2 0),(53,.i (m:Int)),(54,.i (j:Int))] [(0,some (.var [.i 0,.nil,.nil,.nil,.nil])),(1,some (.var [.sl .u8 b,.i (p:Int),.i 0])),(2,some (.var [.i c,.nm 3,.nm 4,.nil,.nil])),(3,some (.row 3 .i64 hs)),(4,some (.row 113 AB l))])
   = some (.fin (.exit 2) 5 [(2,.pa 0 0),(8,.i n2),(9,.i n3),(11,.pa 1 0),(12,.pa 2 0)] [(0,some (.var [.i 0,.nil,.nil,.nil,.nil])),(1,some (.var [.sl .u8 b,.i (q:Int),.i 0])),(2,some (.var [.i c,.nm 3,.nm 4,.nil,.nil])),(3,some (.row 3 .i64 hs)),(4,some (.row 113 AB (l++xs)))])
 | 0,j,l,[],p,q,hj,hx,hp,hl,h=>by
  obtain rfl:j=m:=zaa
  obtain rfl:q=p:=h
  rw[List.append_nil]
  rw[AL];conv=>lhs;whnf
  refine tq ?_
  with_reducible rfl
 | k+1,j,l,(x1,x2,x3)::xs,p,q,hj,hx,hp,hl,h=>by
  obtain⟨q1,h1,q2,h2,q3,h3,h4⟩:=h
  have k1:=Jg hp h1
  have k2:=Oy k1 h2
  have k3:=Oy k2 h3
  have g1:=Ed b p 0 2 zaa hp
  have g2:=Jr b q1 0 128 zaa k1
  have g3:=Jr b q2 0 128 zaa k2
  rw[h1] at g1;rw[h2] at g2;rw[h3] at g3
  have ih:=oJ c hs b m hb hm n2 n3 k (j+1) (l++[(x1,x2,x3)]) xs q3 q zaa zbm k3 zaD h4
  rw[show((j+1:Nat):Int)=(j:Int)+1 from by omega,List.append_assoc,List.singleton_append] at ih
  rw[<-Ac l [(x1,x2,x3)]] at ih
  rw[AL];conv=>lhs;whnf
  refine tq ?_
  rw[g1]
  refine tq ?_
  rw[g2]
  refine tq ?_
  rw[g3]
  refine tq ?_
  exact ih
theorem oK(c:Int)(hs:List Int)(az:List (El AB))(b:List UInt8)(m:Nat)(hb:b.length<=1000000)(hm:m<=10)(n3:Int):∀(k j:Nat) (l xs:List Int) (p q:Nat),j+k=m->xs.length=k->p<=b.length->l.length+k<=20->A4t b p xs q ->
  Y E0 (.loop 85 2 0 6 [(2,.pa 0 0),(9,.i n3),(11,.pa 1 0),(12,.pa 2 0),(72,.i (m:Int)),(73,.i (j:Int))] [(0,some (.var [.i 0,.nil,.nil,.nil,.nil])),(1,some (.var [.sl .u8 b,.i (p:Int),.i 0])),(2,some (.var [.i c,.nm 3,.nm 4,.nm 5,.nil])),(3,some (.row 3 .i64 hs)),(4,some (.row 113 AB az)),(5,some (.row 3 .i64 l))])
   = some (.fin (.exit 4) 6 [(2,.pa 0 0),(9,.i n3),(11,.pa 1 0),(12,.pa 2 0)] [(0,some (.var [.i 0,.nil,.nil,.nil,.nil])),(1,some (.var [.sl .u8 b,.i (q:Int),.i 0])),(2,some (.var [.i c,.nm 3,.nm 4,.nm 5,.nil])),(3,some (.row 3 .i64 hs)),(4,some (.row 113 AB az)),(5,some (.row 3 .i64 (l++xs)))])
 | 0,j,l,[],p,q,hj,hx,hp,hl,h=>by
  obtain rfl:j=m:=zaa
  obtain rfl:q=p:=h
  rw[List.append_nil]
  rw[AL];conv=>lhs;whnf
  refine tq ?_
  with_reducible rfl
 | k+1,j,l,x::xs,p,q,hj,hx,hp,hl,h=>by
  obtain⟨hx1,q1,h1,h2⟩:=h
  have g:=Ed b p 0 8 zaa hp
  rw[h1] at g
  have ge:=Jq b q1 0
  have ih:=oK c hs az b m hb hm n3 k (j+1) (l++[x]) xs q1 q zaa zbm (Jg hp h1) zaD h2
  rw[show((j+1:Nat):Int)=(j:Int)+1 from by omega,List.append_assoc,List.singleton_append] at ih
  rw[<-Ac l [x]] at ih
  rw[AL];conv=>lhs;whnf
  refine tq ?_
  rw[g]
  refine tq ?_
  rw[ge]
  refine tq ?_
  exact ih
theorem oL(c:Int)(hs:List Int)(az:List (El AB))(is:List Int)(b:List UInt8)(m:Nat)(hb:b.length<=1000000)(hm:m<=10):∀(k j:Nat) (l xs:List (List UInt8)) (p q:Nat),j+k=m->xs.length=k->p<=b.length->l.length+k<=20->vI b 1024 p xs q ->
  Y E0 (.loop 85 3 0 7 [(2,.pa 0 0),(11,.pa 1 0),(12,.pa 2 0),(104,.i (m:Int)),(105,.i (j:Int))] [(0,some (.var [.i 0,.nil,.nil,.nil,.nil])),(1,some (.var [.sl .u8 b,.i (p:Int),.i 0])),(2,some (.var [.i c,.nm 3,.nm 4,.nm 5,.nm 6])),(3,some (.row 3 .i64 hs)),(4,some (.row 113 AB az)),(5,some (.row 3 .i64 is)),(6,some (.row 22 (.sl .u8) l))])
   = some (.fin (.exit 6) 7 [(2,.pa 0 0),(11,.pa 1 0),(12,.pa 2 0)] [(0,some (.var [.i 0,.nil,.nil,.nil,.nil])),(1,some (.var [.sl .u8 b,.i (q:Int),.i 0])),(2,some (.var [.i c,.nm 3,.nm 4,.nm 5,.nm 6])),(3,some (.row 3 .i64 hs)),(4,some (.row 113 AB az)),(5,some (.row 3 .i64 is)),(6,some (.row 22 (.sl .u8) (l++xs)))])
 | 0,j,l,[],p,q,hj,hx,hp,hl,h=>by
  obtain rfl:j=m:=zaa
  obtain rfl:q=p:=h
  rw[List.append_nil]
  rw[AL];conv=>lhs;whnf
  refine tq ?_
  with_reducible rfl
 | k+1,j,l,x::xs,p,q,hj,hx,hp,hl,h=>by
  obtain⟨q1,h1,h2⟩:=h
  have g:=Jr b p 0 1024 zaa hp
  rw[h1] at g
  have ih:=oL c hs az is b m hb hm k (j+1) (l++[x]) xs q1 q zaa zbm (Oy hp h1) zaD h2
  rw[show((j+1:Nat):Int)=(j:Int)+1 from by omega,List.append_assoc,List.singleton_append] at ih
  rw[<-Ac l [x]] at ih
  rw[AL];conv=>lhs;whnf
  refine tq ?_
  rw[g]
  refine tq ?_
  exact ih
theorem A7g(b x:List UInt8)(c nb:Int)(hs:List Int)(az:List (El AB))(is:List Int)(bs:List (List UInt8))(p1 p2 p3 p4 p5:Nat)(hst:Y E0 (.call 127 [.sl .u8 b] [])=some (.ret (.tup [.i c,.i 0]) []))(hx:List.take (Ak b-5).toNat (List.drop (Int.toNat 5) b)=x)(hb:5<=b.length/\b.length<=2048)(hsh:Y E0 (.call 128 [.i c] [])=some (.ret (.tup [.i (hs.length:Int),.i (az.length:Int),.i (is.length:Int),.i nb,.b true]) []))(hct:Y E0 (.call 133 [.i (bs.length:Int),.i nb] [])=some (.ret (.b true) []))
  (hl:hs.length<=10) (hal:az.length<=10) (hil:is.length<=10) (hbl:bs.length<=10) (g1:A4p x 0 hs p1) (g2:A4r x p1 az p2) (g3:A4t x p2 is p3) (g4:Dt x p3 0 1=((bs.length:Int),p4,0)) (g5:vI x 1024 p4 bs p5) (g6:PI x p5 0=0):Y E0 (.call 85 [.sl .u8 b] [])=some (.ret (.tup [rq c hs az is bs,.i 0]) []):=by
 have hxl:x.length<=2048:=za7
 have k1:=A4q (Nat.zero_le _) g1
 have k2:=A4s k1 g2
 have k3:=A4u k2 g3
 have k4:=Jg k3 g4
 have k5:=A4v k4 g5
 have l0:=fun n1 n2 n3=>oI c x hs.length zaa hl n1 n2 n3 hs.length 0 [] hs 0 p1 zaa rfl zaa zaD g1
 have l1:=fun n2 n3=>oJ c hs x az.length zaa hal n2 n3 az.length 0 [] az p1 p2 zaa rfl k1 zaD g2
 have l2:=fun n3=>oK c hs az x is.length zaa hil n3 is.length 0 [] is p2 p3 zaa rfl k2 zaD g3
 have l3:=oL c hs az is x bs.length zaa hbl bs.length 0 [] bs p4 p5 zaa rfl k4 zaD g5
 simp only[List.nil_append,show((0:Nat):Int)=0 from rfl] at l0 l1 l2 l3
 have gu:=Ed x p3 0 1 zaa k3
 rw[g4] at gu
 have ge:=Jq x p4 0
 have gz:=UI x p5 0 zaa k5
 rw[g6] at gz
 refine tq ?_
 rw[hst]
 refine tq ?_
 rw[hsh]
 refine tq ?_
 rw[LW _ AA]
 refine tq ?_
 (simp only[hx,Nat.reduceAdd]);rw[l0]
 refine tq ?_
 (simp only[Nat.reduceAdd]);rw[l1]
 refine tq ?_
 (simp only[Nat.reduceAdd]);rw[l2]
 refine tq ?_
 rw[gu]
 refine tq ?_
 rw[ge]
 refine tq ?_
 rw[hct]
 conv=>lhs;whnf
 rw[DW];conv=>lhs;whnf
 rw[AL]
 conv=>lhs;whnf
 try dsimp -iota -beta -eta -zeta only
 rw[Du]
 (simp only[Nat.reduceAdd]);rw[l3]
 refine tq ?_
 rw[gz]
 exact tq rfl
theorem AC0{b r:List UInt8}{p:Nat}{x:Int}(hp:p<=b.length)(h:b.drop p=n2 x++r)(h0:0<=x/\x<65536):∃ q,Dt b p 0 2=(x,q,0)/\q<=b.length/\b.drop q=r:=by
 obtain⟨h1,h2,h3⟩:=Oe (n:=2) (x:=x) hp zaa h zaa zaa zaa
 exact⟨_,h1,h2,h3⟩
theorem AAO{b x r:List UInt8}{p:Nat}{m:Int}(hp:p<=b.length)(h:b.drop p=bl x++r)(hx:(x.length:Int)<=m)(hm:m<=65535):∃ q,Fg b p 0 m=(x,q,0)/\q<=b.length/\b.drop q=r:=by
 obtain⟨h1,h2,h3⟩:=yA (most:=m) hp h zaa hx
 exact⟨_,h1,h2,h3⟩
theorem oV{b r:List UInt8}:∀ {hs:List Int} {p:Nat},p<=b.length->b.drop p=hs.flatMap n2++r->(∀ x∈hs,0<=x/\x<=65535)->∃ q,A4p b p hs q/\q<=b.length/\b.drop q=r
 | [],p,hp,h,hm=>⟨p,rfl,hp,by simpa using h⟩
 | x::hs,p,hp,h,hm=>by
  rw[List.flatMap_cons,List.append_assoc] at h
  have hx:=hm x zat
  obtain⟨q,g1,g2,g3⟩:=AC0 hp h zaa
  obtain⟨q',k1,k2,k3⟩:=oV g2 g3 fun y hy=>hm y (by simp[hy])
  exact⟨q',⟨q,g1,k1⟩,k2,k3⟩
theorem oW{b r:List UInt8}:∀ {az:List (El AB)} {p:Nat},p<=b.length->b.drop p=az.flatMap Jt++r->(∀ x∈az,(0<=x.1/\x.1<=65535)/\x.2.1.length<=128/\x.2.2.length<=128)->∃ q,A4r b p az q/\q<=b.length/\b.drop q=r
 | [],p,hp,h,hm=>⟨p,rfl,hp,by simpa using h⟩
 | x::az,p,hp,h,hm=>by
  rw[List.flatMap_cons,Jt] at h
  simp only[List.append_assoc] at h
  have hx:=hm x zat
  obtain⟨q1,g1,g2,g3⟩:=AC0 hp h ⟨hx.1.1,Int.lt_of_le_of_lt (show(x.1:Int)<=65535 from hx.1.2) zaj⟩
  obtain⟨q2,g4,g5,g6⟩:=AAO g2 g3 (show(x.2.1.length:Int)<=128 by omega) zaa
  obtain⟨q3,g7,g8,g9⟩:=AAO g5 g6 (show(x.2.2.length:Int)<=128 by omega) zaa
  obtain⟨q',k1,k2,k3⟩:=oW g8 g9 fun y hy=>hm y (by simp[hy])
  exact⟨q',⟨q1,g1,q2,g4,q3,g7,k1⟩,k2,k3⟩
theorem oZ{b r:List UInt8}:∀ {is:List Int} {p:Nat},p<=b.length->b.drop p=is.flatMap n8++r->(∀ x∈is,0<=x/\x<=1099511627776)->∃ q,A4t b p is q/\q<=b.length/\b.drop q=r
 | [],p,hp,h,hm=>⟨p,rfl,hp,by simpa using h⟩
 | x::is,p,hp,h,hm=>by
  rw[List.flatMap_cons,List.append_assoc] at h
  have hx:=hm x zat
  obtain⟨q,g1,g2,g3⟩:=Wu hp h zaa
  obtain⟨q',k1,k2,k3⟩:=oZ g2 g3 fun y hy=>hm y (by simp[hy])
  exact⟨q',⟨by omega,q,g1,k1⟩,k2,k3⟩
theorem UY{b r:List UInt8}{m:Int}(hm0:m<=65535):∀ {bs:List (List UInt8)} {p:Nat},p<=b.length->b.drop p=bs.flatMap bl++r->(∀ x∈bs,(x.length:Int)<=m)->∃ q,vI b m p bs q/\q<=b.length/\b.drop q=r
 | [],p,hp,h,hm=>⟨p,rfl,hp,by simpa using h⟩
 | x::bs,p,hp,h,hm=>by
  rw[List.flatMap_cons,List.append_assoc] at h
  obtain⟨q,g1,g2,g3⟩:=AAO hp h (hm x zat) hm0
  obtain⟨q',k1,k2,k3⟩:=UY hm0 g2 g3 fun y hy=>hm y (by simp[hy])
  exact⟨q',⟨q,g1,k1⟩,k2,k3⟩
theorem oq(c nb:Int)(hs:List Int)(az:List (El AB))(is:List Int)(bs:List (List UInt8))(hc:0<=c/\c<=255)(hsh:Y E0 (.call 128 [.i c] [])=some (.ret (.tup [.i (hs.length:Int),.i (az.length:Int),.i (is.length:Int),.i nb,.b true]) []))(hct:Y E0 (.call 133 [.i (bs.length:Int),.i nb] [])=some (.ret (.b true) []))
  (hl:hs.length<=10) (hal:az.length<=10) (hil:is.length<=10) (hbl:bs.length<=10) (hhm:∀ x∈hs,0<=x/\x<=65535) (ham:∀ x∈az,(0<=x.1/\x.1<=65535)/\x.2.1.length<=128/\x.2.2.length<=128) (him:∀ x∈is,0<=x/\x<=1099511627776) (hbm:∀ x∈bs,x.length<=1024) (hlen:(IY c hs az is bs).length<=2048):Y E0 (.call 85 [.sl .u8 (IY c hs az is bs)] [])=some (.ret (.tup [rq c hs az is bs,.i 0]) []):=by
 obtain⟨u,v,huv⟩:=YL (5+(I4 c hs az is bs).length)
 have e:IY c hs az is bs=83::87::u::v::UInt8.ofInt c::I4 c hs az is bs:=by
  rw[IY,show n2 (5+(I4 c hs az is bs).length:Int)=Wl (5+(I4 c hs az is bs).length) from rfl,huv];rfl
 have hL:(IY c hs az is bs).length=5+(I4 c hs az is bs).length:=by rw[e];simp only[List.length_cons];omega
 have hv:=YM zaa huv
 have hib:BC .or (CJ (EJ u) (UInt64.ofNat 8).toNat) (EJ v)=((IY c hs az is bs).length:Int):=by
  have:=u.toNat_lt
  have:=v.toNat_lt
  rw[show(UInt64.ofNat 8).toNat=8 from rfl,LP,LP,xw,iC,U5];omega
 have g:∀ i:Nat,i<5->Ap (IY c hs az is bs) (i:Int)=some ([83,87,u,v,UInt8.ofInt c].getD i 0):=by
  intro i hi
  rw[DU,e]
  rcases i with _|_|_|_|_|i
  all_goals first|rfl|omega
 have hst:=A14 (IY c hs az is bs) u v (UInt8.ofInt c) zaa (g 0 zaa) (g 1 zaa) (g 2 zaa) (g 3 zaa) (g 4 zaa) hib
 have hcc:EJ (UInt8.ofInt c)=c:=by
  rw[LP]
  rw[lq zaa]
  omega
 rw[hcc] at hst
 have hx:List.take (Ak (IY c hs az is bs)-5).toNat (List.drop (Int.toNat 5) (IY c hs az is bs))=I4 c hs az is bs:=by
  rw[AP,hL,e]
  show List.take _ (I4 c hs az is bs)=_
  exact List.take_of_length_le zaa
 generalize hB:I4 c hs az is bs=x at hx hL
 have e0:x.drop 0=hs.flatMap n2++(az.flatMap Jt++(is.flatMap n8++(UInt8.ofInt (bs.length:Int)::(bs.flatMap bl++[])))):=by
  rw[List.drop_zero,<-hB,I4];simp only[List.append_assoc,List.cons_append,List.nil_append,List.append_nil]
 obtain⟨p1,g1,q1,d1⟩:=oV (Nat.zero_le _) e0 hhm
 obtain⟨p2,g2,q2,d2⟩:=oW q1 d1 ham
 obtain⟨p3,g3,q3,d3⟩:=oZ q2 d2 him
 obtain⟨g4,q4,d4⟩:=Yv q3 d3 zaa
 obtain⟨p5,g5,q5,d5⟩:=UY (m:=1024) zaa q4 d4 (fun x hx=>by have:=hbm x hx;omega)
 exact A7g (IY c hs az is bs) x c nb hs az is bs p1 p2 p3 (p3+1) p5 hst hx zaa hsh hct hl hal hil hbl g1 g2 g3 g4 g5 (YN q5 d5)
end Go.Proofs.YtlpkjhhfhannpaaGreatDoor
