/-
  Own texts, laid together for this claim: contracts of functions of the program and its references, used by the statements of this seat.
-/
import Derived.Test.YtnhgnfdbdflhcaaGreatDoorMtab
import Derived.Test.YtnhgnfdbdflhcaaGreatDoorMtad
import Derived.Test.YtnhgnfdbdflhcaaGreatDoorMtae
import Derived.Test.YtnhgnfdbdflhcaaGreatDoorMtaf
import Derived.Test.YtnhgnfdbdflhcaaGreatDoorMtah
import Derived.Test.YtnhgnfdbdflhcaaGreatDoorMtai
import Derived.Test.YtnhgnfdbdflhcaaGreatDoorMtaj
import Derived.Test.YtnhgnfdbdflhcaaGreatDoorMtas
import Derived.Test.YtnhgnfdbdflhcaaGreatDoorMtau
import Derived.Test.YtnhgnfdbdflhcaaGreatDoorMtav
import Derived.Test.YtnhgnfdbdflhcaaGreatDoorMtaz
import Derived.Test.YtnhgnfdbdflhcaaGreatDoorMtbf
import Derived.Test.YtnhgnfdbdflhcaaGreatDoorMtbg
import Derived.Test.YtnhgnfdbdflhcaaGreatDoorMtbl
import Derived.Test.YtnhgnfdbdflhcaaGreatDoorMtbo
import Derived.Test.YtnhgnfdbdflhcaaGreatDoorMtbp
import Derived.Test.YtnhgnfdbdflhcaaGreatDoorMtbx
set_option linter.all false
set_option maxHeartbeats 40000000
set_option maxRecDepth 100000
namespace Go.Proofs.YtnhgnfdbdflhcaaGreatDoor
open Go Go.Ax Go.Eng
section
attribute [local irreducible] Cc Dn D7 DU DD BA Dp F7 FY FD Ez Ci CS DK DV and' DW DL C9 BR Bh CB CG BG BI Aw BC Dq Fh Dt ER DX Bl CE Bv Bz Bi Az Bg BK Bj BO Du Bc DF BZ BM Cj Di fits Dv Dk Ac Am BH
attribute [local irreducible] Dw CJ Be nameB EL Eh Ar ET E8 Ea ES F8 BV GX Eg Fv FU EE Fa Ej Ho I5 En NE jf X7
theorem ag(cs:List UInt8)(mask:Int)(m o:List UInt8):Y E0 (.call 3 [.sl .u8 cs,.i mask,.sl .u8 m,.sl .u8 o] [])=some (.ret (.b true) []):=by
 by_cases hm:m.length<=128
 ·obtain⟨⟨sd,au,en,ac,re,rs,ck,od,sb,su,mc,ix,l1,l2,l3,l4,l5,l6,ks,st,sp,rb,ru,vc,sf,dr,ss,ob,rl,wl⟩,⟨hi,hst⟩,hS⟩:=XB 2 cs [] zal
  have hsd:=hi.sdl
  have hsm:=hi.sdm
  have hre:=hi.re
  have hrs:=hi.rs
  have hru:=hi.ru
  have hvc:=hi.vc
  obtain⟨b0,b1,hrb,h0,hb1⟩:∃ b0 b1,rb=[b0,b1]/\(b0=[]\/Fg 20 b0)/\Fg 32 b1:=by
   rcases hi.rb with h|⟨b0,b1,h,h0,h1,h2⟩
   ·exact absurd h (hi.st hst zal)
   ·exact⟨b0,b1,h,h0,h2 zal⟩
  subst hrb
  dsimp only at hsd hsm hre hrs hru hvc
  have hb16:=hb1.1
  have e3:BA .and mask 65535=mask%65536:=Jp 16 zal mask
  have hmk:0<=mask%65536/\mask%65536<=65535:=zaa
  generalize mask%65536=mk at e3 hmk
  have hD:Y E0 (.call 46 [.agg [.sl (.sl (.sl .u8)) [b0,b1],.i ru],.agg [.i 0,.i mk]] [])=some (.ret (.tup [.sl .u8 (X7 0 mk b0 b1),.i 0]) []):=by
   rcases zK b0 b1 ru 0 mk h0 (.inr hb1) with⟨e,he,hr⟩|⟨-,hr⟩
   ·exact absurd he zaa
   ·exact hr
  have hR:Y E0 (.call 54 [.agg [.sl (.sl (.sl .u8)) [b0,b1],.i ru],.agg [.i 0,.i mk]] [])=some (.ret (.tup [.sl .u8 (X7 0 mk b0 b1),.i 0]) []):=by
   rcases o9 b0 b1 ru 0 mk h0 (.inr hb1) with⟨e,he,hr⟩|⟨-,hr⟩
   ·exact absurd he.2 zaa
   ·exact hr
  have hd32:(X7 0 mk b0 b1).length=32:=by unfold X7;exact A8 _
  generalize X7 0 mk b0 b1=d at hD hR hd32
  have hso:=AP o
  have hk:CV ⟨2,5,0,CJ o,List.replicate (uniq 2).toNat 0⟩=0:=by
   unfold CV
   simp only[hso,List.length_replicate];rw[if_neg zal,if_neg zal,if_neg zal]
  obtain⟨S,-,hS1,hp⟩:=yh (sd:=sd) (ob:=List.replicate 3 obj0) (h:=0) (k:=2) (a:=5) (t:=0) (o:=CJ o) (auth:=[]) (d:=[]) zaa zal hk zam zam zam;rw[show EW (List.replicate 3 obj0)=0 from rfl,show Eh 2 0 ⟨[],S,[]⟩=En S 0 by rw[Eh,if_pos rfl],show(512:Int)+((0:Nat):Int)=512 from rfl] at hp
  have hz:BZ 3 (((0,0,0,[],[]),([],[],[]),0):El objT)=List.replicate 3 obj0:=zbO
  have hK:CV ⟨2,5,0,CJ o,En S 0⟩=0:=by
   have h:=zN (seed:=S) (o:=o) (t:=0)
   rwa [bJ,show Ti 0=5 from by decide] at h
  have hU:=VD (seed:=S) (h:=0) zal
  have hE:=Hf (p:=⟨2,5,0,CJ o,En S 0⟩) (by show(CJ o).length<=65535;omega) (by show(En S 0).length<=65535;omega)
  have hE2:(EL ⟨2,5,0,CJ o,En S 0⟩).length<=4294967296:=by rw[hE];show 7+(CJ o).length+(En S 0).length<=4294967296;omega
  clear hE
  have hn:=Aa ⟨2,5,0,CJ o,En S 0⟩
  have hR0:EE [] (En S 0) 0=([(En S 0,1)],0,0):=by unfold EE;rfl
  have hx:Dl ((List.replicate 3 obj0).set 0 ((2,5,0,CJ o,En S 0),([],S,[]),0)) (512+0)=some ((2,5,0,CJ o,En S 0),([],S,[]),0):=rfl
  have h4:BA .and 5 4≠0:=by rw[Ak];decide
  obtain⟨A,hA⟩:∃ A:Att,A=⟨nameB ⟨2,5,0,CJ o,En S 0⟩,m,re,rs,vc,sf,ru,0,mk,d⟩:=⟨_,rfl⟩
  have hAk:A.key=nameB ⟨2,5,0,CJ o,En S 0⟩:=by rw[hA]
  have hAok:OkA A:=by
   rw[hA];exact⟨hn,hm,(by show 0<=re/\re<9223372036854775808;omega),(by show 0<=rs/\rs<9223372036854775808;omega),(by show 0<=vc/\vc<9223372036854775808;omega),(by show 0<=ru/\ru<9223372036854775808;omega),(by show(0:Int)<=0/\(0:Int)<65536;decide),(by show 0<=mk/\mk<65536;omega),hd32⟩
  have hAl:=SE A (by rw[hAk,hn];decide) (by rw[hA];show m.length<=10000;omega) (by rw[hA];show d.length<=10000;omega)
  have hV:jf ⟨2,5,0,CJ o,En S 0⟩ (FU A) (Eg S 0 0 (FU A))=(A,0,0):=by
   have h:=A7T (o:=o) (t:=0) (A3M (seed:=S) (m:=FU A) (h:=0) (leaf:=0) zal zal) (A50 hAok)
   rw[bJ,show Ti 0=5 from by decide,if_pos hAk] at h;exact h
  have hq:=Vg sd au en ac re rs ck od sb su mc ix l1 l2 l3 l4 l5 l6 [] st sp [b0,b1] ru vc sf dr ss ((List.replicate 3 obj0).set 0 ((2,5,0,CJ o,En S 0),([],S,[]),0)) rl wl 15 (512+0) 0 mk [] [] m [] 2 5 0 (CJ o) (En S 0) [] S [] 0 d zam zal zal hx rfl h4 hm zal zal zam zaa zaa zaa (by rw[hR0]) zaa hD
  have hr:=XA sd au en ac re rs ck od sb su mc ix l1 l2 l3 l4 l5 l6 [] st sp [b0,b1] ru vc sf dr ss ((List.replicate 3 obj0).set 0 ((2,5,0,CJ o,En S 0),([],S,[]),0)) rl wl 15 (512+0) 0 mk [] [] m [] 2 5 0 (CJ o) (En S 0) [] S [] 0 d 0 zam zal zal hx zal zal zam zaa zaa zaa zaa zaa hR
  have hqa:Ej [] 2 5 0 (En S 0) S m 0 A=([(En S 0,1)],⟨0,[],[FU A,Eg S 0 0 (FU A)]⟩):=by
   unfold Ej
   rw[if_neg zal,if_neg h4,if_neg zaa,if_neg zal,hR0,if_neg (fun h=>h rfl)]
  rw[<-hA,hR0] at hq;rw[<-hA,hqa] at hr
  have hAX:Qu A=Qu ⟨nameB ⟨2,5,0,CJ o,En S 0⟩,m,re,rs,vc,sf,ru,0,mk,d⟩:=by rw[hA]
  have hsl:=QR (seed:=S) (m:=FU A) (h:=0) (leaf:=0) zal zal
  refine tq ?_;rw[PS];refine tq ?_;rw[hS]
  conv=>lhs;whnf
  try dsimp -iota -beta -eta -zeta only
  rw[hz];refine tq ?_;rw[IK _];refine tq ?_;rw[Qr ..];refine tq ?_;rw[VY _ _ _ _ _ _ _ _ _ _ _ _ _ _ _ _ _ _ _ _ _ _ _ _ _ _ _ _ _ _ _ _ _ _ _ _ _ _ _ _ zam zaa (fun l hl=>by rw[hsm l hl];decide) zam zaa zam,hp]
  refine tq ?_;rw[X4 _ hE2,A3O hK];refine tq ?_;rw[yu _ _ _ A7]
  conv=>lhs;whnf
  try dsimp -iota -beta -eta -zeta only
  rw[e3];refine tq ?_;rw[hq];refine tq ?_;rw[qh _ _ _ _ _ _ _ zaa zaa zaa,hV,hAX];refine tq ?_;rw[hr];refine tq ?_;rw[Bq _ _ A7]
  conv=>lhs;whnf
  rw[Ad]
  conv=>lhs;whnf
  rw[decide_eq_true rfl];conv=>lhs;whnf
  rw[EH zaa]
  conv=>lhs;whnf
  rw[EH zaa]
  conv=>lhs;whnf
  rw[Ad]
  conv=>lhs;whnf
  rw[EH zaa]
  conv=>lhs;whnf
  rw[QO (by simp[Dz,WX,DT])];conv=>lhs;whnf
  rw[EH zaa]
  conv=>lhs;whnf
  try dsimp -iota -beta -eta -zeta only
  rw[Gm zaa]
  conv=>lhs;whnf
  rw[EZ zaa]
  conv=>lhs;whnf
  rw[e3];refine tq ?_;rw[OM _ _ A7 A7]
  conv=>lhs;whnf
  simp
 ·refine tq ?_;rw[PS];exact tq rfl
end
end Go.Proofs.YtnhgnfdbdflhcaaGreatDoor
