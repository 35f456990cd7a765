/-
  Own texts, laid together for this claim: contracts of functions of the program and its references, used by the statements of this seat.
-/
import Derived.Test.YtanagnimhaemgaaGreatDoorKtac
import Derived.Test.YtanagnimhaemgaaGreatDoorKtad
import Derived.Test.YtanagnimhaemgaaGreatDoorKtaf
set_option linter.all false
set_option maxHeartbeats 40000000
set_option maxRecDepth 100000
namespace Go.Ax
open Go.Eng
variable (key:List UInt8)(leaf:Int)(x:UInt8)(l:List UInt8)
def XH(key:List UInt8):List UInt8:=key.take 64++(List.replicate 64 0).drop key.length
def OO(x:UInt8)(l:List UInt8):List UInt8:=l.map (· ^^^ x)
def A2q(key:List UInt8):List UInt8:=if 64<key.length then sha256 key else key
def l7(key b:List UInt8):List UInt8:=sha256 (OO (UInt8.ofNat 92) (XH (A2q key))++sha256 (OO (UInt8.ofNat 54) (XH (A2q key))++b))
def SA(n:Int):List UInt8:=[UInt8.ofInt (n/2^24),UInt8.ofInt (n/2^16),UInt8.ofInt (n/2^8),UInt8.ofInt n]
def O5(key label ctx:List UInt8)(n:Int)(j:Nat):List UInt8:=(List.range j).flatMap fun(i:Nat)=>l7 key (SA ((i:Int)+1)++(label++(0::(ctx++SA (8*n)))))
def BK(key label ctx:List UInt8)(n:Int):List UInt8:=if n<1\/1024<n then [] else(O5 key label ctx n ((n+31)/32).toNat).take n.toNat
theorem Dy:(XH key).length=64:=by simp[XH];omega
theorem DW:(OO x l).length=l.length:=by simp[OO]
theorem Dk(b:List UInt8):(l7 key b).length=32:=A7 _
theorem DY(n:Int):(SA n).length=4:=rfl
theorem DC(label ctx:List UInt8)(n:Int)(j:Nat):(O5 key label ctx n j).length=32*j:=by
 unfold O5
 induction j with
 | zero=>rfl
 | succ j ih=>rw[List.range_succ,List.flatMap_append,List.length_append,ih];simp[Dk];omega
theorem eG(label ctx:List UInt8)(n:Int)(j:Nat):O5 key label ctx n (j+1)=O5 key label ctx n j++l7 key (SA ((j:Int)+1)++(label++(0::(ctx++SA (8*n))))):=by
 unfold O5
 rw[List.range_succ,List.flatMap_append];simp
theorem Eb{key label ctx:List UInt8}{n:Int}(h:1<=n/\n<=1024):(BK key label ctx n).length=n.toNat:=by
 unfold BK
 rw[if_neg zaa,List.length_take,DC];omega
theorem A2r(i:Nat)(hi:i<l.length):(OO x (l.take i)++l.drop i).set i (l[i]^^^x)=OO x (l.take (i+1))++l.drop (i+1):=by
 have h1:(OO x (l.take i)).length=i:=by rw[DW,List.length_take];omega
 rw[List.set_append,if_neg zaa,h1,Nat.sub_self,List.drop_eq_getElem_cons hi,List.set_cons_zero,List.take_succ_eq_append_getElem hi]
 simp only[OO,List.map_append,List.map_cons,List.map_nil,List.append_assoc,List.cons_append,List.nil_append]
theorem wR(i:Nat)(hi:i<l.length)(hl:l.length=64):(OO x (l.take i)++List.replicate (64-i) 0).set i (l[i]^^^x)=OO x (l.take (i+1))++List.replicate (64-(i+1)) 0:=by
 have h1:(OO x (l.take i)).length=i:=by rw[DW,List.length_take];omega
 rw[List.set_append,if_neg zaa,h1,Nat.sub_self,show 64-i=(64-(i+1))+1 from by omega,List.replicate_succ,List.set_cons_zero,List.take_succ_eq_append_getElem hi]
 simp only[OO,List.map_append,List.map_cons,List.map_nil,List.append_assoc,List.cons_append,List.nil_append]
def hiN(b:UInt8):Int:=((b.toNat/16:Nat):Int)
def loN(b:UInt8):Int:=((b.toNat%16:Nat):Int)
def uM(l:List UInt8):List Int:=l.flatMap fun b=>[hiN b,loN b]
def eH:List UInt8->Int
 | []=>0
 | b::l=>30-hiN b-loN b+eH l
def A55(h:List UInt8):List Int:=uM h++[eH h/256,eH h/16%16,eH h%16]
def uN(m:List UInt8):List UInt8:=(sha256 (Af 4 [m])).take 16
def Lu(m:List UInt8):List Int:=A55 (uN m)
def eP(leaf c p:Int)(x:List UInt8):List UInt8:=(sha256 (Af 1 [[UInt8.ofInt leaf,UInt8.ofInt c,UInt8.ofInt p],x])).take 16
def U7:Nat->Int->Int->Int->List UInt8->List UInt8
 | 0,_,_,_,x=>x
 | n+1,leaf,c,p,x=>U7 n leaf c (p+1) (eP leaf c p x)
def Me(seed:List UInt8)(leaf c:Int):List UInt8:=BK seed [99,104,97,105,110] [UInt8.ofInt leaf,UInt8.ofInt c] 16
def WU(leaf:Int)(x:List UInt8):List UInt8:=(sha256 (Af 2 [[UInt8.ofInt leaf],x])).take 16
theorem Lh:∀ l:List UInt8,(uM l).length=2*l.length
 | []=>rfl
 | b::l=>by have:=Lh l;simp only[uM] at *;simp[this];omega
theorem NS(m:List UInt8):(uN m).length=16:=by simp[uN,A7]
theorem Jv(c p:Int)(x:List UInt8):(eP leaf c p x).length=16:=by simp[eP,A7]
theorem U8:∀(n:Nat) (leaf c p:Int) (x:List UInt8),x.length=16->(U7 n leaf c p x).length=16
 | 0,_,_,_,x,h=>h
 | n+1,leaf,c,p,x,h=>U8 n leaf c (p+1) _ (Jv _ _ _ _)
theorem JD(seed:List UInt8)(leaf c:Int):(Me seed leaf c).length=16:=Eb zaa
theorem l9(x:List UInt8):(WU leaf x).length=16:=by simp[WU,A7]
def QD(leaf:Int)(st:Nat->List UInt8)(fr to:Nat->Int)(n:Nat):List UInt8:=(List.range n).flatMap fun(c:Nat)=>U7 (to c-fr c).toNat leaf c (fr c) (st c)
theorem WV(st:Nat->List UInt8)(fr to:Nat->Int)(n:Nat):QD leaf st fr to (n+1)=QD leaf st fr to n++U7 (to n-fr n).toNat leaf n (fr n) (st n):=by
 unfold QD;rw[List.range_succ,List.flatMap_append];simp
theorem YI(leaf:Int)(st:Nat->List UInt8)(fr to:Nat->Int)(m:Nat)(hs:∀ c,c<m->(st c).length=16):∀ n,n<=m->(QD leaf st fr to n).length=16*n
 | 0,_=>rfl
 | n+1,h=>by rw[WV,List.length_append,YI leaf st fr to m hs n zaa,U8 _ _ _ _ _ (hs n zaa)];omega
def Ku(seed:List UInt8)(leaf:Int):List UInt8:=if 0<=leaf/\leaf<=255 then WU leaf (QD leaf (fun c=>Me seed leaf c) (fun c=>0) (fun c=>15) 35) else []
def A42(seed:List UInt8)(leaf:Int)(m:List UInt8):List UInt8:=if 0<=leaf/\leaf<=255 then QD leaf (fun c=>Me seed leaf c) (fun c=>0) (fun c=>(Lu m).getD c 0) 35 else []
def A6E(leaf:Int)(m sig:List UInt8):List UInt8×Bool:=if(0<=leaf/\leaf<=255)/\sig.length=560 then(WU leaf (QD leaf (fun c=>(sig.drop (16*c)).take 16) (fun c=>(Lu m).getD c 0) (fun c=>15) 35),true) else([],false)
def Ze:List Int->Int
 | []=>0
 | x::l=>15-x+Ze l
theorem U9:∀ l:List UInt8,Ze (uM l)=eH l
 | []=>rfl
 | b::l=>by
  have:=U9 l
  simp only[uM] at *
  simp only[List.flatMap_cons,List.cons_append,List.nil_append,Ze,eH,this];omega
theorem O6(m:List UInt8):(uM (uN m)).length=32:=by rw[Lh,NS]
def KN:List Int->List Int->Bool
 | a::x,b::y=>decide (b<a)||KN x y
 | _,_=>false
theorem WW:∀ x:List Int,KN x x=false
 | []=>rfl
 | a::x=>by simp[KN,WW x]
theorem YJ:∀(x1 y1 x2 y2:List Int),x1.length=y1.length->KN (x1++x2) (y1++y2)=(KN x1 y1||KN x2 y2)
 | [],[],x2,y2,_=>by simp[KN]
 | a::x1,b::y1,x2,y2,h=>by simp only[List.cons_append,KN,YJ x1 y1 x2 y2 zaJ,Bool.or_assoc]
 | [],b::y1,x2,y2,h|a::x1,[],x2,y2,h=>zaY
theorem A03:∀(x y:List Int),x.length=y.length->KN x y=false->Ze y<=Ze x/\(Ze x=Ze y->x=y)
 | [],[],_,_=>by simp[Ze]
 | a::x,b::y,h,hg=>by
  simp only[KN,Bool.or_eq_false_iff,decide_eq_false_iff_not] at hg
  obtain⟨h1,h2⟩:=A03 x y zaJ hg.2
  simp only[Ze]
  refine⟨by omega,fun e=>?_⟩
  obtain rfl:a=b:=zaa
  rw[h2 zaa]
 | [],b::y,h,_|a::x,[],h,_=>zaY
theorem A04(a b:List UInt8)(h:KN (Lu a) (Lu b)=false):Lu a=Lu b:=by
 unfold Lu A55 at h
 rw[YJ _ _ _ _ (by rw[O6,O6]),Bool.or_eq_false_iff] at h
 obtain⟨h1,h2⟩:=h
 obtain⟨h3,h4⟩:=A03 _ _ (by rw[O6,O6]) h1
 rw[U9,U9] at h3 h4
 simp only[KN,Bool.or_eq_false_iff,decide_eq_false_iff_not] at h2
 have e:eH (uN a)=eH (uN b):=zaa
 unfold Lu A55
 rw[h4 e,e]
theorem cross(a b:List UInt8):(KN (Lu a) (Lu b)==KN (Lu b) (Lu a))=true/\(KN (Lu a) (Lu b) != decide (Lu a=Lu b))=true:=by
 by_cases h:Lu a=Lu b
 ·rw[h,WW];simp
 ·cases h1:KN (Lu a) (Lu b)
  ·exact absurd (A04 a b h1) h
  ·cases h2:KN (Lu b) (Lu a)
   ·exact absurd (A04 b a h2).symm h
   ·simp[h]
end Go.Ax
namespace Go.Proofs.YtanagnimhaemgaaGreatDoor
open Go Go.Ax Go.Eng
variable (key:List UInt8)
section
attribute [local irreducible] Bl CS CU CJ Bh Ak CV Du EN E5 EH Be BN CE Bz and' CG CO BC Ag Ar BF BG AY Aa AP AX CW Dv CX DT C9 BJ BD BA BB Au AQ Az Ac Aw Ah CY BL Bi BR BI CB CZ CP fits Cb CQ A8 AA AZ
theorem SB(b:UInt8)(key l:List UInt8)(hl:l.length=64):∀(k i:Nat),i+k=64->Y E0 (.loop 177 0 1 2 [(0,.u8 b),(4,.nm 1),(10,.i i)] [(0,some (.var [.sl .u8 key])),(1,some (.row 5 .u8 (OO b (l.take i)++l.drop i)))])=some (.fin (.exit 0) 2 [(4,.nm 1)] [(0,some (.var [.sl .u8 key])),(1,some (.row 5 .u8 (OO b l)))])
 | 0,i,hi=>by
  rw[List.take_of_length_le zaa,List.drop_eq_nil_of_le zaa,List.append_nil]
  rw[AU];conv=>lhs;whnf
  exact BM rfl
 | k+1,i,hi=>by
  have ih:=SB b key l hl k (i+1) zaa
  have hs:=A2r b l i zaa
  have hl2:(OO b (l.take i)++l.drop i).length=64:=by simp[DW];omega
  have hg:Ah (OO b (l.take i)++l.drop i) (i:Int)=some (l[i]'zaa):=by
   rw[D5,List.getElem?_append_right (by simp[DW];omega)];simp[DW,show min i l.length=i from by omega]
  rw[AU];conv=>lhs;whnf
  refine toA ?_
  rw[hg]
  refine toA ?_
  rw[hg]
  refine BM ?_
  refine(congrArg (Y E0) ?_).trans ih;(try simp only[Rq.loop.injEq,Rq.call.injEq,Rq.ops.injEq,List.cons.injEq,Prod.mk.injEq,AV.i.injEq,AV.sl.injEq,AV.st.injEq,AV.b.injEq,AV.u8.injEq,AV.nm.injEq,Option.some.injEq,Rs.row.injEq,Rs.var.injEq,heq_eq_eq,true_and,and_true]);(try(repeat' apply And.intro));all_goals first|(with_reducible rfl)|omega|(rw[D7 zaa];omega)|(rw[EI zaa];omega)|(rw[EU,dZ];exact hs)
theorem VF(b:UInt8)(key:List UInt8):Y E0 (.call 177 [.u8 b,.pa 0 0] [.var [.sl .u8 key]])=some (.ret (.nm 1) [some (.var [.sl .u8 key]),some (.row 5 .u8 (OO b (XH key)))]):=by
 have h0:=SB b key (XH key) (Dy key) 64 0 zaa
 have hp:CB (BR 64 0) key=XH key:=by rw[Za,FO];simp[XH]
 rw[List.take_zero,List.drop_zero,show OO b []++XH key=XH key from rfl,show((0:Nat):Int)=0 from rfl] at h0
 refine BM ?_
 rw[hp,h0]
 exact BM rfl
theorem A54(b:List UInt8)(hk:key.length<=4294967296)(hb:b.length<=4294900000):Y E0 (.call 151 [.sl .u8 key,.sl .u8 b] [])=some (.ret (.sl .u8 (l7 key b)) []):=by
 by_cases hc:64<key.length
 ·have hkb:A2q key=sha256 key:=if_pos hc
  unfold l7
  rw[hkb]
  refine BM ?_
  rw[JO _ Bq]
  refine BM ?_
  rw[VF ..]
  conv=>lhs;whnf
  rw[EF zal]
  conv=>lhs;whnf
  try dsimp -iota -beta -eta -zeta only
  rw[Aj]
  rw[JO _ zal]
  refine BM ?_
  rw[VF ..]
  conv=>lhs;whnf
  rw[EF zal]
  conv=>lhs;whnf
  try dsimp -iota -beta -eta -zeta only
  rw[Aj]
  rw[JO _ zal]
  refine BM ?_
  simp only[NO];try with_reducible rfl
 ·have hkb:A2q key=key:=if_neg hc
  unfold l7
  rw[hkb]
  refine BM ?_
  rw[VF ..]
  conv=>lhs;whnf
  rw[EF zal]
  conv=>lhs;whnf
  try dsimp -iota -beta -eta -zeta only
  rw[Aj]
  rw[JO _ zal]
  refine BM ?_
  rw[VF ..]
  conv=>lhs;whnf
  rw[EF zal]
  conv=>lhs;whnf
  try dsimp -iota -beta -eta -zeta only
  rw[Aj]
  rw[JO _ zal]
  refine BM ?_
  simp only[NO];try with_reducible rfl
theorem ou(n:Int):Y E0 (.call 150 [.i n] [])=some (.ret (.nm 0) [some (.row 5 .u8 (SA n))]):=by
 refine BM ?_
 rw[J7 zac,J7 zac,J7 zac];simp only[EM];rfl
theorem Ov(key label ctx:List UInt8)(n:Int)(hk:key.length<=4294967296)(hl:label.length<=1000)(hc:ctx.length<=1000000)(hn:1<=n/\n<=1024):∀(k j:Nat),j+k=((n+31)/32).toNat ->
  Y E0 (.loop 116 0 0 1 [(0,.sl .u8 key),(3,.i n),(9,.sl .u8 (label++(0::(ctx++SA (8*n))))),(10,.nm 0),(11,.i (j+1))] [(0,some (.row 5 .u8 (O5 key label ctx n j)))])=some (.fin (.exit 0) 0 [(3,.i n),(10,.sl .u8 (O5 key label ctx n ((n+31)/32).toNat))] [])
 | 0,j,hj=>by
  rw[show((n+31)/32).toNat=j from by omega]
  rw[AU];conv=>lhs;whnf
  rw[Iw zal]
  conv=>lhs;whnf
 | k+1,j,hj=>by
  have ih:=Ov key label ctx n hk hl hc hn k (j+1) zaa
  rw[eG,show((j+1:Nat):Int)+1=(j:Int)+1+1 from by omega] at ih
  rw[AU];conv=>lhs;whnf
  rw[Dn zal]
  conv=>lhs;whnf
  try dsimp -iota -beta -eta -zeta only
  rw[Aj]
  rw[ou _]
  conv=>lhs;whnf
  rw[EF zal]
  conv=>lhs;whnf
  try dsimp -iota -beta -eta -zeta only
  rw[Aj]
  rw[A54 _ _ zaa zal]
  conv=>lhs;whnf
  rw[EF zal]
  conv=>lhs;whnf
  try dsimp -iota -beta -eta -zeta only
  rw[D7 zaa]
  refine(congrArg (Y E0) ?_).trans ih;(try simp only[Rq.loop.injEq,Rq.call.injEq,Rq.ops.injEq,List.cons.injEq,Prod.mk.injEq,AV.i.injEq,AV.sl.injEq,AV.st.injEq,AV.b.injEq,AV.u8.injEq,AV.nm.injEq,Option.some.injEq,Rs.row.injEq,Rs.var.injEq,heq_eq_eq,true_and,and_true]);(try(repeat' apply And.intro));all_goals first|(with_reducible rfl)|omega|(rw[D7 zaa];omega)|(rw[EI zaa];omega)|(simp only[Ap])
theorem FV(label ctx:List UInt8)(n:Int)(hk:key.length<=4294967296)(hl:label.length<=1000)(hc:ctx.length<=1000000):Y E0 (.call 116 [.sl .u8 key,.str label,.sl .u8 ctx,.i n] [])=some (.ret (.sl .u8 (BK key label ctx n)) []):=by
 have he:BI (BI (BI label [UInt8.ofNat 0]) ctx) (SA (8*n))=label++(0::(ctx++SA (8*n))):=by simp only[Ap,List.append_assoc,List.cons_append,List.nil_append];rfl
 refine BM ?_
 rcases DU n 1 with hc0|hc0
 ·
  refine BM ?_
  unfold BK;(repeat(first|rw[if_pos zao]|rw[if_neg zao]));try rfl
 refine BM ?_
 rcases DU 1024 n with hc1|hc1
 ·
  refine BM ?_
  unfold BK;(repeat(first|rw[if_pos zao]|rw[if_neg zao]));try rfl
 refine BM ?_
 rw[ou _]
 conv=>lhs;whnf
 rw[EF zal]
 conv=>lhs;whnf
 try dsimp -iota -beta -eta -zeta only
 rw[Eo]
 have h0:=Ov key label ctx n hk hl hc zaa _ 0 (Nat.zero_add _);rw[show((0:Nat):Int)+1=1 from rfl,show O5 key label ctx n 0=[] from rfl] at h0;rw[he,h0]
 conv=>lhs;whnf
 rw[Ep zaa]
 conv=>lhs;whnf
 rw[QX zal]
 conv=>lhs;whnf
 unfold BK;(repeat(first|rw[if_pos zao]|rw[if_neg zao]));try rfl
end
end Go.Proofs.YtanagnimhaemgaaGreatDoor
