/-
  Own texts, laid together for this claim: contracts of functions of the program and its references, used by the statements of this seat.
-/
import Derived.Test.YtnhgnfdbdflhcaaGreatDoorMtab
import Derived.Test.YtnhgnfdbdflhcaaGreatDoorMtac
import Derived.Test.YtnhgnfdbdflhcaaGreatDoorMtad
set_option linter.all false
set_option maxHeartbeats 40000000
set_option maxRecDepth 100000
namespace Go.Ax
open Go.Eng
variable (key:List UInt8)(x:UInt8)(l:List UInt8)(i:Nat)
def OO(key:List UInt8):List UInt8:=key.take 64++(List.replicate 64 0).drop key.length
def KN(x:UInt8)(l:List UInt8):List UInt8:=l.map (· ^^^ x)
def A0J(key:List UInt8):List UInt8:=if 64<key.length then sha256 key else key
def ZW(key b:List UInt8):List UInt8:=sha256 (KN (UInt8.ofNat 92) (OO (A0J key))++sha256 (KN (UInt8.ofNat 54) (OO (A0J key))++b))
def Sr(n:Int):List UInt8:=[UInt8.ofInt (n/2^24),UInt8.ofInt (n/2^16),UInt8.ofInt (n/2^8),UInt8.ofInt n]
def Ls(key label ctx:List UInt8)(n:Int)(j:Nat):List UInt8:=(List.range j).flatMap fun(i:Nat)=>ZW key (Sr ((i:Int)+1)++(label++(0::(ctx++Sr (8*n)))))
def Dw(key label ctx:List UInt8)(n:Int):List UInt8:=if n<1\/1024<n then [] else(Ls key label ctx n ((n+31)/32).toNat).take n.toNat
theorem BX:(OO key).length=64:=by simp[OO];omega
theorem Bd:(KN x l).length=l.length:=by simp[KN]
theorem BU(b:List UInt8):(ZW key b).length=32:=A8 _
theorem Ba(n:Int):(Sr n).length=4:=rfl
theorem BN(label ctx:List UInt8)(n:Int)(j:Nat):(Ls key label ctx n j).length=32*j:=by
 unfold Ls
 induction j with
 | zero=>rfl
 | succ j ih=>rw[List.range_succ,List.flatMap_append,List.length_append,ih];simp[BU];omega
theorem XX(label ctx:List UInt8)(n:Int)(j:Nat):Ls key label ctx n (j+1)=Ls key label ctx n j++ZW key (Sr ((j:Int)+1)++(label++(0::(ctx++Sr (8*n))))):=by
 unfold Ls
 rw[List.range_succ,List.flatMap_append];simp
theorem Ff{key label ctx:List UInt8}{n:Int}(h:1<=n/\n<=1024):(Dw key label ctx n).length=n.toNat:=by
 unfold Dw
 rw[if_neg zaa,List.length_take,BN];omega
theorem A5M(hi:i<l.length):(KN x (l.take i)++l.drop i).set i (l[i]^^^x)=KN x (l.take (i+1))++l.drop (i+1):=by
 have h1:(KN x (l.take i)).length=i:=by rw[Bd,List.length_take];omega
 rw[List.set_append,if_neg zaa,h1,Nat.sub_self,List.drop_eq_getElem_cons hi,List.set_cons_zero,List.take_succ_eq_append_getElem hi]
 simp only[KN,List.map_append,List.map_cons,List.map_nil,List.append_assoc,List.cons_append,List.nil_append]
theorem A3C(hi:i<64):(OO key)[i]'(by rw[BX];exact hi)=if h:i<key.length then key[i] else 0:=by
 unfold OO
 by_cases h:i<key.length
 ·rw[List.getElem_append_left zaC,dif_pos h];simp
 ·rw[List.getElem_append_right zaC,dif_neg h,List.getElem_drop,List.getElem_replicate]
theorem YV(hi:i<l.length)(hl:l.length=64):(KN x (l.take i)++List.replicate (64-i) 0).set i (l[i]^^^x)=KN x (l.take (i+1))++List.replicate (64-(i+1)) 0:=by
 have h1:(KN x (l.take i)).length=i:=by rw[Bd,List.length_take];omega
 rw[List.set_append,if_neg zaa,h1,Nat.sub_self,show 64-i=(64-(i+1))+1 from by omega,List.replicate_succ,List.set_cons_zero,List.take_succ_eq_append_getElem hi]
 simp only[KN,List.map_append,List.map_cons,List.map_nil,List.append_assoc,List.cons_append,List.nil_append]
end Go.Ax
namespace Go.Proofs.YtnhgnfdbdflhcaaGreatDoor
open Go Go.Ax Go.Eng
variable (key:List UInt8)(n:Int)
section
attribute [local irreducible] Cc Dn D7 DU DD BA Dp F7 FY FD Ez Ci CS DK DV and' DW DL C9 BR Bh CB CG BG BI Aw BC Dq Fh Dt ER DX Bl CE Bv Bz Bi Az Bg BK Bj BO Du Bc DF BZ BM Cj Di fits Dv Dk Ac Am BH
theorem V7(b:UInt8)(key l:List UInt8)(hl:l.length=64):∀(k i:Nat),i+k=64->Y E0 (.loop 160 0 1 2 [(0,.u8 b),(4,.nm 1),(10,.i i)] [(0,some (.var [.sl .u8 key])),(1,some (.row 5 .u8 (KN b (l.take i)++l.drop i)))])=some (.fin (.exit 0) 2 [(4,.nm 1)] [(0,some (.var [.sl .u8 key])),(1,some (.row 5 .u8 (KN b l)))])
 | 0,i,hi=>by
  rw[List.take_of_length_le zaa,List.drop_eq_nil_of_le zaa,List.append_nil]
  rw[Ad];conv=>lhs;whnf
  exact BF rfl
 | k+1,i,hi=>by
  have ih:=V7 b key l hl k (i+1) zaa
  have hs:=A5M b l i zaa
  have hl2:(KN b (l.take i)++l.drop i).length=64:=by simp[Bd];omega
  have hg:BO (KN b (l.take i)++l.drop i) (i:Int)=some (l[i]'zaa):=by
   rw[OI,List.getElem?_append_right (by simp[Bd];omega)];simp[Bd,show min i l.length=i from by omega]
  rw[Ad];conv=>lhs;whnf
  refine toA ?_
  rw[hg]
  refine toA ?_
  rw[hg]
  refine BF ?_
  refine(congrArg (Y E0) ?_).trans ih;(try simp only[Rq.loop.injEq,Rq.call.injEq,Rq.ops.injEq,List.cons.injEq,Prod.mk.injEq,AV.i.injEq,AV.sl.injEq,AV.st.injEq,AV.b.injEq,AV.u8.injEq,AV.nm.injEq,Option.some.injEq,Rs.row.injEq,Rs.var.injEq,heq_eq_eq,true_and,and_true]);(try(repeat' apply And.intro));all_goals first|(with_reducible rfl)|omega|(rw[Au zaa];omega)|(rw[CY zaa];omega)|(rw[GG,LV];exact hs)
theorem YF(b:UInt8)(key:List UInt8):Y E0 (.call 160 [.u8 b,.pa 0 0] [.var [.sl .u8 key]])=some (.ret (.nm 1) [some (.var [.sl .u8 key]),some (.row 5 .u8 (KN b (OO key)))]):=by
 have h0:=V7 b key (OO key) (BX key) 64 0 zaa
 have hp:Cj (BZ 64 0) key=OO key:=by rw[Na,FH];simp[OO]
 rw[List.take_zero,List.drop_zero,show KN b []++OO key=OO key from rfl,show((0:Nat):Int)=0 from rfl] at h0
 refine BF ?_
 rw[hp,h0]
 exact BF rfl
theorem A3D(b:List UInt8)(hk:key.length<=4294967296)(hb:b.length<=4294900000):Y E0 (.call 93 [.sl .u8 key,.sl .u8 b] [])=some (.ret (.sl .u8 (ZW key b)) []):=by
 by_cases hc:64<key.length
 ·have hkb:A0J key=sha256 key:=if_pos hc
  unfold ZW
  rw[hkb]
  refine BF ?_
  rw[Jr _ CW]
  refine BF ?_
  rw[YF ..]
  conv=>lhs;whnf
  rw[Dy zak]
  conv=>lhs;whnf
  try dsimp -iota -beta -eta -zeta only
  rw[AQ]
  rw[Jr _ zak]
  refine BF ?_
  rw[YF ..]
  conv=>lhs;whnf
  rw[Dy zak]
  conv=>lhs;whnf
  try dsimp -iota -beta -eta -zeta only
  rw[AQ]
  rw[Jr _ zak]
  refine BF ?_
  simp only[NO];try with_reducible rfl
 ·have hkb:A0J key=key:=if_neg hc
  unfold ZW
  rw[hkb]
  refine BF ?_
  rw[YF ..]
  conv=>lhs;whnf
  rw[Dy zak]
  conv=>lhs;whnf
  try dsimp -iota -beta -eta -zeta only
  rw[AQ]
  rw[Jr _ zak]
  refine BF ?_
  rw[YF ..]
  conv=>lhs;whnf
  rw[Dy zak]
  conv=>lhs;whnf
  try dsimp -iota -beta -eta -zeta only
  rw[AQ]
  rw[Jr _ zak]
  refine BF ?_
  simp only[NO];try with_reducible rfl
theorem yS:Y E0 (.call 92 [.i n] [])=some (.ret (.nm 0) [some (.row 5 .u8 (Sr n))]):=by
 refine BF ?_
 rw[Ik zal,Ik zal,Ik zal];simp only[FP];rfl
theorem mD:Y E0 (.call 153 [.i n] [])=some (.ret (.nm 0) [some (.row 5 .u8 (Sr n))]):=by
 refine BF ?_
 rw[Ik zal,Ik zal,Ik zal];simp only[FP];rfl
theorem P7(key b:List UInt8)(hk:key.length<=64):∀(k i:Nat),i+k=64->Y E0 (.loop 154 0 0 2 [(0,.sl .u8 key),(1,.sl .u8 b),(5,.nm 0),(6,.nm 1),(7,.i i)] [(0,some (.row 5 .u8 (KN (UInt8.ofNat 54) ((OO key).take i)++List.replicate (64-i) 0))),(1,some (.row 5 .u8 (KN (UInt8.ofNat 92) ((OO key).take i)++List.replicate (64-i) 0)))])=some (.fin (.exit 0) 2 [(1,.sl .u8 b),(5,.nm 0),(6,.nm 1)] [(0,some (.row 5 .u8 (KN (UInt8.ofNat 54) (OO key)))),(1,some (.row 5 .u8 (KN (UInt8.ofNat 92) (OO key))))])
 | 0,i,hi=>by
  rw[List.take_of_length_le (by rw[BX];omega),show 64-i=0 from by omega,List.replicate_zero,List.append_nil,List.append_nil]
  rw[Ad];conv=>lhs;whnf
  exact BF rfl
 | k+1,i,hi=>by
  have ih:=P7 key b hk k (i+1) zaa
  have hs1:=YV (UInt8.ofNat 54) (OO key) i (by rw[BX];omega) (BX key)
  have hs2:=YV (UInt8.ofNat 92) (OO key) i (by rw[BX];omega) (BX key)
  have hgt:=A3C key i zaa
  have hl1:(KN (UInt8.ofNat 54) ((OO key).take i)++List.replicate (64-i) (0:UInt8)).length=64:=by simp[Bd,BX];omega
  have hl2:(KN (UInt8.ofNat 92) ((OO key).take i)++List.replicate (64-i) (0:UInt8)).length=64:=by simp[Bd,BX];omega
  by_cases hc:i<key.length
  ·rw[dif_pos hc] at hgt
   rw[hgt] at hs1 hs2
   rw[Ad];conv=>lhs;whnf
   refine BF ?_
   refine(congrArg (Y E0) ?_).trans ih;(try simp only[Rq.loop.injEq,Rq.call.injEq,Rq.ops.injEq,List.cons.injEq,Prod.mk.injEq,AV.i.injEq,AV.sl.injEq,AV.st.injEq,AV.b.injEq,AV.u8.injEq,AV.nm.injEq,Option.some.injEq,Rs.row.injEq,Rs.var.injEq,heq_eq_eq,true_and,and_true]);(try(repeat' apply And.intro));all_goals first|(with_reducible rfl)|omega|(rw[Au zaa];omega)|(rw[CY zaa];omega)|(rw[GG,LV];exact hs1)|(rw[GG,LV];exact hs2)
  ·rw[dif_neg hc] at hgt
   rw[hgt] at hs1 hs2
   rw[Ad];conv=>lhs;whnf
   refine BF ?_
   refine(congrArg (Y E0) ?_).trans ih;(try simp only[Rq.loop.injEq,Rq.call.injEq,Rq.ops.injEq,List.cons.injEq,Prod.mk.injEq,AV.i.injEq,AV.sl.injEq,AV.st.injEq,AV.b.injEq,AV.u8.injEq,AV.nm.injEq,Option.some.injEq,Rs.row.injEq,Rs.var.injEq,heq_eq_eq,true_and,and_true]);(try(repeat' apply And.intro));all_goals first|(with_reducible rfl)|omega|(rw[Au zaa];omega)|(rw[CY zaa];omega)|(rw[GG,LV];exact hs1)|(rw[GG,LV];exact hs2)
theorem iR(b:List UInt8)(hk:key.length<=4294967296)(hb:b.length<=4294900000):Y E0 (.call 154 [.sl .u8 key,.sl .u8 b] [])=some (.ret (.sl .u8 (ZW key b)) []):=by
 have hr:BZ 64 (0:UInt8)=List.replicate 64 0:=zbO
 by_cases hc:64<key.length
 ·have hkb:A0J key=sha256 key:=if_pos hc
  have h0:=P7 (sha256 key) b (by rw[A8];omega) 64 0 zaa
  rw[List.take_zero,show((0:Nat):Int)=0 from rfl,show KN (UInt8.ofNat 54) []++List.replicate (64-0) (0:UInt8)=List.replicate 64 0 from rfl,show KN (UInt8.ofNat 92) []++List.replicate (64-0) (0:UInt8)=List.replicate 64 0 from rfl] at h0
  unfold ZW
  rw[hkb]
  refine BF ?_
  rw[Hz _ CW]
  refine BF ?_
  rw[hr,h0]
  conv=>lhs;whnf
  rw[Dy zak]
  conv=>lhs;whnf
  try dsimp -iota -beta -eta -zeta only
  rw[AQ]
  rw[Hz _ zak]
  conv=>lhs;whnf
  rw[Dy zak]
  conv=>lhs;whnf
  try dsimp -iota -beta -eta -zeta only
  rw[AQ]
  rw[Hz _ zak]
  refine BF ?_
  simp only[NO];try with_reducible rfl
 ·have hkb:A0J key=key:=if_neg hc
  have h0:=P7 key b zaa 64 0 zaa
  rw[List.take_zero,show((0:Nat):Int)=0 from rfl,show KN (UInt8.ofNat 54) []++List.replicate (64-0) (0:UInt8)=List.replicate 64 0 from rfl,show KN (UInt8.ofNat 92) []++List.replicate (64-0) (0:UInt8)=List.replicate 64 0 from rfl] at h0
  unfold ZW
  rw[hkb]
  refine BF ?_
  rw[hr,h0]
  conv=>lhs;whnf
  rw[Dy zak]
  conv=>lhs;whnf
  try dsimp -iota -beta -eta -zeta only
  rw[AQ]
  rw[Hz _ zak]
  conv=>lhs;whnf
  rw[Dy zak]
  conv=>lhs;whnf
  try dsimp -iota -beta -eta -zeta only
  rw[AQ]
  rw[Hz _ zak]
  refine BF ?_
  simp only[NO];try with_reducible rfl
theorem QQ(key label ctx:List UInt8)(n:Int)(hk:key.length<=4294967296)(hl:label.length<=1000)(hc:ctx.length<=1000000)(hn:1<=n/\n<=1024):∀(k j:Nat),j+k=((n+31)/32).toNat ->
  Y E0 (.loop 34 0 0 1 [(0,.sl .u8 key),(3,.i n),(9,.sl .u8 (label++(0::(ctx++Sr (8*n))))),(10,.nm 0),(11,.i (j+1))] [(0,some (.row 5 .u8 (Ls key label ctx n j)))])=some (.fin (.exit 0) 0 [(3,.i n),(10,.sl .u8 (Ls key label ctx n ((n+31)/32).toNat))] [])
 | 0,j,hj=>by
  rw[show((n+31)/32).toNat=j from by omega]
  rw[Ad];conv=>lhs;whnf
  rw[GL zak]
  conv=>lhs;whnf
 | k+1,j,hj=>by
  have ih:=QQ key label ctx n hk hl hc hn k (j+1) zaa
  rw[XX,show((j+1:Nat):Int)+1=(j:Int)+1+1 from by omega] at ih
  rw[Ad];conv=>lhs;whnf
  rw[EZ zak]
  conv=>lhs;whnf
  try dsimp -iota -beta -eta -zeta only
  rw[AQ]
  rw[yS _]
  conv=>lhs;whnf
  rw[Dy zak]
  conv=>lhs;whnf
  try dsimp -iota -beta -eta -zeta only
  rw[AQ]
  rw[A3D _ _ zaa zak]
  conv=>lhs;whnf
  rw[Dy zak]
  conv=>lhs;whnf
  try dsimp -iota -beta -eta -zeta only
  rw[Au zaa]
  refine(congrArg (Y E0) ?_).trans ih;(try simp only[Rq.loop.injEq,Rq.call.injEq,Rq.ops.injEq,List.cons.injEq,Prod.mk.injEq,AV.i.injEq,AV.sl.injEq,AV.st.injEq,AV.b.injEq,AV.u8.injEq,AV.nm.injEq,Option.some.injEq,Rs.row.injEq,Rs.var.injEq,heq_eq_eq,true_and,and_true]);(try(repeat' apply And.intro));all_goals first|(with_reducible rfl)|omega|(rw[Au zaa];omega)|(rw[CY zaa];omega)|(simp only[Ag])
theorem H7(label ctx:List UInt8)(n:Int)(hk:key.length<=4294967296)(hl:label.length<=1000)(hc:ctx.length<=1000000):Y E0 (.call 34 [.sl .u8 key,.str label,.sl .u8 ctx,.i n] [])=some (.ret (.sl .u8 (Dw key label ctx n)) []):=by
 have he:BM (BM (BM label [UInt8.ofNat 0]) ctx) (Sr (8*n))=label++(0::(ctx++Sr (8*n))):=by simp only[Ag,List.append_assoc,List.cons_append,List.nil_append];rfl
 refine BF ?_
 rcases AZ n 1 with hc0|hc0
 ·
  refine BF ?_
  unfold Dw;(repeat(first|rw[if_pos zao]|rw[if_neg zao]));try rfl
 refine BF ?_
 rcases AZ 1024 n with hc1|hc1
 ·
  refine BF ?_
  unfold Dw;(repeat(first|rw[if_pos zao]|rw[if_neg zao]));try rfl
 refine BF ?_
 rw[yS _]
 conv=>lhs;whnf
 rw[Dy zak]
 conv=>lhs;whnf
 try dsimp -iota -beta -eta -zeta only
 rw[Ee]
 have h0:=QQ key label ctx n hk hl hc zaa _ 0 (Nat.zero_add _);rw[show((0:Nat):Int)+1=1 from rfl,show Ls key label ctx n 0=[] from rfl] at h0;rw[he,h0]
 conv=>lhs;whnf
 rw[EH zaa]
 conv=>lhs;whnf
 rw[NF zak]
 conv=>lhs;whnf
 unfold Dw;(repeat(first|rw[if_pos zao]|rw[if_neg zao]));try rfl
theorem PZ(key label ctx:List UInt8)(n:Int)(hk:key.length<=4294967296)(hl:label.length<=1000)(hc:ctx.length<=1000000)(hn:1<=n/\n<=1024):∀(k j:Nat),j+k=((n+31)/32).toNat ->
  Y E0 (.loop 86 0 0 1 [(0,.sl .u8 key),(1,.str label),(2,.sl .u8 ctx),(3,.i n),(9,.nm 0),(10,.i (j+1))] [(0,some (.row 5 .u8 (Ls key label ctx n j)))])=some (.fin (.exit 0) 0 [(3,.i n),(9,.sl .u8 (Ls key label ctx n ((n+31)/32).toNat))] [])
 | 0,j,hj=>by
  rw[show((n+31)/32).toNat=j from by omega]
  rw[Ad];conv=>lhs;whnf
  rw[GL zak]
  conv=>lhs;whnf
 | k+1,j,hj=>by
  have ih:=PZ key label ctx n hk hl hc hn k (j+1) zaa
  rw[XX,show((j+1:Nat):Int)+1=(j:Int)+1+1 from by omega] at ih
  rw[Ad];conv=>lhs;whnf
  rw[EZ zak]
  conv=>lhs;whnf
  try dsimp -iota -beta -eta -zeta only
  rw[AQ]
  rw[mD _]
  conv=>lhs;whnf
  rw[Dy zak]
  conv=>lhs;whnf
  rw[Dy zak]
  conv=>lhs;whnf
  rw[Dy zak]
  conv=>lhs;whnf
  try dsimp -iota -beta -eta -zeta only
  rw[Gf zaa]
  rw[AQ]
  rw[mD _]
  conv=>lhs;whnf
  rw[Dy zak]
  conv=>lhs;whnf
  try dsimp -iota -beta -eta -zeta only
  rw[AQ]
  rw[iR _ _ zaa zak]
  conv=>lhs;whnf
  rw[Dy zak]
  conv=>lhs;whnf
  try dsimp -iota -beta -eta -zeta only
  rw[Au zaa]
  refine(congrArg (Y E0) ?_).trans ih;(try simp only[Rq.loop.injEq,Rq.call.injEq,Rq.ops.injEq,List.cons.injEq,Prod.mk.injEq,AV.i.injEq,AV.sl.injEq,AV.st.injEq,AV.b.injEq,AV.u8.injEq,AV.nm.injEq,Option.some.injEq,Rs.row.injEq,Rs.var.injEq,heq_eq_eq,true_and,and_true]);(try(repeat' apply And.intro));all_goals first|(with_reducible rfl)|omega|(rw[Au zaa];omega)|(rw[CY zaa];omega)|(simp only[Ag,List.append_assoc,List.cons_append,List.nil_append];rfl)
theorem Es(label ctx:List UInt8)(n:Int)(hk:key.length<=4294967296)(hl:label.length<=1000)(hc:ctx.length<=1000000):Y E0 (.call 86 [.sl .u8 key,.str label,.sl .u8 ctx,.i n] [])=some (.ret (.sl .u8 (Dw key label ctx n)) []):=by
 refine BF ?_
 rcases AZ n 1 with hc0|hc0
 ·
  refine BF ?_
  unfold Dw;(repeat(first|rw[if_pos zao]|rw[if_neg zao]));try rfl
 refine BF ?_
 rcases AZ 1024 n with hc1|hc1
 ·
  refine BF ?_
  unfold Dw;(repeat(first|rw[if_pos zao]|rw[if_neg zao]));try rfl
 refine BF ?_
 have h0:=PZ key label ctx n hk hl hc zaa _ 0 (Nat.zero_add _);rw[show((0:Nat):Int)+1=1 from rfl,show Ls key label ctx n 0=[] from rfl] at h0;rw[h0]
 conv=>lhs;whnf
 rw[NF zak]
 conv=>lhs;whnf
 unfold Dw;(repeat(first|rw[if_pos zao]|rw[if_neg zao]));try rfl
end
end Go.Proofs.YtnhgnfdbdflhcaaGreatDoor
