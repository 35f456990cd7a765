/-
  Own texts, laid together for this claim: contracts of functions of the program and its references, used by the statements of this seat.
-/
import Derived.Test.YtanagnimhaemgaaGreatDoorQtac
import Derived.Test.YtanagnimhaemgaaGreatDoorQtag
import Derived.Test.YtanagnimhaemgaaGreatDoorQtah
import Derived.Test.YtanagnimhaemgaaGreatDoorQtai
import Derived.Test.YtanagnimhaemgaaGreatDoorQtaj
import Derived.Test.YtanagnimhaemgaaGreatDoorQtak
import Derived.Test.YtanagnimhaemgaaGreatDoorQtal
import Derived.Test.YtanagnimhaemgaaGreatDoorQtam
set_option linter.all false
set_option maxHeartbeats 40000000
set_option maxRecDepth 100000
namespace Go.Ax
def orx(d:UInt8):List UInt8->List UInt8->UInt8
 | a::x,b::y=>orx (d|||(a^^^b)) x y
 | _,_=>d
theorem kW:∀(a b:List UInt8) (d:UInt8),a.length=b.length->(orx d a b=0↔d=0/\a=b)
 | [],[],d,_=>by simp[orx]
 | x::a,y::b,d,h=>by
  rw[orx,kW a b _ zaN,UInt8.or_eq_zero_iff,UInt8.xor_eq_zero_iff,List.cons.injEq,and_assoc]
 | [],y::b,d,h|x::a,[],d,h=>za7
theorem A3L(d:UInt8)(a b:List UInt8)(h:a.length=b.length)(j:Nat)(hj:j<a.length):orx d (a.drop j) (b.drop j)=orx (d|||(a[j]^^^b[j])) (a.drop (j+1)) (b.drop (j+1)):=by
 rw[List.drop_eq_getElem_cons hj,List.drop_eq_getElem_cons (show j<b.length by omega),orx]
end Go.Ax
namespace Go.Proofs.YtanagnimhaemgaaGreatDoor
open Go Go.Ax Go.Eng
variable (seed:List UInt8)(h:Int)
section
attribute [local irreducible] Bl CQ CS Bo Bg Ar CU Dw EN Dy EC Bf BU Bv Bz and' C9 CB BK Au BA BL BN Aa Ad AP AZ CV Dq CW DI CE BP BM BF BG BB AU BC Ae Ap Ai CX BH Bh Ba BO CG CY CJ fits CZ CO A8 AA Ac
attribute [local irreducible] lsB Uz FM ES Ir Ob OO Me Ji JG J4
theorem Nv:Y E0 (.call 288 [.i h] [])=some (.ret (.b (decide (0<=h/\h<=3))) []):=by
 refine tq ?_
 rcases ZV 0 h with hc0|hc0
 ·refine tq ?_;exact congrArg (fun b=>some (Rsp.ret (AV.b b) [])) (by rw[Jp];apply decide_eq_decide.2;omega)
 refine tq ?_;rw[decide_eq_false zaa]
theorem kU(hs:seed.length<=1000000):Y E0 (.call 343 [.sl .u8 seed,.i h] [])=some (.ret (.sl .u8 (lsB seed h)) []):=by
 refine tq ?_;rw[show strOf {data := #[115,105,103,110,101,114]}=WX from rfl,Fh _ _ _ _ zaa zad zak,Dh];refine tq ?_
 (unfold lsB;rfl)
theorem PU(seed:List UInt8)(k N:Nat)(hk:k<=3)(hN:N=2^k):∀(n j:Nat),j+n=N->Y E0 (.loop 345 0 0 1 [(5,.sl .u8 (lsB seed k)),(6,.nm 0),(13,.i (N:Int)),(14,.i (j:Int))] [(0,some (.row 22 (.sl .u8) ((Uz seed k).take j)))])=some (.fin (.exit 0) 0 [(6,.sl (.sl .u8) (Uz seed k))] [])
 | 0,j,hj=>by
  have hl:=Hl seed k
  rw[List.take_of_length_le zaa]
  exact tq rfl
 | n+1,j,hj=>by
  have h8:=OU hk
  have hl:=Hl seed k
  have ih:=PU seed k N hk hN n (j+1) zaa
  have ht:(Uz seed k).take j++[Ir (lsB seed k) j]=(Uz seed k).take (j+1):=by
   have hg:=dw (seed:=seed) (k:=k) (i:=j) zaa
   rw[List.getD,List.getElem?_eq_getElem zaa,Option.getD_some] at hg;rw[List.take_succ_eq_append_getElem zaa,hg]
  have hs:=LG seed k
  refine tq ?_;rw[zN _ _ zaa];refine tq ?_
  refine(congrArg (Y E0) ?_).trans ih;(try simp only[Rq.loop.injEq,Rq.call.injEq,Rq.ops.injEq,List.cons.injEq,Prod.mk.injEq,AV.i.injEq,AV.sl.injEq,AV.st.injEq,AV.b.injEq,AV.u8.injEq,AV.nm.injEq,Option.some.injEq,Rs.row.injEq,Rs.var.injEq,heq_eq_eq,true_and,and_true]);(try(repeat' apply And.intro));all_goals first|(with_reducible rfl)|omega|(rw[Bc zaa];omega)|(rw[DU zaa];omega)|(rw[Am];exact ht)
theorem Zv(k:Nat)(hk:k<=3)(hs:seed.length<=1000000):Y E0 (.call 345 [.sl .u8 seed,.i (k:Int)] [])=some (.ret (.sl (.sl .u8) (Uz seed k)) []):=by
 have hsh:Bf 1 (BP (k:Int)).toNat=((2^k:Nat):Int):=by rw[dY zaa,KJ]
 have hl:=PU seed k _ hk rfl (2^k) 0 zaa
 rw[List.take_zero,show((0:Nat):Int)=0 from rfl] at hl;refine tq ?_;rw[kU _ _ Aq];refine tq ?_;rw[hsh,hl];exact tq rfl
theorem A69(hs:seed.length<=1000000):Y E0 (.call 336 [.sl .u8 seed,.i h] [])=some (.ret (.sl .u8 (FM seed h)) []):=by
 by_cases hh:0<=h/\h<=3
 ·obtain⟨k,rfl⟩:∃ k:Nat,h=k:=⟨h.toNat,by omega⟩
  have hk:k<=3:=zaa
  have hr:=wQ (seed:=seed) hk
  refine tq ?_;rw[Nv,decide_eq_true hh];refine tq ?_;rw[Zv _ _ hk hs];refine tq ?_;rw[A3G _ (wP hk) (A7T hk)];refine tq ?_
  (rw[FM,if_pos hh,Int.toNat_natCast,Am,Dh];rfl)
 ·refine tq ?_;rw[Nv,decide_eq_false hh];refine tq ?_
  (rw[FM,if_neg hh])
theorem Qk(P:List (List UInt8))(hP:∀ l∈P,l.length=16)(hn:P.length<=3):∀(n j:Nat) (acc:List UInt8),j+n=P.length->acc.length<=1000+16*j->Y E0 (.loop 305 0 0 1 [(9,.nm 0),(40,.sl (.sl .u8) P),(41,.i P.length),(42,.i (j:Int))] [(0,some (.row 5 .u8 acc))])=some (.fin (.exit 0) 0 [(9,.sl .u8 (acc++(P.drop j).flatten))] [])
 | 0,j,acc,hj,ha=>by
  rw[List.drop_eq_nil_of_le zaa,List.flatten_nil,List.append_nil]
  exact tq rfl
 | n+1,j,acc,hj,ha=>by
  have hx:=hP _ (List.getElem_mem (l:=P) (n:=j) zaa)
  have hg:Ai P (j:Int)=some (P[j]'zaa):=IC zaa
  have ih:=Qk P hP hn n (j+1) (acc++P[j]'zaa) zaa zaC
  have hd:=List.drop_eq_getElem_cons (l:=P) (i:=j) zaa
  rw[List.append_assoc,<-List.flatten_cons,<-hd] at ih
  clear hd
  refine to ?_;rw[hg];refine tq ?_
  refine(congrArg (Y E0) ?_).trans ih;(try simp only[Rq.loop.injEq,Rq.call.injEq,Rq.ops.injEq,List.cons.injEq,Prod.mk.injEq,AV.i.injEq,AV.sl.injEq,AV.st.injEq,AV.b.injEq,AV.u8.injEq,AV.nm.injEq,Option.some.injEq,Rs.row.injEq,Rs.var.injEq,heq_eq_eq,true_and,and_true]);(try(repeat' apply And.intro));all_goals first|(with_reducible rfl)|omega|(rw[Bc zaa];omega)|(rw[DU zaa];omega)|rw[Am]
theorem A3I(leaf:Int)(m:List UInt8)(hs:seed.length<=1000000)(hm:m.length<=1000000):Y E0 (.call 305 [.sl .u8 seed,.i h,.i leaf,.sl .u8 m] [])=some (.ret (.sl .u8 (ES seed h leaf m)) []):=by
 by_cases hh:0<=h/\h<=3
 ·obtain⟨k,rfl⟩:∃ k:Nat,h=k:=⟨h.toNat,by omega⟩
  have hk:k<=3:=zaa
  have h8:=OU hk
  have hsh:Bf 1 (BP (k:Int)).toNat=((2^k:Nat):Int):=by rw[dY zaa,KJ]
  have hl:=LG seed k
  by_cases hc:0<=leaf/\leaf<((2^k:Nat):Int)
  ·have hsb:=QN (seed:=lsB seed k) (m:=m) (leaf:=leaf) zaa
   obtain⟨p1,p2⟩:=eF (seed:=seed) (k:=k) (i:=leaf) hk zaa (by rw[KJ];omega)
   have hlp:=Qk _ p2 zaa (Ji leaf (Uz seed k)).length 0 (BO [DI leaf] (Ob (lsB seed k) leaf m)) zaa (by rw[Am,List.length_append,hsb];simp)
   rw[List.drop_zero,show((0:Nat):Int)=0 from rfl] at hlp;refine tq ?_;rw[Nv,decide_eq_true hh]
   conv=>lhs;whnf
   rw[DF];conv=>lhs;whnf
   rw[Gz zaa]
   conv=>lhs;whnf
   rw[hsh];refine tq ?_;rw[kU _ _ Aq];refine tq ?_;rw[A68 _ _ _ zaa zaa];refine tq ?_;rw[Zv _ _ hk hs];refine tq ?_;rw[A3H _ _ (wP hk) (A7T hk)];refine tq ?_;rw[AC,hlp];refine tq ?_
   (rw[ES,if_pos ⟨hh,by rw[Int.toNat_natCast,KJ];exact hc⟩,Int.toNat_natCast,Am,Dh];rfl)
  ·refine tq ?_;rw[Nv,decide_eq_true hh];refine tq ?_
   rcases D7 leaf 0 with hc0|hc0
   ·refine tq ?_
    (rw[ES,if_neg (by rw[Int.toNat_natCast,KJ];omega)])
   rw[Gz zaa]
   conv=>lhs;whnf
   rw[hsh];refine tq ?_
   (rw[ES,if_neg (by rw[Int.toNat_natCast,KJ];omega)])
 ·refine tq ?_;rw[Nv,decide_eq_false hh];refine tq ?_
  (rw[ES,if_neg zaa])
theorem Ql(p s x:List UInt8)(i:Int)(k:Nat)(hk:k<=3)(hs:s.length=561+16*k):∀(n j:Nat) (acc:List (List UInt8)),j+n=k->acc.length=j->Y E0 (.loop 65 0 0 1 [(0,.sl .u8 p),(2,.sl .u8 s),(8,.i (k:Int)),(9,.i i),(10,.i (561+16*(j:Int))),(11,.sl .u8 x),(13,.nm 0),(14,.i (j:Int))] [(0,some (.row 22 (.sl .u8) acc))])=some (.fin (.exit 0) 0 [(0,.sl .u8 p),(9,.i i),(11,.sl .u8 x),(13,.sl (.sl .u8) (acc++J4 n (s.drop (561+16*j))))] [])
 | 0,j,acc,hj,ha=>by
  unfold J4
  rw[List.append_nil]
  exact tq rfl
 | n+1,j,acc,hj,ha=>by
  have ih:=Ql p s x i k hk hs n (j+1) (acc++[(s.drop (561+16*j)).take 16]) zaa (by rw[List.length_append];simp;omega)
  unfold J4
  rw[List.append_assoc,List.singleton_append,show 561+16*(j+1)=(561+16*j)+16 from by omega,show List.drop (561+16*j+16) s=List.drop 16 (List.drop (561+16*j) s) from by rw[List.drop_drop],show((j+1:Nat):Int)=(j:Int)+1 from by omega] at ih
  have e1:List.take (561+16*(j:Int)+16-(561+16*(j:Int))).toNat (List.drop (561+16*(j:Int)).toNat s)=List.take 16 (List.drop (561+16*j) s):=by
   rw[show(561+16*(j:Int)+16-(561+16*(j:Int))).toNat=16 from by omega,show(561+16*(j:Int)).toNat=561+16*j from by omega]
  refine tq ?_
  refine(congrArg (Y E0) ?_).trans ih;(try simp only[Rq.loop.injEq,Rq.call.injEq,Rq.ops.injEq,List.cons.injEq,Prod.mk.injEq,AV.i.injEq,AV.sl.injEq,AV.st.injEq,AV.b.injEq,AV.u8.injEq,AV.nm.injEq,Option.some.injEq,Rs.row.injEq,Rs.var.injEq,heq_eq_eq,true_and,and_true]);(try(repeat' apply And.intro));all_goals first|(with_reducible rfl)|omega|(rw[Bc zaa];omega)|(rw[DU zaa];omega)|(rw[Am,e1])
theorem A3J(p m s:List UInt8)(hm:m.length<=1000000):Y E0 (.call 65 [.sl .u8 p,.sl .u8 m,.sl .u8 s] [])=some (.ret (.tup [.i (G6 p m s).1,.b (G6 p m s).2]) []):=by
 by_cases hp:p.length=17
 ·obtain⟨a,p',rfl⟩:∃ a p',p=a::p':=by cases p with|nil=>simp at hp|cons a p'=>exact⟨a,p',rfl⟩
  have hgp:Ai (a::p') 0=some a:=Ku zaa rfl
  obtain⟨k,hk⟩:∃ k:Nat,a.toNat=k:=⟨_,rfl⟩
  have hpk:Dq a=(k:Int):=by rw[Jn,hk]
  by_cases hk3:k<=3
  ·by_cases hs:s.length=561+16*k
   ·obtain⟨b,s',rfl⟩:∃ b s',s=b::s':=by cases s with|nil=>(simp at hs;omega)|cons b s'=>exact⟨b,s',rfl⟩
    have hgs:Ai (b::s') 0=some b:=Ku zaa rfl
    obtain⟨i,hi⟩:∃ i:Nat,b.toNat=i:=⟨_,rfl⟩
    have hsi:Dq b=(i:Int):=by rw[Jn,hi]
    have h8:=OU hk3
    have hsh:Bf 1 (BP (k:Int)).toNat=((2^k:Nat):Int):=by rw[dY zaa,KJ]
    by_cases hi2:i<2^k
    ·have hr2:=rec_2 (i:Int) m (((b::s').drop 1).take 560)
     rw[decide_eq_true ⟨by omega,by rw[List.length_take,List.length_drop,hs];omega⟩] at hr2
     have hrl:=A8Z (i:Int) m (((b::s').drop 1).take 560)
     rw[zF hk hi hp hk3 hs hi2]
     have hrr:=kT (i:Int) m (((b::s').drop 1).take 560) hm
     rw[hr2] at hrr
     replace hrr:Y E0 (.call 104 [.i (i:Int),.sl .u8 m,.sl .u8 (List.take ((561:Int)-1).toNat (List.drop (Int.toNat 1) (b::s')))] [])=_:=hrr
     have hcm:=Zp k ((b::s').drop 561)
     have hlp:=Ql (a::p') (b::s') (OO (i:Int) m (((b::s').drop 1).take 560)).1 (i:Int) k hk3 hs k 0 [] zaa rfl
     rw[List.nil_append,show 561+16*0=561 from rfl,show((0:Nat):Int)=0 from rfl,show(561:Int)+16*0=561 from rfl] at hlp
     have e8:List.take (Ap (a::p')-1).toNat (List.drop (Int.toNat 1) (a::p'))=p':=List.take_of_length_le (by rw[AC];simp)
     generalize (OO (i:Int) m (((b::s').drop 1).take 560)).1=x at *
     rw[AO]
     conv=>lhs;whnf
     rw[DY zaH]
     conv=>lhs;whnf
     rw[hgp]
     conv=>lhs;whnf
     rw[hpk]
     conv=>lhs;whnf
     rw[Gz zaa]
     conv=>lhs;whnf
     rw[hgp]
     conv=>lhs;whnf
     rw[JA zaa];rw[Bc zaa];rw[hpk]
     conv=>lhs;whnf
     rw[DY zaH]
     conv=>lhs;whnf
     rw[hgs]
     conv=>lhs;whnf
     rw[hsi]
     conv=>lhs;whnf
     rw[hsh]
     conv=>lhs;whnf
     rw[TG zaa]
     conv=>lhs;whnf
     rw[hgs]
     conv=>lhs;whnf
     rw[AO]
     conv=>lhs;whnf
     rw[hsi];refine tq ?_;rw[hrr];refine tq ?_;rw[hlp];refine tq ?_;rw[zQ _ _ _ zaa hcm];refine tq ?_;rw[e8,OM _ _ (A2y zaa)];refine tq ?_
     rcases Decidable.em (JG x (↑i) (J4 k (List.drop 561 (b::s')))=p') with hc0|hc0
     ·refine tq ?_;rw[if_pos hc0]
     refine tq ?_;rw[if_neg hc0]
    ·rw[WY (fun h=>hi2 (by have h4:=h.2.2.2;change b.toNat<2^a.toNat at h4;rw[hk,hi] at h4;exact h4))]
     rw[AO]
     conv=>lhs;whnf
     rw[DY zaH]
     conv=>lhs;whnf
     rw[hgp]
     conv=>lhs;whnf
     rw[hpk]
     conv=>lhs;whnf
     rw[Gz zaa]
     conv=>lhs;whnf
     rw[hgp]
     conv=>lhs;whnf
     rw[JA zaa];rw[Bc zaa];rw[hpk]
     conv=>lhs;whnf
     rw[DY zaH]
     conv=>lhs;whnf
     rw[hgs]
     conv=>lhs;whnf
     rw[hsi]
     conv=>lhs;whnf
     rw[hsh];exact tq rfl
   ·rw[WY (fun h=>hs (by have h4:=h.2.2.1;change _=561+16*a.toNat at h4;rw[hk] at h4;exact h4))]
    rw[AO]
    conv=>lhs;whnf
    rw[DY zaH]
    conv=>lhs;whnf
    rw[hgp]
    conv=>lhs;whnf
    rw[hpk]
    conv=>lhs;whnf
    rw[Gz zaa]
    conv=>lhs;whnf
    rw[hgp]
    conv=>lhs;whnf
    rw[JA zaa];rw[Bc zaa];rw[hpk];exact tq rfl
  ·rw[WY (fun h=>hk3 (by have h4:=h.2.1;change a.toNat<=3 at h4;omega))]
   rw[AO]
   conv=>lhs;whnf
   rw[DY zaH]
   conv=>lhs;whnf
   rw[hgp]
   conv=>lhs;whnf
   rw[hpk];exact tq rfl
 ·rw[WY (fun h=>hp h.1)];exact tq rfl
end
section
attribute [local irreducible] Bl CQ CS Bo Bg Ar CU Dw EN Dy EC Bf BU Bv Bz and' C9 CB BK Au BA BL BN Aa Ad AP AZ CV Dq CW DI CE BP BM BF BG BB AU BC Ae Ap Ai CX BH Bh Ba BO CG CY CJ fits CZ CO A8 AA Ac
theorem Qm(a b:List UInt8)(h:a.length=b.length)(ha:a.length<=4294967296):∀(n j:Nat) (d:UInt8),j+n=a.length->Y E0 (.loop 295 0 0 0 [(0,.sl .u8 a),(1,.sl .u8 b),(5,.u8 d),(13,.i a.length),(14,.i (j:Int))] [])=some (.fin (.exit 0) 0 [(5,.u8 (orx d (a.drop j) (b.drop j)))] [])
 | 0,j,d,hj=>by
  rw[List.drop_eq_nil_of_le zaa,List.drop_eq_nil_of_le zaa,orx]
  exact tq rfl
  all_goals intros;simp_all
 | n+1,j,d,hj=>by
  have ih:=Qm a b h ha n (j+1) (d|||(a[j]'zaa^^^b[j]'zaa)) zaa
  rw[<-A3L d a b h j zaa] at ih
  refine tq ?_
  refine(congrArg (Y E0) ?_).trans ih;(try simp only[Rq.loop.injEq,Rq.call.injEq,Rq.ops.injEq,List.cons.injEq,Prod.mk.injEq,AV.i.injEq,AV.sl.injEq,AV.st.injEq,AV.b.injEq,AV.u8.injEq,AV.nm.injEq,Option.some.injEq,Rs.row.injEq,Rs.var.injEq,heq_eq_eq,true_and,and_true]);(try(repeat' apply And.intro));all_goals first|(with_reducible rfl)|omega|(rw[Bc zaa];omega)|(rw[DU zaa];omega)|(rw[jg,A5Q])
theorem A3M(a b:List UInt8)(ha:a.length<=4294967296):Y E0 (.call 295 [.sl .u8 a,.sl .u8 b] [])=some (.ret (.b (decide (a=b))) []):=by
 by_cases hab:a.length=b.length
 ·have hl:=Qm a b hab ha a.length 0 (UInt8.ofNat 0) zaa
  rw[List.drop_zero,List.drop_zero,show((0:Nat):Int)=0 from rfl] at hl
  have hz:=kW a b (UInt8.ofNat 0) hab
  refine tq ?_;rw[AC,hl]
  conv=>lhs;whnf
  exact congrArg (fun b=>some (Rsp.ret (AV.b b) [])) (by rw[JL,J3];apply decide_eq_decide.2;rw[Int.ofNat_inj,UInt8.toNat_inj];exact hz.trans zak)
 ·rw[decide_eq_false (fun e=>hab (by rw[e]))];exact tq rfl
end
end Go.Proofs.YtanagnimhaemgaaGreatDoor
