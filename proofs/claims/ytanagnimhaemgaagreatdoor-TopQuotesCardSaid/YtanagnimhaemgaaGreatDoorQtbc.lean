/-
  Own texts, laid together for this claim: contracts of functions of the program and its references, used by the statements of this seat.
-/
import Derived.Test.YtanagnimhaemgaaGreatDoorQtac
import Derived.Test.YtanagnimhaemgaaGreatDoorQtaf
import Derived.Test.YtanagnimhaemgaaGreatDoorQtag
import Derived.Test.YtanagnimhaemgaaGreatDoorQtai
import Derived.Test.YtanagnimhaemgaaGreatDoorQtak
import Derived.Test.YtanagnimhaemgaaGreatDoorQtao
import Derived.Test.YtanagnimhaemgaaGreatDoorQtap
import Derived.Test.YtanagnimhaemgaaGreatDoorQtaq
import Derived.Test.YtanagnimhaemgaaGreatDoorQtar
import Derived.Test.YtanagnimhaemgaaGreatDoorQtat
import Derived.Test.YtanagnimhaemgaaGreatDoorQtay
import Derived.Test.YtanagnimhaemgaaGreatDoorQtaz
import Derived.Test.YtanagnimhaemgaaGreatDoorQtbb
set_option linter.all false
set_option maxHeartbeats 40000000
set_option maxRecDepth 100000
namespace Go.Proofs.YtanagnimhaemgaaGreatDoor
open Go Go.Ax Go.Eng
section
attribute [local irreducible] Bl CQ CS Bo Bg Ar CU Dw EN Dy EC Bf BU Bv Bz and' C9 CB BK Au BA BL BN Aa Ad AP AZ CV Dq CW DI CE BP BM BF BG BB AU BC Ae Ap Ai CX BH Bh Ba BO CG CY CJ fits CZ CO A8 AA Ac
theorem zy{b:List (List UInt8)}(j:Nat)(h:j<b.length):(b.drop j).flatten=b[j]++(b.drop (j+1)).flatten:=by rw[List.drop_eq_getElem_cons h,List.flatten_cons]
theorem A6R{b c:List (List UInt8)}{j:Nat}(h:j<b.length)(hc:c.length=b.length):BH (b.take j++c.drop j) (j:Int) b[j]=b.take (j+1)++c.drop (j+1):=by
 rw[Ea,Int.toNat_natCast,List.set_append,if_neg zaY,List.length_take,Nat.min_eq_left zaa,Nat.sub_self,List.drop_eq_getElem_cons (show j<c.length by omega),List.set_cons_zero,List.take_succ_eq_append_getElem h,List.append_assoc];rfl
theorem lZ(x:List UInt8)(c:List (List UInt8))(u:Int):Y E0 (.loop 138 1 0 6 [(2,.pa 0 0),(4,.pa 1 0),(6,.pa 2 0),(7,.i 0),(29,.i ((2:Nat):Int)),(30,.i 0),(38,.i (Ap ([]:List (List UInt8)))),(39,.i 0)] [(0,some (.var [.nil,.i 0])),(1,some (.var [.sl .u8 x,.i ((9:Nat):Int),.i 0])),(2,some (.var [.nm 3,.i u])),(3,some (.rowA 24 1 2 [.nm 4,.nm 5])),(4,some (.row 22 (.sl .u8) [])),(5,some (.row 22 (.sl .u8) c))])=some (.fin (.exit 2) 6 [(2,.pa 0 0),(4,.pa 1 0),(6,.pa 2 0),(29,.i ((2:Nat):Int)),(30,.i 0)] [(0,some (.var [.nil,.i 0])),(1,some (.var [.sl .u8 x,.i ((9:Nat):Int),.i 0])),(2,some (.var [.nm 3,.i u])),(3,some (.rowA 24 1 2 [.nm 4,.nm 5])),(4,some (.row 22 (.sl .u8) [])),(5,some (.row 22 (.sl .u8) c))]):=by
 have e:Ap ([]:List (List UInt8))=0:=zaK
 rw[e]
 rw[AO];conv=>lhs;whnf
 refine tq ?_
 with_reducible rfl
theorem Vs(x:List UInt8)(b:List (List UInt8))(u:Int)(h:EF 32 b)(hl:x.length=521)(hx:x.drop 9=b.flatten):∀(k j:Nat),j+k=16->Y E0 (.loop 138 1 0 6 [(2,.pa 0 0),(4,.pa 1 0),(6,.pa 2 0),(7,.i 1),(29,.i ((2:Nat):Int)),(30,.i 1),(38,.i 16),(39,.i (j:Int))] [(0,some (.var [.nil,.i 0])),(1,some (.var [.sl .u8 x,.i ((9+32*j:Nat):Int),.i 0])),(2,some (.var [.nm 3,.i u])),(3,some (.rowA 24 1 2 [.nm 4,.nm 5])),(4,some (.row 22 (.sl .u8) [])),(5,some (.row 22 (.sl .u8) (b.take j++(Gs 32 16).drop j)))])=some (.fin (.exit 2) 6 [(2,.pa 0 0),(4,.pa 1 0),(6,.pa 2 0),(29,.i ((2:Nat):Int)),(30,.i 1)] [(0,some (.var [.nil,.i 0])),(1,some (.var [.sl .u8 x,.i ((521:Nat):Int),.i 0])),(2,some (.var [.nm 3,.i u])),(3,some (.rowA 24 1 2 [.nm 4,.nm 5])),(4,some (.row 22 (.sl .u8) [])),(5,some (.row 22 (.sl .u8) b))])
 | 0,j,hj=>by
  have hb:=h.1
  obtain rfl:j=16:=zaa
  rw[List.take_of_length_le zaa,List.drop_of_length_le (by rw[Dv];omega),List.append_nil]
  rw[AO];conv=>lhs;whnf
  refine tq ?_
  with_reducible rfl
 | k+1,j,hj=>by
  have hb:=h.1
  have e:=KN
  have hr:=h.2 _ (List.getElem_mem (show j<b.length by omega))
  have hd:x.drop (9+32*j)=b[j]++(b.drop (j+1)).flatten:=by
   rw[<-zy j zaa,<-List.drop_drop,hx]
   have:∀(l:List (List UInt8)) (n:Nat),(∀ y∈l,y.length=32)->l.flatten.drop (32*n)=(l.drop n).flatten:=by
    intro l;induction l with
    | nil=>intro n _;simp
    | cons a l ih =>
     intro n hm
     cases n with
     | zero=>rfl
     | succ n =>
      have ha:=hm a (List.mem_cons_self ..)
      rw[List.flatten_cons,List.drop_succ_cons,List.drop_append,List.drop_of_length_le zaa,List.nil_append,ha,show 32*(n+1)-32=32*n by omega]
      exact ih n fun y hy=>hm y (List.mem_cons_of_mem _ hy)
   exact this b j h.2
  obtain⟨g0,g1,g2⟩:=TL (n:=32) (show 9+32*j<=x.length by omega) hd hr
  have g:=V3 x (9+32*j) 0 32 zaa zaa zaa
  rw[show((32:Nat):Int)=32 from rfl] at g0
  rw[g0,show 9+32*j+32=9+32*(j+1) by omega] at g
  have hc:(b.take j++(Gs 32 16).drop j).length=16:=by rw[List.length_append,List.length_take,List.length_drop,Dv];omega
  have hs:BH (b.take j++(Gs 32 16).drop j) (j:Int) b[j]=_:=A6R (show j<b.length by omega) ((Dv 32 16).trans hb.symm)
  have ih:=Vs x b u h hl hx k (j+1) zaa
  rw[<-hs,show((j+1:Nat):Int)=(j:Int)+1 from by omega] at ih
  generalize b.take j++(Gs 32 16).drop j=c at *
  generalize b[j]=r at *
  rw[AO];conv=>lhs;whnf
  refine tq ?_
  rw[e]
  refine tq ?_
  rw[g]
  refine tq ?_
  exact ih
theorem sV(x:List UInt8)(b:List (List UInt8))(u:Int)(h:EF 32 b)(hl:x.length=521)(hx:x.drop 9=b.flatten):Y E0 (.loop 138 0 0 6 [(2,.pa 0 0),(4,.pa 1 0),(6,.pa 2 0),(29,.i ((2:Nat):Int)),(30,.i 0)] [(0,some (.var [.nil,.i 0])),(1,some (.var [.sl .u8 x,.i ((9:Nat):Int),.i 0])),(2,some (.var [.nm 3,.i u])),(3,some (.rowA 24 1 2 [.nm 4,.nm 5])),(4,some (.row 22 (.sl .u8) [])),(5,some (.row 22 (.sl .u8) (Gs 32 16)))])=some (.fin (.exit 0) 6 [(2,.pa 0 0),(4,.pa 1 0),(6,.pa 2 0)] [(0,some (.var [.nil,.i 0])),(1,some (.var [.sl .u8 x,.i ((521:Nat):Int),.i 0])),(2,some (.var [.nm 3,.i u])),(3,some (.rowA 24 1 2 [.nm 4,.nm 5])),(4,some (.row 22 (.sl .u8) [])),(5,some (.row 22 (.sl .u8) b))]):=by
 have e0:=lZ x (Gs 32 16) u
 have e1:=Vs x b u h hl hx 16 0 rfl
 rw[List.take_zero,List.drop_zero,List.nil_append,show((0:Nat):Int)=0 from rfl,show 9+32*0=9 from rfl] at e1
 have hz:Ap (Gs 32 16)=16:=by rw[AC,Dv];rfl
 refine tq ?_
 rw[e0]
 refine tq ?_
 refine tq ?_
 rw[hz,show(0:Int)+1=1 from rfl,e1]
 refine tq ?_
 exact tq rfl
theorem A3m(x:List UInt8)(b:List (List UInt8))(u:Int)(h:EF 32 b)(hx:x=NS [[],b] u)(hl:x.length=521)(hu:0<=u/\u<=1000000):Y E0 (.call 138 [.sl .u8 x] [])=some (.ret (.tup [Om [[],b] u,.i 0]) []):=by
 have e0:x.drop 0=Oi 1 (UInt64.ofInt 2)++(n8 u++b.flatten):=by rw[List.drop_zero,hx,<-A7Y b u h,KL,Dh,List.append_assoc];rfl
 obtain⟨a0,a1,a2⟩:=FZ (n:=1) (x:=2) zaa zaa e0 zaa zaa zad
 obtain⟨b0,b1,b2⟩:=FZ (n:=8) (x:=u) a1 zaa a2 zaa zaa zaa
 have h0:=G8 x 0 0 1 zaa zaa
 have h1:=G8 x 1 0 8 zaa zaa
 have h2:=Tt x 521 0 zaa zaa
 rw[show Ey x 0 0 1=(2,1,0) from a0] at h0;rw[show Ey x 1 0 8=(u,9,0) from b0] at h1
 have e1:VT x 521 0=0:=OI zaa (List.drop_of_length_le zaa)
 rw[e1] at h2
 have hk:=sV x b u h hl b2
 refine tq ?_
 rw[PW _ Aq]
 refine tq ?_
 rw[show Y E0 (.call 135 [.pa 0 0,.i 1] [.var [.sl .u8 x,.i 0,.i 0]])=_ from h0]
 refine tq ?_
 rw[N9 ..]
 refine tq ?_
 rw[lW]
 refine tq ?_
 rw[h1]
 refine tq ?_
 rw[hk]
 refine tq ?_
 rw[h2]
 exact tq rfl
theorem sW(b X:List UInt8)(sb:List (List (List UInt8)))(u:Int)(p q:Nat)(hb:b.length<=1000000)(hp:p<=b.length)(g:JK b p 0 4096=(X,q,0))(hX:Y E0 (.call 138 [.sl .u8 X] [])=some (.ret (.tup [.agg [.sl (.sl (.sl .u8)) sb,.i u],.i 0]) [])):Y E0 (.call 97 [.pa 0 0] [.var [.pa 1 0,.i 0],.var [.sl .u8 b,.i (p:Int),.i 0]])=some (.ret (.agg [.sl (.sl (.sl .u8)) sb,.i u]) [some (.var [.pa 1 0,.i 0]),some (.var [.sl .u8 b,.i (q:Int),.i 0])]):=by
 have h:=MI b X p q hb hp g
 refine tq ?_
 rw[h]
 refine tq ?_
 rw[hX]
 exact tq rfl
theorem lg(sd au:List (List UInt8))(en:List UInt8)(ac re rs ck:Int)(od:Bool)(sb:List (List (List UInt8)))(su mc:Int)(b:List UInt8)(p:Nat):Y E0 (.loop 51 0 0 5 [(2,.pa 0 0),(4,.pa 1 0),(6,.pa 2 0),(62,.i 0),(63,.i 0)] [(0,some (.var [.nil,.nil,.nil,.i 0,.i 0,.i 0,.i 0,.b false,.nil,.i 0,.i 0,.nil,.i 0,.i 0,.i 0,.i 0,.i 0,.i 0,.nil])),(1,some (.var [.pa 3 0])),(2,some (.var [.sl (.sl .u8) sd,.sl (.sl .u8) au,.sl .u8 en,.i ac,.i re,.i rs,.i ck,.b od,.sl (.sl (.sl .u8)) sb,.i su,.i mc,.nil,.i 0,.i 0,.i 0,.i 0,.i 0,.i 0,.nil])),(3,some (.var [.pa 4 0,.i 0])),(4,some (.var [.sl .u8 b,.i (p:Int),.i 0]))])=some (.fin (.exit 0) 5 [(2,.pa 0 0),(4,.pa 1 0),(6,.pa 2 0)] [(0,some (.var [.nil,.nil,.nil,.i 0,.i 0,.i 0,.i 0,.b false,.nil,.i 0,.i 0,.nil,.i 0,.i 0,.i 0,.i 0,.i 0,.i 0,.nil])),(1,some (.var [.pa 3 0])),(2,some (.var [.sl (.sl .u8) sd,.sl (.sl .u8) au,.sl .u8 en,.i ac,.i re,.i rs,.i ck,.b od,.sl (.sl (.sl .u8)) sb,.i su,.i mc,.nil,.i 0,.i 0,.i 0,.i 0,.i 0,.i 0,.nil])),(3,some (.var [.pa 4 0,.i 0])),(4,some (.var [.sl .u8 b,.i (p:Int),.i 0]))]):=by
 rw[AO];conv=>lhs;whnf
 exact tq rfl
theorem Ph(sd au:List (List UInt8))(en:List UInt8)(ac re rs ck:Int)(od:Bool)(sb:List (List (List UInt8)))(su mc:Int)(b:List UInt8)(l1 l2 l3 l4 l5 l6:Int)(p q:Nat)(hb:b.length<=1000000)(hp:p<=b.length)(g:zo b p [l1,l2,l3,l4,l5,l6] q):Y E0 (.loop 51 1 0 6 [(2,.pa 0 0),(4,.pa 1 0),(6,.pa 2 0),(92,.nm 3),(93,.i ((6:Nat):Int)),(94,.i 0)] [(0,some (.var [.nil,.nil,.nil,.i 0,.i 0,.i 0,.i 0,.b false,.nil,.i 0,.i 0,.nil,.i 0,.i 0,.i 0,.i 0,.i 0,.i 0,.nil])),(1,some (.var [.pa 4 0])),(2,some (.var [.sl (.sl .u8) sd,.sl (.sl .u8) au,.sl .u8 en,.i ac,.i re,.i rs,.i ck,.b od,.sl (.sl (.sl .u8)) sb,.i su,.i mc,.nil,.i 0,.i 0,.i 0,.i 0,.i 0,.i 0,.nil])),(3,some (.rowA 184 1 6 [.pa 2 12,.pa 2 13,.pa 2 14,.pa 2 15,.pa 2 16,.pa 2 17])),(4,some (.var [.pa 5 0,.i 0])),(5,some (.var [.sl .u8 b,.i (p:Int),.i 0]))])=some (.fin (.exit 2) 5 [(2,.pa 0 0),(4,.pa 1 0),(6,.pa 2 0)] [(0,some (.var [.nil,.nil,.nil,.i 0,.i 0,.i 0,.i 0,.b false,.nil,.i 0,.i 0,.nil,.i 0,.i 0,.i 0,.i 0,.i 0,.i 0,.nil])),(1,some (.var [.pa 3 0])),(2,some (.var [.sl (.sl .u8) sd,.sl (.sl .u8) au,.sl .u8 en,.i ac,.i re,.i rs,.i ck,.b od,.sl (.sl (.sl .u8)) sb,.i su,.i mc,.nil,.i l1,.i l2,.i l3,.i l4,.i l5,.i l6,.nil])),(3,some (.var [.pa 4 0,.i 0])),(4,some (.var [.sl .u8 b,.i (q:Int),.i 0]))]):=by
 obtain⟨b1,p1,g1,b2,p2,g2,b3,p3,g3,b4,p4,g4,b5,p5,g5,b6,p6,g6,hq⟩:=g
 obtain rfl:q=p6:=hq
 have k1:=FH hp g1
 have k2:=FH k1 g2
 have k3:=FH k2 g3
 have k4:=FH k3 g4
 have k5:=FH k4 g5
 have h1:=Eg b p p1 8 l1 hb hp g1 b1
 have h2:=Eg b p1 p2 8 l2 hb k1 g2 b2
 have h3:=Eg b p2 p3 8 l3 hb k2 g3 b3
 have h4:=Eg b p3 p4 8 l4 hb k3 g4 b4
 have h5:=Eg b p4 p5 8 l5 hb k4 g5 b5
 have h6:=Eg b p5 q 8 l6 hb k5 g6 b6
 rw[AO];conv=>lhs;whnf
 refine tq ?_
 rw[h1]
 refine tq ?_
 refine tq ?_
 rw[h2]
 refine tq ?_
 refine tq ?_
 rw[h3]
 refine tq ?_
 refine tq ?_
 rw[h4]
 refine tq ?_
 refine tq ?_
 rw[h5]
 refine tq ?_
 refine tq ?_
 rw[h6]
 refine tq ?_
 exact tq rfl
def A00(b:List UInt8):Nat->List (El BR)->Nat->Prop
 | p,[],q=>q=p
 | p,x::xs,q=>∃ p1 p2,JK b p 0 4096=(x.1,p1,0)/\Ey b p1 0 1=(x.2,p2,0)/\(x.2:Int)<=1000/\A00 b p2 xs q
theorem A3n{b:List UInt8}:∀ {l:List (El BR)} {p q:Nat},p<=b.length->A00 b p l q->q<=b.length
 | [],p,q,hp,h=>by obtain rfl:q=p:=h;exact hp
 | x::l,p,q,hp,⟨p1,p2,h1,h2,_,h3⟩=>A3n (FH (Kt hp h1) h2) h3
theorem Vt(sd au:List (List UInt8))(en:List UInt8)(ac re rs ck:Int)(od:Bool)(sb:List (List (List UInt8)))(su mc:Int)(b:List UInt8)(l1 l2 l3 l4 l5 l6:Int)(hb:b.length<=1000000)(m:Nat)(hm:m<=8):∀(k j:Nat) (l xs:List (El BR)) (p q:Nat),j+k=m->xs.length=k->l.length+k<=20->p<=b.length->A00 b p xs q ->
  Y E0 (.loop 51 2 0 6 [(2,.pa 0 0),(4,.pa 1 0),(6,.pa 2 0),(104,.i (m:Int)),(105,.i (j:Int))] [(0,some (.var [.nil,.nil,.nil,.i 0,.i 0,.i 0,.i 0,.b false,.nil,.i 0,.i 0,.nil,.i 0,.i 0,.i 0,.i 0,.i 0,.i 0,.nil])),(1,some (.var [.pa 3 0])),(2,some (.var [.sl (.sl .u8) sd,.sl (.sl .u8) au,.sl .u8 en,.i ac,.i re,.i rs,.i ck,.b od,.sl (.sl (.sl .u8)) sb,.i su,.i mc,.nil,.i l1,.i l2,.i l3,.i l4,.i l5,.i l6,.nm 4])),(3,some (.var [.pa 5 0,.i 0])),(4,some (.row 187 BR (l))),(5,some (.var [.sl .u8 b,.i (p:Int),.i 0]))])
   = some (.fin (.exit 4) 6 [(2,.pa 0 0),(4,.pa 1 0),(6,.pa 2 0)] [(0,some (.var [.nil,.nil,.nil,.i 0,.i 0,.i 0,.i 0,.b false,.nil,.i 0,.i 0,.nil,.i 0,.i 0,.i 0,.i 0,.i 0,.i 0,.nil])),(1,some (.var [.pa 3 0])),(2,some (.var [.sl (.sl .u8) sd,.sl (.sl .u8) au,.sl .u8 en,.i ac,.i re,.i rs,.i ck,.b od,.sl (.sl (.sl .u8)) sb,.i su,.i mc,.nil,.i l1,.i l2,.i l3,.i l4,.i l5,.i l6,.nm 4])),(3,some (.var [.pa 5 0,.i 0])),(4,some (.row 187 BR (l++xs))),(5,some (.var [.sl .u8 b,.i (q:Int),.i 0]))])
 | 0,j,l,[],p,q,hj,hx,hl,hp,h=>by
  obtain rfl:j=m:=zaa
  obtain rfl:q=p:=h
  rw[List.append_nil]
  rw[AO];conv=>lhs;whnf
  refine tq ?_
  with_reducible rfl
 | k+1,j,l,(x,y)::xs,p,q,hj,hx,hl,hp,h=>by
  obtain⟨p1,p2,g1,g2,hy,g3⟩:=h
  have q1:=Kt hp g1
  have h1:=MI b x p p1 hb hp g1
  have h2:=Eg b p1 p2 1 y hb q1 g2 (Int.le_trans (show(y:Int)<=1000 from hy) zad)
  have ih:=Vt sd au en ac re rs ck od sb su mc b l1 l2 l3 l4 l5 l6 hb m hm k (j+1) (l++[(x,y)]) xs p2 q zaa zaZ zat (FH q1 g2) g3
  rw[show((j+1:Nat):Int)=(j:Int)+1 from by omega,List.append_assoc,List.singleton_append] at ih
  rw[<-Am l [(x,y)]] at ih
  rw[AO];conv=>lhs;whnf
  refine tq ?_
  rw[h1]
  refine tq ?_
  rw[h2]
  refine tq ?_
  exact ih
theorem sZ(sd au:List (List UInt8))(en:List UInt8)(ac re rs ck:Int)(od:Bool)(sb:List (List (List UInt8)))(su mc:Int)(b:List UInt8)(l1 l2 l3 l4 l5 l6:Int)(hb:b.length<=1000000)(x:List UInt8)(y:Int)(xs:List (El BR))(m:Nat)(hm:m<=8)(hx:xs.length+1=m)(p q:Nat)(hp:p<=b.length)(h:A00 b p ((x,y)::xs) q):
  Y E0 (.loop 51 2 0 5 [(2,.pa 0 0),(4,.pa 1 0),(6,.pa 2 0),(104,.i (m:Int)),(105,.i 0)] [(0,some (.var [.nil,.nil,.nil,.i 0,.i 0,.i 0,.i 0,.b false,.nil,.i 0,.i 0,.nil,.i 0,.i 0,.i 0,.i 0,.i 0,.i 0,.nil])),(1,some (.var [.pa 3 0])),(2,some (.var [.sl (.sl .u8) sd,.sl (.sl .u8) au,.sl .u8 en,.i ac,.i re,.i rs,.i ck,.b od,.sl (.sl (.sl .u8)) sb,.i su,.i mc,.nil,.i l1,.i l2,.i l3,.i l4,.i l5,.i l6,.nil])),(3,some (.var [.pa 4 0,.i 0])),(4,some (.var [.sl .u8 b,.i (p:Int),.i 0]))])
   = some (.fin (.exit 4) 6 [(2,.pa 0 0),(4,.pa 1 0),(6,.pa 2 0)] [(0,some (.var [.nil,.nil,.nil,.i 0,.i 0,.i 0,.i 0,.b false,.nil,.i 0,.i 0,.nil,.i 0,.i 0,.i 0,.i 0,.i 0,.i 0,.nil])),(1,some (.var [.pa 3 0])),(2,some (.var [.sl (.sl .u8) sd,.sl (.sl .u8) au,.sl .u8 en,.i ac,.i re,.i rs,.i ck,.b od,.sl (.sl (.sl .u8)) sb,.i su,.i mc,.nil,.i l1,.i l2,.i l3,.i l4,.i l5,.i l6,.nm 4])),(3,some (.var [.pa 5 0,.i 0])),(4,some (.row 187 BR ((x,y)::xs))),(5,some (.var [.sl .u8 b,.i (q:Int),.i 0]))]):=by
 obtain⟨p1,p2,g1,g2,hy,g3⟩:=h
 have q1:=Kt hp g1
 have h1:=MI b x p p1 hb hp g1
 have h2:=Eg b p1 p2 1 y hb q1 g2 (Int.le_trans (show(y:Int)<=1000 from hy) zad)
 have ih:=Vt sd au en ac re rs ck od sb su mc b l1 l2 l3 l4 l5 l6 hb m hm (m-1) 1 [(x,y)] xs p2 q zaa zaa zat (FH q1 g2) g3
 rw[List.singleton_append,show((1:Nat):Int)=0+1 from rfl] at ih
 rw[AO];conv=>lhs;whnf
 refine tq ?_
 rw[h1]
 refine tq ?_
 rw[h2]
 refine tq ?_
 exact ih
theorem lh(sd au:List (List UInt8))(en:List UInt8)(ac re rs ck:Int)(od:Bool)(sb:List (List (List UInt8)))(su mc:Int)(b:List UInt8)(l1 l2 l3 l4 l5 l6:Int)(p:Nat):Y E0 (.loop 51 2 0 5 [(2,.pa 0 0),(4,.pa 1 0),(6,.pa 2 0),(104,.i 0),(105,.i 0)] [(0,some (.var [.nil,.nil,.nil,.i 0,.i 0,.i 0,.i 0,.b false,.nil,.i 0,.i 0,.nil,.i 0,.i 0,.i 0,.i 0,.i 0,.i 0,.nil])),(1,some (.var [.pa 3 0])),(2,some (.var [.sl (.sl .u8) sd,.sl (.sl .u8) au,.sl .u8 en,.i ac,.i re,.i rs,.i ck,.b od,.sl (.sl (.sl .u8)) sb,.i su,.i mc,.nil,.i l1,.i l2,.i l3,.i l4,.i l5,.i l6,.nil])),(3,some (.var [.pa 4 0,.i 0])),(4,some (.var [.sl .u8 b,.i (p:Int),.i 0]))])=some (.fin (.exit 4) 5 [(2,.pa 0 0),(4,.pa 1 0),(6,.pa 2 0)] [(0,some (.var [.nil,.nil,.nil,.i 0,.i 0,.i 0,.i 0,.b false,.nil,.i 0,.i 0,.nil,.i 0,.i 0,.i 0,.i 0,.i 0,.i 0,.nil])),(1,some (.var [.pa 3 0])),(2,some (.var [.sl (.sl .u8) sd,.sl (.sl .u8) au,.sl .u8 en,.i ac,.i re,.i rs,.i ck,.b od,.sl (.sl (.sl .u8)) sb,.i su,.i mc,.nil,.i l1,.i l2,.i l3,.i l4,.i l5,.i l6,.nil])),(3,some (.var [.pa 4 0,.i 0])),(4,some (.var [.sl .u8 b,.i (p:Int),.i 0]))]):=by
 rw[AO];conv=>lhs;whnf
 exact tq rfl
theorem A3o(b:List UInt8)(sd au:List (List UInt8))(en:List UInt8)(ac re rs ck:Int)(od:Bool)(sb:List (List (List UInt8)))(su mc:Int)(l1 l2 l3 l4 l5 l6 w:Int)(ks:List (El BR))(X:List UInt8)(pN pA pB pC pD pE pF pG pH pI pJ pL pM:Nat)
  (hb:b.length<=1000000) (hbl:2<=b.length) (hac:ac<=3) (hsd:sd.length=3) (hau:au.length=4) (hre:re<=1000000) (hrs:rs<=1000000) (hck:ck<=2000000000000) (hw:w<=1) (hod:Dw w 1=od) (hkl:ks.length<=8) (hX:Y E0 (.call 138 [.sl .u8 X] [])=some (.ret (.tup [.agg [.sl (.sl (.sl .u8)) sb,.i su],.i 0]) [])) (hmc:mc<=2000000000000)
  (g0:Ey b 0 0 1=(1,1,0)) (g1:Ey b 1 0 1=(ac,2,0)) (gA:lU b 2 sd pA) (gB:lU b pA au pB) (gC:JK b pB 0 4096=(en,pC,0)) (gD:Ey b pC 0 8=(re,pD,0)) (gE:Ey b pD 0 8=(rs,pE,0)) (gF:Ey b pE 0 8=(ck,pF,0)) (gG:Ey b pF 0 1=(w,pG,0))
  (gH:JK b pG 0 4096=(X,pH,0)) (gI:Ey b pH 0 8=(mc,pI,0)) (gJ:Ey b pI 0 1=(0,pJ,0)) (gL:zo b pJ [l1,l2,l3,l4,l5,l6] pL) (gM:Ey b pL 0 1=((ks.length:Int),pM,0)) (gK:A00 b pM ks pN) (gZ:VT b pN 0=0) :
  Y E0 (.call 51 [.sl .u8 b] [])=some (.ret (.tup [.agg (Rt sd au en ac re rs ck od sb su mc [] l1 l2 l3 l4 l5 l6 ks),.i 0]) []):=by
 have k2:2<=b.length:=hbl
 have kA:=YV k2 gA
 have kB:=YV kA gB
 have kC:=Kt kB gC
 have kD:=FH kC gD
 have h0:=Eg b 0 1 1 1 hb zaa g0 zaa
 have h1:=ND b 1 2 1 3 ac hb zaa g1 hac
 have hA:=QW b 3 sd 2 pA hb hsd zaa k2 gA
 have hB:=QW b 4 au pA pB hb hau zaa kA gB
 have hC:=MI b en pB pC hb kB gC
 have hD:=Eg b pC pD 8 re hb kC gD zaa
 have kE:=FH kD gE
 have hE:=Eg b pD pE 8 rs hb kD gE zaa
 have kF:=FH kE gF
 have hF:=Eg b pE pF 8 ck hb kE gF zaa
 have kG:=FH kF gG
 have hG:=lS b pF pG w hb kF gG hw
 rw[hod] at hG
 have kH:=Kt kG gH
 have hH:=sW b X sb su pG pH hb kG gH hX
 have kI:=FH kH gI
 have hI:=Eg b pH pI 8 mc hb kH gI zaa
 have kJ:=FH kI gJ
 have hJ:=ND b pI pJ 1 6 0 hb kI gJ zaa
 have hL:=Ph sd au en ac re rs ck od sb su mc b l1 l2 l3 l4 l5 l6 pJ pL hb kJ gL
 have kL:pL<=b.length:=sF kJ gL
 have hM:=ND b pL pM 1 8 (ks.length:Int) hb kL gM zaa
 have kM:=FH kL gM
 have hN:=A3n kM gK
 have hZ:=Tt b pN 0 zaa hN
 rw[gZ] at hZ
 have h0k:=lg sd au en ac re rs ck od sb su mc b pJ
 cases ks with
 | nil =>
  obtain rfl:pN=pM:=gK
  have hQ:=lh sd au en ac re rs ck od sb su mc b l1 l2 l3 l4 l5 l6 pN
  rw[List.length_nil,show((0:Nat):Int)=0 from rfl] at hM
  refine tq ?_
  rw[PW _ Aq]
  refine tq ?_
  rw[show Y E0 (.call 92 [.pa 0 0,.i 1] [.var [.pa 1 0,.i 0],.var [.sl .u8 b,.i 0,.i 0]])=_ from h0]
  refine tq ?_
  rw[h1]
  refine tq ?_
  rw[show Y E0 (.call 94 [.i 3,.pa 0 0] _)=_ from hA]
  refine tq ?_
  rw[show Y E0 (.call 94 [.i 4,.pa 0 0] _)=_ from hB]
  refine tq ?_
  rw[hC]
  refine tq ?_
  rw[hD]
  refine tq ?_
  rw[hE]
  refine tq ?_
  rw[hF]
  refine tq ?_
  rw[hG]
  refine tq ?_
  rw[hH]
  refine tq ?_
  rw[hI]
  refine tq ?_
  rw[hJ]
  refine tq ?_
  rw[h0k]
  refine tq ?_
  rw[Ph (hb:=Aq) (hp:=Aq) (g:=Aq) ..]
  refine tq ?_
  rw[hM]
  refine tq ?_
  rw[hQ]
  refine tq ?_
  rw[hZ]
  conv=>lhs;whnf
  try dsimp -iota -beta -eta -zeta only
  rw[drw zaj];conv=>lhs;whnf
  rw[AO]
  conv=>lhs;whnf
  rw[AO]
  conv=>lhs;whnf
  rw[DY zaa]
  conv=>lhs;whnf
 | cons x xs =>
  obtain⟨x,y⟩:=x
  have hQ:=sZ sd au en ac re rs ck od sb su mc b l1 l2 l3 l4 l5 l6 hb x y xs (xs.length+1) (by simpa using hkl) rfl pM pN kM gK
  rw[List.length_cons] at hM
  refine tq ?_
  rw[PW _ Aq]
  refine tq ?_
  rw[show Y E0 (.call 92 [.pa 0 0,.i 1] [.var [.pa 1 0,.i 0],.var [.sl .u8 b,.i 0,.i 0]])=_ from h0]
  refine tq ?_
  rw[h1]
  refine tq ?_
  rw[show Y E0 (.call 94 [.i 3,.pa 0 0] _)=_ from hA]
  refine tq ?_
  rw[show Y E0 (.call 94 [.i 4,.pa 0 0] _)=_ from hB]
  refine tq ?_
  rw[hC]
  refine tq ?_
  rw[hD]
  refine tq ?_
  rw[hE]
  refine tq ?_
  rw[hF]
  refine tq ?_
  rw[hG]
  refine tq ?_
  rw[hH]
  refine tq ?_
  rw[hI]
  refine tq ?_
  rw[hJ]
  refine tq ?_
  rw[h0k]
  refine tq ?_
  rw[Ph (hb:=Aq) (hp:=Aq) (g:=Aq) ..]
  refine tq ?_
  rw[hM]
  refine tq ?_
  rw[hQ]
  refine tq ?_
  rw[hZ]
  conv=>lhs;whnf
  try dsimp -iota -beta -eta -zeta only
  rw[drw zaj];conv=>lhs;whnf
  rw[AO]
  conv=>lhs;whnf
  rw[AO]
  conv=>lhs;whnf
  rw[DY zaa]
  conv=>lhs;whnf
theorem AAC{b r:List UInt8}:∀(ks:List (El BR)) {p:Nat},p<=b.length->b.drop p=ks.flatMap Ri++r->(∀ x∈ks,x.1.length<=1000/\(0:Int)<=x.2/\(x.2:Int)<=255)->∃ q,A00 b p ks q/\q<=b.length/\b.drop q=r
 | [],p,hp,h,_=>⟨p,rfl,hp,h⟩
 | (x,y)::ks,p,hp,h,hk=>by
  obtain⟨k1,k2,k3⟩:=hk (x,y) (List.mem_cons_self ..)
  rw[List.flatMap_cons,Ri,List.append_assoc,List.append_assoc] at h
  obtain⟨p1,g1,q1,d1⟩:=OW hp h (show x.length<=4096 from Nat.le_trans k1 zad)
  obtain⟨g2,q2,d2⟩:=Pg (x:=y) q1 d1 ⟨k2,Int.lt_of_le_of_lt k3 zad⟩
  obtain⟨q,g3,q3,d3⟩:=AAC ks q2 d2 fun z hz=>hk z (List.mem_cons_of_mem _ hz)
  exact⟨q,⟨p1,_,g1,g2,Int.le_trans k3 zad,g3⟩,q3,d3⟩
theorem A01(sd au:List (List UInt8))(en:List UInt8)(ac re rs ck:Int)(od:Bool)(sb:List (List (List UInt8)))(su mc l1 l2 l3 l4 l5 l6:Int)(ks:List (El BR))(hkl:ks.length<=8)(hks:∀ x∈ks,x.1.length<=1000/\(0:Int)<=x.2/\(x.2:Int)<=255)(hX:Y E0 (.call 138 [.sl .u8 (NS sb su)] [])=some (.ret (.tup [.agg [.sl (.sl (.sl .u8)) sb,.i su],.i 0]) []))(hXl:(NS sb su).length<=4000)(hac:0<=ac/\ac<=3)(hsd:sd.length=3)(hau:au.length=4)(hsm:∀ x∈sd,x.length<=1000)(ham:∀ x∈au,x.length<=1000)(hen:en.length<=1000)(hre:0<=re/\re<=1000000)(hrs:0<=rs/\rs<=1000000)(hck:0<=ck/\ck<=2000000000000)(hmc:0<=mc/\mc<=2000000000000)(hl:kP l1 l2 l3 l4 l5 l6):
  Y E0 (.call 51 [.sl .u8 (encS sd au en ac re rs ck od sb su mc [] l1 l2 l3 l4 l5 l6 ks)] [])=some (.ret (.tup [.agg (Rt sd au en ac re rs ck od sb su mc [] l1 l2 l3 l4 l5 l6 ks),.i 0]) []):=by
 obtain⟨s0,s1,s2,rfl⟩:∃ s0 s1 s2,sd=[s0,s1,s2]:=by
  match sd,hsd with
  | [a,b,c],_=>exact⟨a,b,c,rfl⟩
 obtain⟨a0,a1,a2,a3,rfl⟩:∃ a0 a1 a2 a3,au=[a0,a1,a2,a3]:=by
  match au,hau with
  | [a,b,c,d],_=>exact⟨a,b,c,d,rfl⟩
 have m0:=hsm s0 zak
 have m1:=hsm s1 zak
 have m2:=hsm s2 zak
 have n0:=ham a0 zak
 have n1:=ham a1 zak
 have n2:=ham a2 zak
 have n3:=ham a3 zak
 obtain⟨z1,z2,z3,z4,z5,z6,z7,z8,z9,z10,z11,z12⟩:=hl
 generalize hb:encS [s0,s1,s2] [a0,a1,a2,a3] en ac re rs ck od sb su mc [] l1 l2 l3 l4 l5 l6 ks=b
 have e0:b.drop 0=UInt8.ofInt 1::UInt8.ofInt ac::(bl s0++(bl s1++(bl s2++(bl a0++(bl a1++(bl a2++(bl a3++(bl en++(n8 re++(n8 rs++(n8 ck++(UInt8.ofInt (if od then 1 else 0)::(bl (NS sb su)++(n8 mc++(UInt8.ofInt 0::(n8 l1++(n8 l2++(n8 l3++(n8 l4++(n8 l5++(n8 l6++(UInt8.ofInt (ks.length:Int)::(ks.flatMap Ri++[]))))))))))))))))))))))):=by
  rw[List.drop_zero,<-hb]
  delta encS
  rw[show zf od=UInt8.ofInt (if od then 1 else 0) from by cases od<;>rfl]
  simp only[List.append_assoc,List.cons_append,List.nil_append,List.append_nil,List.flatMap_nil,List.getD_cons_zero,List.getD_cons_succ,List.length_nil]
  rfl
 have hlen:b.length<=40000:=by
  have:=congrArg List.length e0
  have hK:(List.flatMap Ri ks).length<=8024:=Nat.le_trans (Ho (m:=1003) fun x hx=>by have:=(hks x hx).1;simp only[Ri,List.length_append,Ce,List.length_cons,List.length_nil];omega) zaa
  simp only[List.drop_zero,List.length_cons,List.length_append,Ce,Bq,List.length_nil] at this
  omega
 obtain⟨g0,q0,d0⟩:=Pg (Nat.zero_le _) e0 zaa
 obtain⟨g1,q1,d1⟩:=Pg q0 d0 zaa
 obtain⟨pa,ga,qa,da⟩:=OW q1 d1 zaa
 obtain⟨pb,gb,qb,db⟩:=OW qa da zaa
 obtain⟨pA,gc,qA,dA⟩:=OW qb db zaa
 obtain⟨pd,gd,qd,dd⟩:=OW qA dA zaa
 obtain⟨pe,ge,qe,de⟩:=OW qd dd zaa
 obtain⟨pf,gf,qf,df⟩:=OW qe de zaa
 obtain⟨pB,gg,qB,dB⟩:=OW qf df zaa
 obtain⟨pC,gC,qC,dC⟩:=OW qB dB zaa
 obtain⟨pD,gD,qD,dD⟩:=MO qC dC zaa
 obtain⟨pE,gE,qE,dE⟩:=MO qD dD zaa
 obtain⟨pF,gF,qF,dF⟩:=MO qE dE zaa
 obtain⟨gG,qG,dG⟩:=Pg qF dF (by cases od<;>simp)
 obtain⟨pH,gH,qH,dH⟩:=OW qG dG zaa
 obtain⟨pI,gI,qI,dI⟩:=MO qH dH zaa
 obtain⟨gJ,qJ,dJ⟩:=Pg qI dI zaa
 obtain⟨p1,k1,r1,t1⟩:=MO qJ dJ zaa
 obtain⟨p2,k2,r2,t2⟩:=MO r1 t1 zaa
 obtain⟨p3,k3,r3,t3⟩:=MO r2 t2 zaa
 obtain⟨p4,k4,r4,t4⟩:=MO r3 t3 zaa
 obtain⟨p5,k5,r5,t5⟩:=MO r4 t4 zaa
 obtain⟨pL,k6,r6,t6⟩:=MO r5 t5 zaa
 obtain⟨gM,qM,dM⟩:=Pg r6 t6 zaa
 obtain⟨pN,gN,qN,dN⟩:=AAC ks qM dM hks
 refine A3o b [s0,s1,s2] [a0,a1,a2,a3] en ac re rs ck od sb su mc l1 l2 l3 l4 l5 l6 (if od then 1 else 0) ks (NS sb su) pN pA pB pC pD pE pF (pF+1) pH pI (pI+1) pL (pL+1) zaa zaa hac.2 rfl rfl hre.2 hrs.2 hck.2 (by cases od<;>simp) ?_ hkl hX hmc.2 g0 g1 ⟨pa,ga,pb,gb,pA,gc,rfl⟩ ⟨pd,gd,pe,ge,pf,gf,pB,gg,rfl⟩ gC gD gE gF gG gH gI gJ ⟨by omega,p1,k1,by omega,p2,k2,by omega,p3,k3,by omega,p4,k4,by omega,p5,k5,by omega,pL,k6,rfl⟩ gM gN (OI qN dN)
 cases od
 ·exact Jc zad
 ·exact Ff rfl
end
section
attribute [local irreducible] Bl CQ CS Bo Bg Ar CU Dw EN Dy EC Bf BU Bv Bz and' C9 CB BK Au BA BL BN Aa Ad AP AZ CV Dq CW DI CE BP BM BF BG BB AU BC Ae Ap Ai CX BH Bh Ba BO CG CY CJ fits CZ CO A8 AA Ac
attribute [local irreducible] Aw Di
theorem A6S:Y E0 (.call 115 [] [])=some (.ret (.agg [.i 0,.i 5,.i 100,.i 0,.i 0,.i 1000]) []):=by
 refine tq ?_
 with_reducible rfl
theorem A02(en:List UInt8)(a:Int)(he:en.length=32)(e:List (List UInt8)):Y E0 (.loop 75 0 0 3 [(0,AV.sl Ty.u8 en),(4,AV.pa 0 0),(6,AV.pa 1 0),(24,AV.i 0)] [(0,some (Rs.var [AV.nil,AV.nil,AV.nil,AV.i 0,AV.i 0,AV.i 0,AV.i 0,AV.b false,AV.nil,AV.i 0,AV.i 0,AV.nil,AV.i 0,AV.i 0,AV.i 0,AV.i 0,AV.i 0,AV.i 0,AV.nil])),(1,some (Rs.var [AV.nil,AV.nm 2,AV.nil,AV.i a,AV.i 0,AV.i 0,AV.i 0,AV.b true,AV.nil,AV.i 0,AV.i 0,AV.nil,AV.i 0,AV.i 5,AV.i 100,AV.i 0,AV.i 0,AV.i 1000,AV.nil])),(2,some (Rs.row 22 Ty.u8.sl e))])=some (.fin (.exit 0) 4 [(0,AV.sl Ty.u8 en),(4,AV.pa 0 0),(6,AV.pa 1 0)] [(0,some (Rs.var [AV.nil,AV.nil,AV.nil,AV.i 0,AV.i 0,AV.i 0,AV.i 0,AV.b false,AV.nil,AV.i 0,AV.i 0,AV.nil,AV.i 0,AV.i 0,AV.i 0,AV.i 0,AV.i 0,AV.i 0,AV.nil])),(1,some (Rs.var [AV.nm 2,AV.nm 3,AV.nil,AV.i a,AV.i 0,AV.i 0,AV.i 0,AV.b true,AV.nil,AV.i 0,AV.i 0,AV.nil,AV.i 0,AV.i 5,AV.i 100,AV.i 0,AV.i 0,AV.i 1000,AV.nil])),(2,some (Rs.row 22 Ty.u8.sl (AX en))),(3,some (Rs.row 22 Ty.u8.sl e))]):=by
 rw[AO];conv=>lhs;whnf
 refine tq ?_
 rw[Fh _ _ _ _ Aq Aq Aq]
 refine tq ?_
 refine tq ?_
 rw[Fh _ _ _ _ Aq Aq Aq]
 refine tq ?_
 refine tq ?_
 rw[Fh _ _ _ _ Aq Aq Aq]
 refine tq ?_
 refine tq ?_
 (rw[Am,Am,Dh,Dh,Dh];rfl)
theorem A6T(en:List UInt8)(a:Int)(he:en.length=32)(ha:0<=a/\a<=3):Y E0 (.call 75 [.sl .u8 en,.i a] [])=some (.ret (.tup [.agg (Rt (AX en) [[],[],[],[]] (Aw en BI [] 32) a 0 0 0 true [] 0 0 [] 0 5 100 0 0 1000 []),.i 0]) []):=by
 have h:=A02 en a he [[],[],[],[]]
 have e4:Ba 4 ([]:List UInt8)=[[],[],[],[]]:=zbj
 refine tq ?_
 rw[A6S]
 refine tq ?_
 rw[e4,h]
 refine tq ?_
 rw[Fh _ _ _ _ Aq Aq Aq]
 refine tq ?_
 rfl
variable (sd au:List (List UInt8))(en:List UInt8)(ac re rs ck:Int)(od:Bool)(sb:List (List (List UInt8)))(su mc:Int)(ix:List (El AL))(l1 l2 l3 l4 l5 l6:Int)(ks:List (El BR))(st sp:Bool)(rb:List (List (List UInt8)))(ru vc:Int)(sf:Bool)(dr:Int)(ss:List (El sesT))(ob:List (El objT))(rl wl:List Int)
theorem A03(h:st=false/\sp=false)(ha:ac=2)(hre:0<=re/\re<=1000000):Y E0 (.call 184 [(sX sd au en ac re rs ck od sb su mc ix l1 l2 l3 l4 l5 l6 ks st sp rb ru vc sf dr ss ob rl wl),.i 0] [])=some (.ret (.tup [(sX sd au en ac (re+1) 0 ck false [] 0 mc ix l1 l2 l3 l4 l5 l6 ks true sp (Dk 2) 0 ck od dr ss ob rl wl),.i 0]) []):=by
 obtain⟨rfl,rfl⟩:=h
 subst ha
 refine tp ?_
 rw[lW]
 refine tq ?_
 rfl
theorem xE(ar:List (List UInt8))(wr cu to:Int)(of on:Bool)(nx:Int)(sd au:List (List UInt8))(en:List UInt8)(ac re rs ck:Int)(od:Bool)(sb:List (List (List UInt8)))(su mc:Int)(ix:List (El AL))(l1 l2 l3 l4 l5 l6:Int)(ks:List (El BR))(st sp:Bool)(rb:List (List (List UInt8)))(ru vc:Int)(sf:Bool)(dr:Int)(ss:List (El sesT))(ob:List (El objT))(rl wl:List Int):Y E0 (.call 53 [GR ar wr cu to of sd au en ac re rs ck od sb su mc ix l1 l2 l3 l4 l5 l6 ks st sp rb ru vc sf dr ss ob rl wl on nx] [])=some (.ret (zg ar wr cu to true false nx) []):=by
 refine tq ?_
 refine tq ?_
 with_reducible rfl
theorem fE(ar:List (List UInt8))(wr cu to:Int)(of on:Bool)(nx:Int)(sd au:List (List UInt8))(en:List UInt8)(ac re rs ck:Int)(od:Bool)(sb:List (List (List UInt8)))(su mc:Int)(ix:List (El AL))(l1 l2 l3 l4 l5 l6:Int)(ks:List (El BR))(st sp:Bool)(rb:List (List (List UInt8)))(ru vc:Int)(sf:Bool)(dr:Int)(ss:List (El sesT))(ob:List (El objT))(rl wl:List Int):Y E0 (.call 26 [GR ar wr cu to of sd au en ac re rs ck od sb su mc ix l1 l2 l3 l4 l5 l6 ks st sp rb ru vc sf dr ss ob rl wl on nx] [])=some (.ret (zg ar wr cu to true false nx) []):=by
 refine tq ?_
 rw[xE ..]
 exact tq rfl
theorem Rj(ar:List (List UInt8))(wr cu to:Int)(of on:Bool)(nx:Int)(sd au:List (List UInt8))(en:List UInt8)(ac re rs ck:Int)(od:Bool)(sb:List (List (List UInt8)))(su mc:Int)(ix:List (El AL))(l1 l2 l3 l4 l5 l6:Int)(ks:List (El BR))(st sp:Bool)(rb:List (List (List UInt8)))(ru vc:Int)(sf:Bool)(dr:Int)(ss:List (El sesT))(ob:List (El objT))(rl wl:List Int):Y E0 (.call 48 [GR ar wr cu to of sd au en ac re rs ck od sb su mc ix l1 l2 l3 l4 l5 l6 ks st sp rb ru vc sf dr ss ob rl wl on nx] [])=some (.ret (.b (on && !of)) []):=by
 cases on
 ·refine tq ?_
  rfl
 ·refine tq ?_
  rfl
theorem A8p(ar:List (List UInt8))(wr cu to:Int)(nx q:Int)(sd au:List (List UInt8))(en:List UInt8)(ac re rs ck:Int)(od:Bool)(su mc l1 l2 l3 l4 l5 l6:Int)(har:OV ar q (encS sd au en ac re rs ck od [] su mc [] l1 l2 l3 l4 l5 l6 []))(hac:0<=ac/\ac<=3)(hsd:sd.length=3)(hau:au.length=4)(hsm:∀ x∈sd,x.length<=1000)(ham:∀ x∈au,x.length<=1000)(hen:en.length<=1000)(hre:0<=re/\re<=1000000)(hrs:0<=rs/\rs<=1000000)(hck:0<=ck/\ck<=2000000000000)(hsu:0<=su/\su<=1000000)(hmc:0<=mc/\mc<=2000000000000)(hl:kP l1 l2 l3 l4 l5 l6):Y E0 (.call 25 [zg ar wr cu to true false nx] [])=some (.ret (.tup [GR ar 0 0 0 false sd au en ac re rs ck od [] su mc [] l1 l2 l3 l4 l5 l6 [] false false [] 0 0 false 0 (List.replicate 3 (0,[],[],0,0,0,0,false)) (List.replicate 3 ((0,0,0,[],[]),([],[],[]),0)) [] [] true (q+1),.i 0]) []):=by
 have h1:=Vo ar q _ 0 0 0 har
 have h2:=A3h sd au en ac re rs ck od su mc l1 l2 l3 l4 l5 l6 hac hsd hau hsm ham hen hre hrs hck hsu hmc hl
 have hq:1<=q/\q<=900000:=⟨har.2.1,har.2.2.1⟩
 have h3:=Rj ar wr cu to true false nx [] [] [] 0 0 0 0 false [] 0 0 [] 0 0 0 0 0 0 [] false false [] 0 0 false 0 [] [] [] []
 refine tq ?_
 rw[h3]
 refine tq ?_
 rw[Vm ..]
 refine tq ?_
 rw[h1]
 refine tq ?_
 rw[h2]
 refine tq ?_
 rw[fA ..]
 exact tq rfl
end
section
attribute [local irreducible] Bl CQ CS Bo Bg Ar CU Dw EN Dy EC Bf BU Bv Bz and' C9 CB BK Au BA BL BN Aa Ad AP AZ CV Dq CW DI CE BP BM BF BG BB AU BC Ae Ap Ai CX BH Bh Ba BO CG CY CJ fits CZ CO A8 AA Ac
theorem AAE{b r:List UInt8}{p:Nat}{x:Int}(hp:p<=b.length)(h:b.drop p=n2 x++r)(h0:0<=x/\x<65536):∃ q,Ey b p 0 2=(x,q,0)/\q<=b.length/\b.drop q=r:=by
 obtain⟨h1,h2,h3⟩:=FZ (n:=2) (x:=x) hp zaa h zaa zaa zaa
 exact⟨_,h1,h2,h3⟩
theorem A8q{b x r:List UInt8}{p:Nat}{m:Int}(hp:p<=b.length)(h:b.drop p=bl x++r)(hx:(x.length:Int)<=m)(hm:m<=65535):∃ q,JK b p 0 m=(x,q,0)/\q<=b.length/\b.drop q=r:=by
 obtain⟨h1,h2,h3⟩:=QF (most:=m) hp h zaa hx
 exact⟨_,h1,h2,h3⟩
theorem mZ{b r:List UInt8}:∀ {hs:List Int} {p:Nat},p<=b.length->b.drop p=hs.flatMap n2++r->(∀ x∈hs,0<=x/\x<=65535)->∃ q,A3z b p hs q/\q<=b.length/\b.drop q=r
 | [],p,hp,h,hm=>⟨p,rfl,hp,by simpa using h⟩
 | x::hs,p,hp,h,hm=>by
  rw[List.flatMap_cons,List.append_assoc] at h
  have hx:=hm x zak
  obtain⟨q,g1,g2,g3⟩:=AAE hp h zaa
  obtain⟨q',k1,k2,k3⟩:=mZ g2 g3 fun y hy=>hm y zbi
  exact⟨q',⟨q,g1,k1⟩,k2,k3⟩
theorem mf{b r:List UInt8}:∀ {az:List (El AQ)} {p:Nat},p<=b.length->b.drop p=az.flatMap MH++r->(∀ x∈az,(0<=x.1/\x.1<=65535)/\x.2.1.length<=128/\x.2.2.length<=128)->∃ q,A41 b p az q/\q<=b.length/\b.drop q=r
 | [],p,hp,h,hm=>⟨p,rfl,hp,by simpa using h⟩
 | x::az,p,hp,h,hm=>by
  rw[List.flatMap_cons,MH] at h
  simp only[List.append_assoc] at h
  have hx:=hm x zak
  obtain⟨q1,g1,g2,g3⟩:=AAE hp h ⟨hx.1.1,Int.lt_of_le_of_lt (show(x.1:Int)<=65535 from hx.1.2) zad⟩
  obtain⟨q2,g4,g5,g6⟩:=A8q g2 g3 (show(x.2.1.length:Int)<=128 by omega) zaa
  obtain⟨q3,g7,g8,g9⟩:=A8q g5 g6 (show(x.2.2.length:Int)<=128 by omega) zaa
  obtain⟨q',k1,k2,k3⟩:=mf g8 g9 fun y hy=>hm y zbi
  exact⟨q',⟨q1,g1,q2,g4,q3,g7,k1⟩,k2,k3⟩
theorem mi{b r:List UInt8}:∀ {is:List Int} {p:Nat},p<=b.length->b.drop p=is.flatMap n8++r->(∀ x∈is,0<=x/\x<=1099511627776)->∃ q,A43 b p is q/\q<=b.length/\b.drop q=r
 | [],p,hp,h,hm=>⟨p,rfl,hp,by simpa using h⟩
 | x::is,p,hp,h,hm=>by
  rw[List.flatMap_cons,List.append_assoc] at h
  have hx:=hm x zak
  obtain⟨q,g1,g2,g3⟩:=MO hp h zaa
  obtain⟨q',k1,k2,k3⟩:=mi g2 g3 fun y hy=>hm y zbi
  exact⟨q',⟨by omega,q,g1,k1⟩,k2,k3⟩
theorem U9{b r:List UInt8}{m:Int}(hm0:m<=65535):∀ {bs:List (List UInt8)} {p:Nat},p<=b.length->b.drop p=bs.flatMap bl++r->(∀ x∈bs,(x.length:Int)<=m)->∃ q,tK b m p bs q/\q<=b.length/\b.drop q=r
 | [],p,hp,h,hm=>⟨p,rfl,hp,by simpa using h⟩
 | x::bs,p,hp,h,hm=>by
  rw[List.flatMap_cons,List.append_assoc] at h
  obtain⟨q,g1,g2,g3⟩:=A8q hp h (hm x zak) hm0
  obtain⟨q',k1,k2,k3⟩:=U9 hm0 g2 g3 fun y hy=>hm y zbi
  exact⟨q',⟨q,g1,k1⟩,k2,k3⟩
theorem mr(c nb:Int)(hs:List Int)(az:List (El AQ))(is:List Int)(bs:List (List UInt8))(hc:0<=c/\c<=255)(hsh:Y E0 (.call 158 [.i c] [])=some (.ret (.tup [.i (hs.length:Int),.i (az.length:Int),.i (is.length:Int),.i nb,.b true]) []))(hct:Y E0 (.call 159 [.i (bs.length:Int),.i nb] [])=some (.ret (.b true) []))
  (hl:hs.length<=10) (hal:az.length<=10) (hil:is.length<=10) (hbl:bs.length<=10) (hhm:∀ x∈hs,0<=x/\x<=65535) (ham:∀ x∈az,(0<=x.1/\x.1<=65535)/\x.2.1.length<=128/\x.2.2.length<=128) (him:∀ x∈is,0<=x/\x<=1099511627776) (hbm:∀ x∈bs,x.length<=1024) (hlen:(Hm c hs az is bs).length<=2048):Y E0 (.call 129 [.sl .u8 (Hm c hs az is bs)] [])=some (.ret (.tup [rq c hs az is bs,.i 0]) []):=by
 obtain⟨u,v,huv⟩:=Xh (5+(Gt c hs az is bs).length)
 have e:Hm c hs az is bs=83::87::u::v::UInt8.ofInt c::Gt c hs az is bs:=by
  rw[Hm,show n2 (5+(Gt c hs az is bs).length:Int)=WE (5+(Gt c hs az is bs).length) from rfl,huv];rfl
 have hL:(Hm c hs az is bs).length=5+(Gt c hs az is bs).length:=by rw[e];simp only[List.length_cons];omega
 have hv:=Xi zaa huv
 have hib:Ar .or (Bf (Dq u) (UInt64.ofNat 8).toNat) (Dq v)=((Hm c hs az is bs).length:Int):=by
  have:=u.toNat_lt
  have:=v.toNat_lt
  rw[show(UInt64.ofNat 8).toNat=8 from rfl,Jn,Jn,A26,qc,Xe];omega
 have g:∀ i:Nat,i<5->Ai (Hm c hs az is bs) (i:Int)=some ([83,87,u,v,UInt8.ofInt c].getD i 0):=by
  intro i hi
  rw[DD,e]
  rcases i with _|_|_|_|_|i
  all_goals first|rfl|omega
 have hst:=A07 (Hm c hs az is bs) u v (UInt8.ofInt c) zaa (g 0 zaa) (g 1 zaa) (g 2 zaa) (g 3 zaa) (g 4 zaa) hib
 have hcc:Dq (UInt8.ofInt c)=c:=by
  rw[Jn]
  rw[jd zaa]
  omega
 rw[hcc] at hst
 have hx:List.take (Ap (Hm c hs az is bs)-5).toNat (List.drop (Int.toNat 5) (Hm c hs az is bs))=Gt c hs az is bs:=by
  rw[AC,hL,e]
  show List.take _ (Gt c hs az is bs)=_
  exact List.take_of_length_le zaa
 generalize hB:Gt c hs az is bs=x at hx hL
 have e0:x.drop 0=hs.flatMap n2++(az.flatMap MH++(is.flatMap n8++(UInt8.ofInt (bs.length:Int)::(bs.flatMap bl++[])))):=by
  rw[List.drop_zero,<-hB,Gt];simp only[List.append_assoc,List.cons_append,List.nil_append,List.append_nil]
 obtain⟨p1,g1,q1,d1⟩:=mZ (Nat.zero_le _) e0 hhm
 obtain⟨p2,g2,q2,d2⟩:=mf q1 d1 ham
 obtain⟨p3,g3,q3,d3⟩:=mi q2 d2 him
 obtain⟨g4,q4,d4⟩:=Pg q3 d3 zaa
 obtain⟨p5,g5,q5,d5⟩:=U9 (m:=1024) zaa q4 d4 (fun x hx=>by have:=hbm x hx;omega)
 exact A6U (Hm c hs az is bs) x c nb hs az is bs p1 p2 p3 (p3+1) p5 hst hx zaa hsh hct hl hal hil hbl g1 g2 g3 g4 g5 (OI q5 d5)
end
section
attribute [local irreducible] Bl CQ CS Bo Bg Ar CU Dw EN Dy EC Bf BU Bv Bz and' C9 CB BK Au BA BL BN Aa Ad AP AZ CV Dq CW DI CE BP BM BF BG BB AU BC Ae Ap Ai CX BH Bh Ba BO CG CY CJ fits CZ CO A8 AA Ac
@[reducible] def JC (e:Int) (is:List Int) (bs ns:List (List UInt8)):AV:=.agg [.i e,.sl .i64 is,.sl (.sl .u8) bs,.sl (.sl .u8) ns]
theorem A46(e:Int)(is:List Int)(bs ns:List (List UInt8))(he:e≠0):Y E0 (.call 130 [JC e is bs ns] [])=some (.ret (.sl .u8 (JU e is bs ns)) []):=by
 have h:[DI e]=JU e is bs ns:=by rw[JU,if_pos he,Dh]
 refine tq ?_
 (rw[h])
theorem aO(is:List Int)(bs ns:List (List UInt8))(hl:is.length<=10):∀(k j:Nat) (b:List UInt8),j+k=is.length->b.length+8*k<=1000 ->
  Y E0 (.loop 130 0 0 2 [(1,.pa 0 0),(3,.nm 1),(26,.sl .i64 is),(27,.i (is.length:Int)),(28,.i (j:Int))] [(0,some (.var [.i 0,.sl .i64 is,.sl (.sl .u8) bs,.sl (.sl .u8) ns])),(1,some (.row 5 .u8 b))])
   = some (.fin (.exit 0) 2 [(1,.pa 0 0),(3,.nm 1)] [(0,some (.var [.i 0,.sl .i64 is,.sl (.sl .u8) bs,.sl (.sl .u8) ns])),(1,some (.row 5 .u8 (b++(is.drop j).flatMap n8)))])
 | 0,j,b,hj,hb=>by
  obtain rfl:j=is.length:=zaa
  rw[List.drop_length,List.flatMap_nil,List.append_nil]
  rw[AO];conv=>lhs;whnf
  refine tq ?_
  with_reducible rfl
 | k+1,j,b,hj,hb=>by
  obtain⟨x,hm,hg⟩:=Gp (l:=is) (i:=(j:Int)) zaa
  have el:=Bq x
  have ih:=aO is bs ns hl k (j+1) (b++n8 x) zaa zaC
  rw[DD] at hg
  rw[show((j+1:Nat):Int)=(j:Int)+1 from by omega,List.append_assoc,<-List.flatMap_cons,<-Hy hg,<-KL] at ih
  rw[<-DD] at hg
  rw[AO];conv=>lhs;whnf
  refine to ?_
  rw[hg]
  refine tq ?_
  rw[D5 _ _ _ Aq]
  refine tq ?_
  exact ih
theorem VC(q:List (List (List UInt8)))(i:Int)(bs:List (List UInt8))(hl:bs.length<=10)(hx:∀ x∈bs,x.length<=2000):∀(k j:Nat) (b:List UInt8),j+k=bs.length->b.length+2002*k<=100000 ->
  Y E0 (.loop 130 2 0 1 [(3,.nm 0),(40,.sl (.sl (.sl .u8)) q),(41,.i 2),(42,.i i),(52,.sl (.sl .u8) bs),(53,.i (bs.length:Int)),(54,.i (j:Int))] [(0,some (.row 5 .u8 b))])
   = some (.fin (.exit 4) 1 [(3,.nm 0),(40,.sl (.sl (.sl .u8)) q),(41,.i 2),(42,.i i)] [(0,some (.row 5 .u8 (b++(bs.drop j).flatMap bl)))])
 | 0,j,b,hj,hb=>by
  obtain rfl:j=bs.length:=zaa
  rw[List.drop_length,List.flatMap_nil,List.append_nil]
  rw[AO];conv=>lhs;whnf
  refine tq ?_
  with_reducible rfl
 | k+1,j,b,hj,hb=>by
  obtain⟨x,hm,hg⟩:=Gp (l:=bs) (i:=(j:Int)) zaa
  have ho:=hx x hm
  have el:=Ce x
  have ih:=VC q i bs hl hx k (j+1) (b++bl x) zaa zaC
  rw[DD] at hg
  rw[show((j+1:Nat):Int)=(j:Int)+1 from by omega,List.append_assoc,<-List.flatMap_cons,<-Hy hg,<-GI (show x.length<=65535 by omega)] at ih
  rw[<-DD] at hg
  rw[AO];conv=>lhs;whnf
  refine to ?_
  rw[hg]
  refine tq ?_
  rw[Ep _ _ Aq]
  refine tq ?_
  exact ih
theorem A08(bs ns:List (List UInt8))(b:List UInt8)(hb:bs.length<=10)(hn:ns.length<=10)(hbm:∀ x∈bs,x.length<=1024)(hnm:∀ x∈ns,x.length<=1024)(hbl:b.length<=1000):Y E0 (.loop 130 1 0 1 [(3,.nm 0),(40,.sl (.sl (.sl .u8)) [bs,ns]),(41,.i 2),(42,.i 0)] [(0,some (.row 5 .u8 b))])
   = some (.fin (.exit 2) 0 [(3,.sl .u8 (b++(UInt8.ofInt (bs.length:Int)::(bs.flatMap bl++(UInt8.ofInt (ns.length:Int)::ns.flatMap bl)))))] []):=by
 have hB:(bs.flatMap bl).length<=10260:=Nat.le_trans (Ho (m:=1026) fun x hx=>by have:=hbm x hx;rw[Ce];omega) zaa
 have h1:=fun i=>VC [bs,ns] i bs hb (fun x hx=>by have:=hbm x hx;omega) bs.length 0 (b++[UInt8.ofInt (bs.length:Int)]) zaa zaw
 have h2:=fun i=>VC [bs,ns] i ns hn (fun x hx=>by have:=hnm x hx;omega) ns.length 0 (b++[UInt8.ofInt (bs.length:Int)]++bs.flatMap bl++[UInt8.ofInt (ns.length:Int)]) zaa zaw
 rw[show((0:Nat):Int)=0 from rfl,List.drop_zero] at h1 h2
 rw[show b++(UInt8.ofInt (bs.length:Int)::(bs.flatMap bl++(UInt8.ofInt (ns.length:Int)::ns.flatMap bl)))=b++[UInt8.ofInt (bs.length:Int)]++bs.flatMap bl++[UInt8.ofInt (ns.length:Int)]++ns.flatMap bl from by simp]
 have e2:[bs,ns][(0+1:Int).toNat]'(Nat.lt_add_one 1)=ns:=rfl
 rw[AO];conv=>lhs;whnf
 refine tq ?_
 simp only[AC,Am,Dh];rw[h1]
 refine tq ?_
 rw[AO]
 conv=>lhs;whnf
 rw[Dp zaa]
 conv=>lhs;whnf
 rw[D8 zao]
 conv=>lhs;whnf
 rw[Dx zao]
 conv=>lhs;whnf
 try dsimp -iota -beta -eta -zeta only
 rw[EQ]
 simp only[e2,AC,Am,Dh,Nat.reduceAdd];rw[h2]
 refine tq ?_
 exact tq rfl
theorem A8r(is:List Int)(bs ns:List (List UInt8))(hi:is.length<=10)(hb:bs.length<=10)(hn:ns.length<=10)(hbm:∀ x∈bs,x.length<=1024)(hnm:∀ x∈ns,x.length<=1024):Y E0 (.call 130 [JC 0 is bs ns] [])=some (.ret (.sl .u8 (JU 0 is bs ns)) []):=by
 have hI:(is.flatMap n8).length<=80:=Nat.le_trans (Ho (m:=8) fun x _=>by rw[Bq];decide) zaa
 have h0:=aO is bs ns hi is.length 0 [UInt8.ofInt 0,UInt8.ofInt (is.length:Int)] zaa zaw
 have h1:=A08 bs ns ([UInt8.ofInt 0,UInt8.ofInt (is.length:Int)]++is.flatMap n8) hb hn hbm hnm zaw
 rw[show((0:Nat):Int)=0 from rfl,List.drop_zero] at h0
 have e:JU 0 is bs ns=[UInt8.ofInt 0,UInt8.ofInt (is.length:Int)]++is.flatMap n8++(UInt8.ofInt (bs.length:Int)::(bs.flatMap bl++(UInt8.ofInt (ns.length:Int)::ns.flatMap bl))):=by
  rw[JU,if_neg zak];simp
 rw[e]
 have e2:Ap [bs,ns]=2:=zaK
 refine tq ?_
 simp only[AC,Am,Dh,List.cons_append,List.nil_append,Nat.reduceAdd];rw[h0]
 refine tq ?_
 simp only[e2,Nat.reduceAdd];rw[h1]
 refine tq ?_
 simp only[NO];try with_reducible rfl
def A8s(b:List UInt8):Nat->List Int->Nat->Prop
 | p,[],q=>q=p
 | p,x::xs,q=>∃ p',Ey b p 0 8=(x,p',0)/\A8s b p' xs q
theorem nC{b r:List UInt8}:∀ {is:List Int} {p:Nat},p<=b.length->b.drop p=is.flatMap n8++r->(∀ x∈is,0<=x/\x<9223372036854775808)->∃ q,A8s b p is q/\q<=b.length/\b.drop q=r
 | [],p,hp,h,hm=>⟨p,rfl,hp,by simpa using h⟩
 | x::is,p,hp,h,hm=>by
  rw[List.flatMap_cons,List.append_assoc] at h
  obtain⟨q,g1,g2,g3⟩:=MO hp h (hm x zak)
  obtain⟨q',k1,k2,k3⟩:=nC g2 g3 fun y hy=>hm y zbi
  exact⟨q',⟨q,g1,k1⟩,k2,k3⟩
theorem A8t(e:Int)(is:List Int)(bs ns:List (List UInt8))(he:0<e/\e<=255):Y E0 (.call 40 [.sl .u8 (JU e is bs ns)] [])=some (.ret (.tup [JC e [] [] [],.i 0]) []):=by
 generalize hb:JU e is bs ns=b
 have e0:b.drop 0=UInt8.ofInt e::[]:=by rw[List.drop_zero,<-hb,JU,if_pos zaa]
 obtain⟨g0,q0,d0⟩:=Pg (Nat.zero_le _) e0 zaa
 have hl:b.length=1:=by have:=congrArg List.length e0;simpa using this
 have h0:=EY b 0 0 1 zaa zaa
 have hz:=Tn b 1 0 zaa zaa
 rw[g0] at h0
 rw[show VT b 1 0=0 from OI q0 d0] at hz
 refine tq ?_
 rw[Tm _]
 refine tq ?_
 rw[show Y E0 (.call 61 [.pa 0 0,.i 1] [.var [.sl .u8 b,.i 0,.i 0]])=_ from h0]
 refine tq ?_
 rw[show Y E0 (.call 63 [.pa 0 0] _)=_ from hz]
 exact tq rfl
theorem nD(b:List UInt8)(m:Nat)(hb:b.length<=1000000)(hm:m<=255):∀(k j:Nat) (l xs:List Int) (p q:Nat),j+k=m->xs.length=k->p<=b.length->l.length+k<=300->A8s b p xs q ->
  Y E0 (.loop 40 0 0 4 [(2,.pa 0 0),(4,.pa 1 0),(5,.pa 2 0),(6,.i (m:Int)),(7,.i (j:Int))] [(0,some (.var [.i 0,.nil,.nil,.nil])),(1,some (.var [.sl .u8 b,.i (p:Int),.i 0])),(2,some (.var [.i 0,.nm 3,.nil,.nil])),(3,some (.row 3 .i64 l))])
   = some (.fin (.exit 0) 4 [(2,.pa 0 0),(4,.pa 1 0),(5,.pa 2 0)] [(0,some (.var [.i 0,.nil,.nil,.nil])),(1,some (.var [.sl .u8 b,.i (q:Int),.i 0])),(2,some (.var [.i 0,.nm 3,.nil,.nil])),(3,some (.row 3 .i64 (l++xs)))])
 | 0,j,l,[],p,q,hj,hx,hp,hl,h=>by
  obtain rfl:j=m:=zaa
  obtain rfl:q=p:=h
  rw[List.append_nil]
  rw[AO];conv=>lhs;whnf
  refine tq ?_
  with_reducible rfl
 | k+1,j,l,x::xs,p,q,hj,hx,hp,hl,h=>by
  obtain⟨q1,h1,h2⟩:=h
  have g:=EY b p 0 8 zaa hp
  rw[h1] at g
  have ih:=nD b m hb hm k (j+1) (l++[x]) xs q1 q zaa zaZ (FH hp h1) zat h2
  rw[show((j+1:Nat):Int)=(j:Int)+1 from by omega,List.append_assoc,List.singleton_append] at ih
  rw[<-Am l [x]] at ih
  rw[AO];conv=>lhs;whnf
  refine tq ?_
  rw[g]
  refine tq ?_
  exact ih
theorem nG(b:List UInt8)(is:List Int)(m:Nat)(hb:b.length<=1000000)(hm:m<=255):∀(k j:Nat) (l xs:List (List UInt8)) (p q:Nat),j+k=m->xs.length=k->p<=b.length->l.length+k<=300->tK b 1024 p xs q ->
  Y E0 (.loop 40 1 0 5 [(2,.pa 0 0),(4,.pa 1 0),(5,.pa 2 0),(6,.i (m:Int)),(8,.i (j:Int))] [(0,some (.var [.i 0,.nil,.nil,.nil])),(1,some (.var [.sl .u8 b,.i (p:Int),.i 0])),(2,some (.var [.i 0,.nm 3,.nm 4,.nil])),(3,some (.row 3 .i64 is)),(4,some (.row 22 (.sl .u8) l))])
   = some (.fin (.exit 2) 5 [(2,.pa 0 0),(4,.pa 1 0),(5,.pa 2 0)] [(0,some (.var [.i 0,.nil,.nil,.nil])),(1,some (.var [.sl .u8 b,.i (q:Int),.i 0])),(2,some (.var [.i 0,.nm 3,.nm 4,.nil])),(3,some (.row 3 .i64 is)),(4,some (.row 22 (.sl .u8) (l++xs)))])
 | 0,j,l,[],p,q,hj,hx,hp,hl,h=>by
  obtain rfl:j=m:=zaa
  obtain rfl:q=p:=h
  rw[List.append_nil]
  rw[AO];conv=>lhs;whnf
  refine tq ?_
  with_reducible rfl
 | k+1,j,l,x::xs,p,q,hj,hx,hp,hl,h=>by
  obtain⟨q1,h1,h2⟩:=h
  have g:=KC b p 0 1024 zaa hp
  rw[h1] at g
  have ih:=nG b is m hb hm k (j+1) (l++[x]) xs q1 q zaa zaZ (Kt hp h1) zat h2
  rw[show((j+1:Nat):Int)=(j:Int)+1 from by omega,List.append_assoc,List.singleton_append] at ih
  rw[<-Am l [x]] at ih
  rw[AO];conv=>lhs;whnf
  refine tq ?_
  rw[g]
  refine tq ?_
  exact ih
theorem nH(b:List UInt8)(is:List Int)(bs:List (List UInt8))(m:Nat)(hb:b.length<=1000000)(hm:m<=255):∀(k j:Nat) (l xs:List (List UInt8)) (p q:Nat),j+k=m->xs.length=k->p<=b.length->l.length+k<=300->tK b 1024 p xs q ->
  Y E0 (.loop 40 2 0 6 [(2,.pa 0 0),(4,.pa 1 0),(5,.pa 2 0),(6,.i (m:Int)),(9,.i (j:Int))] [(0,some (.var [.i 0,.nil,.nil,.nil])),(1,some (.var [.sl .u8 b,.i (p:Int),.i 0])),(2,some (.var [.i 0,.nm 3,.nm 4,.nm 5])),(3,some (.row 3 .i64 is)),(4,some (.row 22 (.sl .u8) bs)),(5,some (.row 22 (.sl .u8) l))])
   = some (.fin (.exit 4) 6 [(2,.pa 0 0),(4,.pa 1 0),(5,.pa 2 0)] [(0,some (.var [.i 0,.nil,.nil,.nil])),(1,some (.var [.sl .u8 b,.i (q:Int),.i 0])),(2,some (.var [.i 0,.nm 3,.nm 4,.nm 5])),(3,some (.row 3 .i64 is)),(4,some (.row 22 (.sl .u8) bs)),(5,some (.row 22 (.sl .u8) (l++xs)))])
 | 0,j,l,[],p,q,hj,hx,hp,hl,h=>by
  obtain rfl:j=m:=zaa
  obtain rfl:q=p:=h
  rw[List.append_nil]
  rw[AO];conv=>lhs;whnf
  refine tq ?_
  with_reducible rfl
 | k+1,j,l,x::xs,p,q,hj,hx,hp,hl,h=>by
  obtain⟨q1,h1,h2⟩:=h
  have g:=KC b p 0 1024 zaa hp
  rw[h1] at g
  have ih:=nH b is bs m hb hm k (j+1) (l++[x]) xs q1 q zaa zaZ (Kt hp h1) zat h2
  rw[show((j+1:Nat):Int)=(j:Int)+1 from by omega,List.append_assoc,List.singleton_append] at ih
  rw[<-Am l [x]] at ih
  rw[AO];conv=>lhs;whnf
  refine tq ?_
  rw[g]
  refine tq ?_
  exact ih
theorem AAF(is:List Int)(bs ns:List (List UInt8))(hi:is.length<=10)(hb:bs.length<=10)(hn:ns.length<=10)(him:∀ x∈is,0<=x/\x<9223372036854775808)(hbm:∀ x∈bs,x.length<=1024)(hnm:∀ x∈ns,x.length<=1024):Y E0 (.call 40 [.sl .u8 (JU 0 is bs ns)] [])=some (.ret (.tup [JC 0 is bs ns,.i 0]) []):=by
 have hI:(is.flatMap n8).length<=80:=Nat.le_trans (Ho (m:=8) fun x _=>by rw[Bq];decide) zaa
 have hB:(bs.flatMap bl).length<=10260:=Nat.le_trans (Ho (m:=1026) fun x hx=>by have:=hbm x hx;rw[Ce];omega) zaa
 have hN:(ns.flatMap bl).length<=10260:=Nat.le_trans (Ho (m:=1026) fun x hx=>by have:=hnm x hx;rw[Ce];omega) zaa
 generalize hb':JU 0 is bs ns=b
 have e0:b.drop 0=UInt8.ofInt 0::(UInt8.ofInt (is.length:Int)::(is.flatMap n8++(UInt8.ofInt (bs.length:Int)::(bs.flatMap bl++(UInt8.ofInt (ns.length:Int)::(ns.flatMap bl++[])))))):=by
  rw[List.drop_zero,<-hb',JU,if_neg zak];simp
 have hlen:b.length<=30000:=by
  have:=congrArg List.length e0
  simp only[List.drop_zero,List.length_cons,List.length_append,List.length_nil] at this
  omega
 obtain⟨g0,q0,d0⟩:=Pg (Nat.zero_le _) e0 zaa
 obtain⟨g1,q1,d1⟩:=Pg q0 d0 zaa
 obtain⟨p2,g2,q2,d2⟩:=nC q1 d1 him
 obtain⟨g3,q3,d3⟩:=Pg q2 d2 zaa
 obtain⟨p4,g4,q4,d4⟩:=U9 (m:=1024) zaa q3 d3 (fun x hx=>by have:=hbm x hx;omega)
 obtain⟨g5,q5,d5⟩:=Pg q4 d4 zaa
 obtain⟨p6,g6,q6,d6⟩:=U9 (m:=1024) zaa q5 d5 (fun x hx=>by have:=hnm x hx;omega)
 have h0:=EY b 0 0 1 zaa zaa
 have h1:=EY b (0+1) 0 1 zaa q0
 have h3:=EY b p2 0 1 zaa q2
 have h5:=EY b p4 0 1 zaa q4
 have hz:=Tn b p6 0 zaa q6
 rw[g0] at h0;rw[g1] at h1;rw[g3] at h3;rw[g5] at h5;rw[OI q6 d6] at hz
 have l0:=nD b is.length zaa zaa is.length 0 [] is (0+1+1) p2 zaa rfl q1 zat g2
 have l1:=nG b is bs.length zaa zaa bs.length 0 [] bs (p2+1) p4 zaa rfl q3 zat g4
 have l2:=nH b is bs ns.length zaa zaa ns.length 0 [] ns (p4+1) p6 zaa rfl q5 zat g6
 simp only[List.nil_append,show((0:Nat):Int)=0 from rfl] at l0 l1 l2
 refine tq ?_
 rw[Tm _]
 refine tq ?_
 rw[show Y E0 (.call 61 [.pa 0 0,.i 1] [.var [.sl .u8 b,.i 0,.i 0]])=_ from h0]
 refine tq ?_
 rw[h1]
 refine tq ?_
 simp only[Nat.reduceAdd];rw[l0]
 refine tq ?_
 rw[h3]
 refine tq ?_
 simp only[Nat.reduceAdd];rw[l1]
 refine tq ?_
 rw[h5]
 refine tq ?_
 simp only[Nat.reduceAdd];rw[l2]
 refine tq ?_
 rw[hz]
 exact tq rfl
end
section
attribute [local irreducible] Bl CQ CS Bo Bg Ar CU Dw EN Dy EC Bf BU Bv Bz and' C9 CB BK Au BA BL BN Aa Ad AP AZ CV Dq CW DI CE BP BM BF BG BB AU BC Ae Ap Ai CX BH Bh Ba BO CG CY CJ fits CZ CO A8 AA Ac
attribute [local irreducible] Aw Di encS
theorem A4D(ar:List (List UInt8))(wr cu to:Int)(of on:Bool)(nx:Int)(sd:List (List UInt8))(au:List (List UInt8))(en:List UInt8)(ac:Int)(re:Int)(rs:Int)(ck:Int)(od:Bool)(sb:List (List (List UInt8)))(su:Int)(mc:Int)(ix:List (El AL))(l1:Int)(l2:Int)(l3:Int)(l4:Int)(l5:Int)(l6:Int)(ks:List (El BR))(st:Bool)(sp:Bool)(rb:List (List (List UInt8)))(ru:Int)(vc:Int)(sf:Bool)(dr:Int)(ss:List (El sesT))(ob:List (El objT))(rl:List Int)(wl:List Int):Y E0 (.call 26 [GR ar wr cu to of sd au en ac re rs ck od sb su mc ix l1 l2 l3 l4 l5 l6 ks st sp rb ru vc sf dr ss ob rl wl on nx] [])=some (.ret (zg ar wr cu to true false nx) []):=fE ar wr cu to of on nx sd au en ac re rs ck od sb su mc ix l1 l2 l3 l4 l5 l6 ks st sp rb ru vc sf dr ss ob rl wl
theorem xO(ar:List (List UInt8))(wr cu to:Int)(nx q:Int)(sd:List (List UInt8))(au:List (List UInt8))(en:List UInt8)(ac:Int)(re:Int)(rs:Int)(ck:Int)(od:Bool)(sb:List (List (List UInt8)))(su:Int)(mc:Int)(ix:List (El AL))(l1:Int)(l2:Int)(l3:Int)(l4:Int)(l5:Int)(l6:Int)(ks:List (El BR))(p:List UInt8)(har:OV ar q p)(h2:Y E0 (.call 51 [.sl .u8 p] [])=some (.ret (.tup [.agg (Rt sd au en ac re rs ck od sb su mc ix l1 l2 l3 l4 l5 l6 ks),.i 0]) [])):Y E0 (.call 25 [zg ar wr cu to true false nx] [])=some (.ret (.tup [GR ar 0 0 0 false sd au en ac re rs ck od sb su mc ix l1 l2 l3 l4 l5 l6 ks false false [] 0 0 false 0 (List.replicate 3 (0,[],[],0,0,0,0,false)) (List.replicate 3 ((0,0,0,[],[]),([],[],[]),0)) [] [] true (q+1),.i 0]) []):=by
 have h1:=Vo ar q _ 0 0 0 har
 have hq:1<=q/\q<=900000:=⟨har.2.1,har.2.2.1⟩
 have h3:=Rj ar wr cu to true false nx [] [] [] 0 0 0 0 false [] 0 0 [] 0 0 0 0 0 0 [] false false [] 0 0 false 0 [] [] [] []
 refine tq ?_
 rw[h3]
 refine tq ?_
 rw[Vm ..]
 refine tq ?_
 rw[h1]
 refine tq ?_
 rw[h2]
 refine tq ?_
 rw[fA ..]
 exact tq rfl
end
end Go.Proofs.YtanagnimhaemgaaGreatDoor
