/-
  Own texts, laid together for this claim: contracts of functions of the program and its references, used by the statements of this seat.
-/
import Derived.Test.YtanagnimhaemgaaGreatDoorMtab
import Derived.Test.YtanagnimhaemgaaGreatDoorMtac
import Derived.Test.YtanagnimhaemgaaGreatDoorMtad
import Derived.Test.YtanagnimhaemgaaGreatDoorMtah
import Derived.Test.YtanagnimhaemgaaGreatDoorMtai
import Derived.Test.YtanagnimhaemgaaGreatDoorMtaj
import Derived.Test.YtanagnimhaemgaaGreatDoorMtam
set_option linter.all false
set_option maxHeartbeats 40000000
set_option maxRecDepth 100000
namespace Go.Proofs.YtanagnimhaemgaaGreatDoor
open Go Go.Ax Go.Eng
section
attribute [local irreducible] BL BM BN BO BP BJ BQ CX Cm CY CW Ba Bc BF BC and' BG Bd Aa Ac Ad Ae Af AL AO AP AQ BR D8 BU D5 Be Bf Ag Ah Ai Aj AB AZ AU Ar BA BV BH BB Au Aw BI Bg BX fits BZ BK A7 A8 AC
theorem ev_cstart(b:List UInt8)(u v w:UInt8)(hb:5<=b.length/\b.length<=2048)(h0:BA b 0=some 83)(h1:BA b 1=some 87)(h2:BA b 2=some u)(h3:BA b 3=some v)(h4:BA b 4=some w)(hl:BJ .or (Ba (D8 u) (UInt64.ofNat 8).toNat) (D8 v)=(b.length:Int)):Y E0 (.call 157 [.sl .u8 b] [])=some (.ret (.tup [.i (D8 w),.i 0]) []):=by
 refine tq ?_
 rw[h0]
 conv=>lhs;whnf
 refine tq ?_
 rw[h1]
 conv=>lhs;whnf
 refine tq ?_
 rw[h2]
 refine tq ?_
 refine tq ?_
 rw[h3]
 conv=>lhs;whnf
 refine tq ?_
 rw[h4]
 conv=>lhs;whnf
 rw[JB]
 conv=>lhs;whnf
def rdHs(b:List UInt8):Nat->List Int->Nat->Prop
 | p,[],q=>q=p
 | p,x::xs,q=>∃ p',jQ b p 0 2=(x,p',0)/\rdHs b p' xs q
theorem rdHs_p{b:List UInt8}:∀ {l:List Int} {p q:Nat},p<=b.length->rdHs b p l q->q<=b.length
 | [],p,q,hp,h=>by obtain rfl:q=p:=h;exact hp
 | x::l,p,q,hp,⟨p',h1,h2⟩=>rdHs_p (rdU_p hp h1) h2
def rdAs(b:List UInt8):Nat->List (El MR)->Nat->Prop
 | p,[],q=>q=p
 | p,x::xs,q=>∃ p1,jQ b p 0 2=(x.1,p1,0)/\∃ p2,bn b p1 0 128=(x.2.1,p2,0)/\∃ p3,bn b p2 0 128=(x.2.2,p3,0)/\rdAs b p3 xs q
theorem rdAs_p{b:List UInt8}:∀ {l:List (El MR)} {p q:Nat},p<=b.length->rdAs b p l q->q<=b.length
 | [],p,q,hp,h=>by obtain rfl:q=p:=h;exact hp
 | x::l,p,q,hp,⟨p1,h1,p2,h2,p3,h3,h4⟩=>rdAs_p (rdB_p (rdB_p (rdU_p hp h1) h2) h3) h4
def rdTs(b:List UInt8):Nat->List Int->Nat->Prop
 | p,[],q=>q=p
 | p,x::xs,q=>x<=1099511627776/\∃ p',jQ b p 0 8=(x,p',0)/\rdTs b p' xs q
theorem rdTs_p{b:List UInt8}:∀ {l:List Int} {p q:Nat},p<=b.length->rdTs b p l q->q<=b.length
 | [],p,q,hp,h=>by obtain rfl:q=p:=h;exact hp
 | x::l,p,q,hp,⟨_,p',h1,h2⟩=>rdTs_p (rdU_p hp h1) h2
def rdMs(b:List UInt8)(m:Int):Nat->List (List UInt8)->Nat->Prop
 | p,[],q=>q=p
 | p,x::xs,q=>∃ p',bn b p 0 m=(x,p',0)/\rdMs b m p' xs q
theorem rdMs_p{b:List UInt8}{m:Int}:∀ {l:List (List UInt8)} {p q:Nat},p<=b.length->rdMs b m p l q->q<=b.length
 | [],p,q,hp,h=>by obtain rfl:q=p:=h;exact hp
 | x::l,p,q,hp,⟨p',h1,h2⟩=>rdMs_p (rdB_p hp h1) h2
theorem ev_cd_l0(c:Int)(b:List UInt8)(m:Nat)(hb:b.length<=1000000)(hm:m<=10)(n1 n2 n3:Int):∀(k j:Nat) (l xs:List Int) (p q:Nat),j+k=m->xs.length=k->p<=b.length->l.length+k<=20->rdHs b p xs q ->
  Y E0 (.loop 129 0 0 4 [(2,.pa 0 0),(7,.i n1),(8,.i n2),(9,.i n3),(11,.pa 1 0),(12,.pa 2 0),(42,.i (m:Int)),(43,.i (j:Int))] [(0,some (.var [.i 0,.nil,.nil,.nil,.nil])),(1,some (.var [.sl .u8 b,.i (p:Int),.i 0])),(2,some (.var [.i c,.nm 3,.nil,.nil,.nil])),(3,some (.row 3 .i64 l))])
   = some (.fin (.exit 0) 4 [(2,.pa 0 0),(7,.i n1),(8,.i n2),(9,.i n3),(11,.pa 1 0),(12,.pa 2 0)] [(0,some (.var [.i 0,.nil,.nil,.nil,.nil])),(1,some (.var [.sl .u8 b,.i (q:Int),.i 0])),(2,some (.var [.i c,.nm 3,.nil,.nil,.nil])),(3,some (.row 3 .i64 (l++xs)))])
 | 0,j,l,[],p,q,hj,hx,hp,hl,h=>by
  obtain rfl:j=m:=zf
  obtain rfl:q=p:=h
  rw[List.append_nil]
  rw[JB];conv=>lhs;whnf
  refine tq ?_
  with_reducible rfl
 | k+1,j,l,x::xs,p,q,hj,hx,hp,hl,h=>by
  obtain⟨q1,h1,h2⟩:=h
  have g:=ev_ruint b p 0 2 zf hp
  rw[h1] at g
  have ih:=ev_cd_l0 c b m hb hm n1 n2 n3 k (j+1) (l++[x]) xs q1 q zf (by simpa using hx) (rdU_p hp h1) zx h2
  rw[show((j+1:Nat):Int)=(j:Int)+1 from by omega,List.append_assoc,List.singleton_append] at ih
  rw[<-UH l [x]] at ih
  rw[JB];conv=>lhs;whnf
  refine tq ?_
  rw[g]
  refine tq ?_
  exact ih
theorem ev_cd_l1(c:Int)(hs:List Int)(b:List UInt8)(m:Nat)(hb:b.length<=1000000)(hm:m<=10)(n2 n3:Int):∀(k j:Nat) (l xs:List (El MR)) (p q:Nat),j+k=m->xs.length=k->p<=b.length->l.length+k<=20->rdAs b p xs q ->
  Y E0 (.loop 129 1 0 5 [(2,.pa 0 0),(8,.i n2),(9,.i n3),(11,.pa 1 0),(12,.pa 2 0),(53,.i (m:Int)),(54,.i (j:Int))] [(0,some (.var [.i 0,.nil,.nil,.nil,.nil])),(1,some (.var [.sl .u8 b,.i (p:Int),.i 0])),(2,some (.var [.i c,.nm 3,.nm 4,.nil,.nil])),(3,some (.row 3 .i64 hs)),(4,some (.row 68 MR l))])
   = some (.fin (.exit 2) 5 [(2,.pa 0 0),(8,.i n2),(9,.i n3),(11,.pa 1 0),(12,.pa 2 0)] [(0,some (.var [.i 0,.nil,.nil,.nil,.nil])),(1,some (.var [.sl .u8 b,.i (q:Int),.i 0])),(2,some (.var [.i c,.nm 3,.nm 4,.nil,.nil])),(3,some (.row 3 .i64 hs)),(4,some (.row 68 MR (l++xs)))])
 | 0,j,l,[],p,q,hj,hx,hp,hl,h=>by
  obtain rfl:j=m:=zf
  obtain rfl:q=p:=h
  rw[List.append_nil]
  rw[JB];conv=>lhs;whnf
  refine tq ?_
  with_reducible rfl
 | k+1,j,l,(x1,x2,x3)::xs,p,q,hj,hx,hp,hl,h=>by
  obtain⟨q1,h1,q2,h2,q3,h3,h4⟩:=h
  have k1:=rdU_p hp h1
  have k2:=rdB_p k1 h2
  have k3:=rdB_p k2 h3
  have g1:=ev_ruint b p 0 2 zf hp
  have g2:=ev_rblob b q1 0 128 zf k1
  have g3:=ev_rblob b q2 0 128 zf k2
  rw[h1] at g1;rw[h2] at g2;rw[h3] at g3
  have ih:=ev_cd_l1 c hs b m hb hm n2 n3 k (j+1) (l++[(x1,x2,x3)]) xs q3 q zf (by simpa using hx) k3 zx h4
  rw[show((j+1:Nat):Int)=(j:Int)+1 from by omega,List.append_assoc,List.singleton_append] at ih
  rw[<-UH l [(x1,x2,x3)]] at ih
  rw[JB];conv=>lhs;whnf
  refine tq ?_
  rw[g1]
  refine tq ?_
  rw[g2]
  refine tq ?_
  rw[g3]
  refine tq ?_
  exact ih
theorem ev_cd_l2(c:Int)(hs:List Int)(az:List (El MR))(b:List UInt8)(m:Nat)(hb:b.length<=1000000)(hm:m<=10)(n3:Int):∀(k j:Nat) (l xs:List Int) (p q:Nat),j+k=m->xs.length=k->p<=b.length->l.length+k<=20->rdTs b p xs q ->
  Y E0 (.loop 129 2 0 6 [(2,.pa 0 0),(9,.i n3),(11,.pa 1 0),(12,.pa 2 0),(72,.i (m:Int)),(73,.i (j:Int))] [(0,some (.var [.i 0,.nil,.nil,.nil,.nil])),(1,some (.var [.sl .u8 b,.i (p:Int),.i 0])),(2,some (.var [.i c,.nm 3,.nm 4,.nm 5,.nil])),(3,some (.row 3 .i64 hs)),(4,some (.row 68 MR az)),(5,some (.row 3 .i64 l))])
   = some (.fin (.exit 4) 6 [(2,.pa 0 0),(9,.i n3),(11,.pa 1 0),(12,.pa 2 0)] [(0,some (.var [.i 0,.nil,.nil,.nil,.nil])),(1,some (.var [.sl .u8 b,.i (q:Int),.i 0])),(2,some (.var [.i c,.nm 3,.nm 4,.nm 5,.nil])),(3,some (.row 3 .i64 hs)),(4,some (.row 68 MR az)),(5,some (.row 3 .i64 (l++xs)))])
 | 0,j,l,[],p,q,hj,hx,hp,hl,h=>by
  obtain rfl:j=m:=zf
  obtain rfl:q=p:=h
  rw[List.append_nil]
  rw[JB];conv=>lhs;whnf
  refine tq ?_
  with_reducible rfl
 | k+1,j,l,x::xs,p,q,hj,hx,hp,hl,h=>by
  obtain⟨hx1,q1,h1,h2⟩:=h
  have g:=ev_ruint b p 0 8 zf hp
  rw[h1] at g
  have ge:=ev_rerr b q1 0
  have ih:=ev_cd_l2 c hs az b m hb hm n3 k (j+1) (l++[x]) xs q1 q zf (by simpa using hx) (rdU_p hp h1) zx h2
  rw[show((j+1:Nat):Int)=(j:Int)+1 from by omega,List.append_assoc,List.singleton_append] at ih
  rw[<-UH l [x]] at ih
  rw[JB];conv=>lhs;whnf
  refine tq ?_
  rw[g]
  refine tq ?_
  rw[ge]
  refine tq ?_
  exact ih
theorem ev_cd_l3(c:Int)(hs:List Int)(az:List (El MR))(is:List Int)(b:List UInt8)(m:Nat)(hb:b.length<=1000000)(hm:m<=10):∀(k j:Nat) (l xs:List (List UInt8)) (p q:Nat),j+k=m->xs.length=k->p<=b.length->l.length+k<=20->rdMs b 1024 p xs q ->
  Y E0 (.loop 129 3 0 7 [(2,.pa 0 0),(11,.pa 1 0),(12,.pa 2 0),(104,.i (m:Int)),(105,.i (j:Int))] [(0,some (.var [.i 0,.nil,.nil,.nil,.nil])),(1,some (.var [.sl .u8 b,.i (p:Int),.i 0])),(2,some (.var [.i c,.nm 3,.nm 4,.nm 5,.nm 6])),(3,some (.row 3 .i64 hs)),(4,some (.row 68 MR az)),(5,some (.row 3 .i64 is)),(6,some (.row 22 (.sl .u8) l))])
   = some (.fin (.exit 6) 7 [(2,.pa 0 0),(11,.pa 1 0),(12,.pa 2 0)] [(0,some (.var [.i 0,.nil,.nil,.nil,.nil])),(1,some (.var [.sl .u8 b,.i (q:Int),.i 0])),(2,some (.var [.i c,.nm 3,.nm 4,.nm 5,.nm 6])),(3,some (.row 3 .i64 hs)),(4,some (.row 68 MR az)),(5,some (.row 3 .i64 is)),(6,some (.row 22 (.sl .u8) (l++xs)))])
 | 0,j,l,[],p,q,hj,hx,hp,hl,h=>by
  obtain rfl:j=m:=zf
  obtain rfl:q=p:=h
  rw[List.append_nil]
  rw[JB];conv=>lhs;whnf
  refine tq ?_
  with_reducible rfl
 | k+1,j,l,x::xs,p,q,hj,hx,hp,hl,h=>by
  obtain⟨q1,h1,h2⟩:=h
  have g:=ev_rblob b p 0 1024 zf hp
  rw[h1] at g
  have ih:=ev_cd_l3 c hs az is b m hb hm k (j+1) (l++[x]) xs q1 q zf (by simpa using hx) (rdB_p hp h1) zx h2
  rw[show((j+1:Nat):Int)=(j:Int)+1 from by omega,List.append_assoc,List.singleton_append] at ih
  rw[<-UH l [x]] at ih
  rw[JB];conv=>lhs;whnf
  refine tq ?_
  rw[g]
  refine tq ?_
  exact ih
theorem ev_cdec(b x:List UInt8)(c nb:Int)(hs:List Int)(az:List (El MR))(is:List Int)(bs:List (List UInt8))(p1 p2 p3 p4 p5:Nat)(hst:Y E0 (.call 157 [.sl .u8 b] [])=some (.ret (.tup [.i c,.i 0]) []))(hx:List.take (Ar b-5).toNat (List.drop (Int.toNat 5) b)=x)(hb:5<=b.length/\b.length<=2048)(hsh:Y E0 (.call 158 [.i c] [])=some (.ret (.tup [.i (hs.length:Int),.i (az.length:Int),.i (is.length:Int),.i nb,.b true]) []))(hct:Y E0 (.call 159 [.i (bs.length:Int),.i nb] [])=some (.ret (.b true) []))
  (hl:hs.length<=10) (hal:az.length<=10) (hil:is.length<=10) (hbl:bs.length<=10) (g1:rdHs x 0 hs p1) (g2:rdAs x p1 az p2) (g3:rdTs x p2 is p3) (g4:jQ x p3 0 1=((bs.length:Int),p4,0)) (g5:rdMs x 1024 p4 bs p5) (g6:jR x p5 0=0):Y E0 (.call 129 [.sl .u8 b] [])=some (.ret (.tup [rq c hs az is bs,.i 0]) []):=by
 have hxl:x.length<=2048:=by rw[<-hx,List.length_take,List.length_drop];omega
 have k1:=rdHs_p (Nat.zero_le _) g1
 have k2:=rdAs_p k1 g2
 have k3:=rdTs_p k2 g3
 have k4:=rdU_p k3 g4
 have k5:=rdMs_p k4 g5
 have l0:=fun n1 n2 n3=>ev_cd_l0 c x hs.length zf hl n1 n2 n3 hs.length 0 [] hs 0 p1 zf rfl zf zx g1
 have l1:=fun n2 n3=>ev_cd_l1 c hs x az.length zf hal n2 n3 az.length 0 [] az p1 p2 zf rfl k1 zx g2
 have l2:=fun n3=>ev_cd_l2 c hs az x is.length zf hil n3 is.length 0 [] is p2 p3 zf rfl k2 zx g3
 have l3:=ev_cd_l3 c hs az is x bs.length zf hbl bs.length 0 [] bs p4 p5 zf rfl k4 zx g5
 simp only[List.nil_append,show((0:Nat):Int)=0 from rfl] at l0 l1 l2 l3
 have gu:=ev_ruint x p3 0 1 zf k3
 rw[g4] at gu
 have ge:=ev_rerr x p4 0
 have gz:=ev_rend x p5 0 zf k5
 rw[g6] at gz
 refine tq ?_
 rw[hst]
 refine tq ?_
 rw[hsh]
 refine tq ?_
 rw[ev_new _ NE]
 refine tq ?_
 (simp only[hx,Nat.reduceAdd]);rw[l0]
 refine tq ?_
 (simp only[Nat.reduceAdd]);rw[l1]
 refine tq ?_
 (simp only[Nat.reduceAdd]);rw[l2]
 refine tq ?_
 rw[gu]
 refine tq ?_
 rw[ge]
 refine tq ?_
 rw[hct]
 conv=>lhs;whnf
 rw[UK];conv=>lhs;whnf
 rw[JB]
 conv=>lhs;whnf
 try dsimp -iota -beta -eta -zeta only
 rw[TR]
 (simp only[Nat.reduceAdd]);rw[l3]
 refine tq ?_
 rw[gz]
 exact tq rfl
end
section
attribute [local irreducible] BL BM BN BO BP BJ BQ CX Cm CY CW Ba Bc BF BC and' BG Bd Aa Ac Ad Ae Af AL AO AP AQ BR D8 BU D5 Be Bf Ag Ah Ai Aj AB AZ AU Ar BA BV BH BB Au Aw BI Bg BX fits BZ BK A7 A8 AC
theorem rd_2{b r:List UInt8}{p:Nat}{x:Int}(hp:p<=b.length)(h:b.drop p=n2 x++r)(h0:0<=x/\x<65536):∃ q,jQ b p 0 2=(x,q,0)/\q<=b.length/\b.drop q=r:=by
 obtain⟨h1,h2,h3⟩:=rdU_app (n:=2) (x:=x) hp zf h zf zf zf
 exact⟨_,h1,h2,h3⟩
theorem rd_m{b x r:List UInt8}{p:Nat}{m:Int}(hp:p<=b.length)(h:b.drop p=bl x++r)(hx:(x.length:Int)<=m)(hm:m<=65535):∃ q,bn b p 0 m=(x,q,0)/\q<=b.length/\b.drop q=r:=by
 obtain⟨h1,h2,h3⟩:=rdB_app (most:=m) hp h zf hx
 exact⟨_,h1,h2,h3⟩
theorem rdHs_app{b r:List UInt8}:∀ {hs:List Int} {p:Nat},p<=b.length->b.drop p=hs.flatMap n2++r->(∀ x∈hs,0<=x/\x<=65535)->∃ q,rdHs b p hs q/\q<=b.length/\b.drop q=r
 | [],p,hp,h,hm=>⟨p,rfl,hp,by simpa using h⟩
 | x::hs,p,hp,h,hm=>by
  rw[List.flatMap_cons,List.append_assoc] at h
  have hx:=hm x zB
  obtain⟨q,g1,g2,g3⟩:=rd_2 hp h zf
  obtain⟨q',k1,k2,k3⟩:=rdHs_app g2 g3 fun y hy=>hm y (by simp[hy])
  exact⟨q',⟨q,g1,k1⟩,k2,k3⟩
theorem rdAs_app{b r:List UInt8}:∀ {az:List (El MR)} {p:Nat},p<=b.length->b.drop p=az.flatMap lS++r->(∀ x∈az,(0<=x.1/\x.1<=65535)/\x.2.1.length<=128/\x.2.2.length<=128)->∃ q,rdAs b p az q/\q<=b.length/\b.drop q=r
 | [],p,hp,h,hm=>⟨p,rfl,hp,by simpa using h⟩
 | x::az,p,hp,h,hm=>by
  rw[List.flatMap_cons,lS] at h
  simp only[List.append_assoc] at h
  have hx:=hm x zB
  obtain⟨q1,g1,g2,g3⟩:=rd_2 hp h ⟨hx.1.1,Int.lt_of_le_of_lt (show(x.1:Int)<=65535 from hx.1.2) zh⟩
  obtain⟨q2,g4,g5,g6⟩:=rd_m g2 g3 (show(x.2.1.length:Int)<=128 by omega) zf
  obtain⟨q3,g7,g8,g9⟩:=rd_m g5 g6 (show(x.2.2.length:Int)<=128 by omega) zf
  obtain⟨q',k1,k2,k3⟩:=rdAs_app g8 g9 fun y hy=>hm y (by simp[hy])
  exact⟨q',⟨q1,g1,q2,g4,q3,g7,k1⟩,k2,k3⟩
theorem rdTs_app{b r:List UInt8}:∀ {is:List Int} {p:Nat},p<=b.length->b.drop p=is.flatMap n8++r->(∀ x∈is,0<=x/\x<=1099511627776)->∃ q,rdTs b p is q/\q<=b.length/\b.drop q=r
 | [],p,hp,h,hm=>⟨p,rfl,hp,by simpa using h⟩
 | x::is,p,hp,h,hm=>by
  rw[List.flatMap_cons,List.append_assoc] at h
  have hx:=hm x zB
  obtain⟨q,g1,g2,g3⟩:=rd_n hp h zf
  obtain⟨q',k1,k2,k3⟩:=rdTs_app g2 g3 fun y hy=>hm y (by simp[hy])
  exact⟨q',⟨by omega,q,g1,k1⟩,k2,k3⟩
theorem rdMs_app{b r:List UInt8}{m:Int}(hm0:m<=65535):∀ {bs:List (List UInt8)} {p:Nat},p<=b.length->b.drop p=bs.flatMap bl++r->(∀ x∈bs,(x.length:Int)<=m)->∃ q,rdMs b m p bs q/\q<=b.length/\b.drop q=r
 | [],p,hp,h,hm=>⟨p,rfl,hp,by simpa using h⟩
 | x::bs,p,hp,h,hm=>by
  rw[List.flatMap_cons,List.append_assoc] at h
  obtain⟨q,g1,g2,g3⟩:=rd_m hp h (hm x zB) hm0
  obtain⟨q',k1,k2,k3⟩:=rdMs_app hm0 g2 g3 fun y hy=>hm y (by simp[hy])
  exact⟨q',⟨q,g1,k1⟩,k2,k3⟩
theorem ev_cdecE(c nb:Int)(hs:List Int)(az:List (El MR))(is:List Int)(bs:List (List UInt8))(hc:0<=c/\c<=255)(hsh:Y E0 (.call 158 [.i c] [])=some (.ret (.tup [.i (hs.length:Int),.i (az.length:Int),.i (is.length:Int),.i nb,.b true]) []))(hct:Y E0 (.call 159 [.i (bs.length:Int),.i nb] [])=some (.ret (.b true) []))
  (hl:hs.length<=10) (hal:az.length<=10) (hil:is.length<=10) (hbl:bs.length<=10) (hhm:∀ x∈hs,0<=x/\x<=65535) (ham:∀ x∈az,(0<=x.1/\x.1<=65535)/\x.2.1.length<=128/\x.2.2.length<=128) (him:∀ x∈is,0<=x/\x<=1099511627776) (hbm:∀ x∈bs,x.length<=1024) (hlen:(lT c hs az is bs).length<=2048):Y E0 (.call 129 [.sl .u8 (lT c hs az is bs)] [])=some (.ret (.tup [rq c hs az is bs,.i 0]) []):=by
 obtain⟨u,v,huv⟩:=len2_two (5+(aN c hs az is bs).length)
 have e:lT c hs az is bs=83::87::u::v::UInt8.ofInt c::aN c hs az is bs:=by
  rw[lT,show n2 (5+(aN c hs az is bs).length:Int)=jS (5+(aN c hs az is bs).length) from rfl,huv];rfl
 have hL:(lT c hs az is bs).length=5+(aN c hs az is bs).length:=by rw[e];simp only[List.length_cons];omega
 have hv:=len2_val zf huv
 have hib:BJ .or (Ba (D8 u) (UInt64.ofNat 8).toNat) (D8 v)=((lT c hs az is bs).length:Int):=by
  have:=u.toNat_lt
  have:=v.toNat_lt
  rw[show(UInt64.ofNat 8).toNat=8 from rfl,u8i_eq,u8i_eq,ishl8,ior_eq,or_bytes];omega
 have g:∀ i:Nat,i<5->BA (lT c hs az is bs) (i:Int)=some ([83,87,u,v,UInt8.ofInt c].getD i 0):=by
  intro i hi
  rw[lget_nat,e]
  rcases i with _|_|_|_|_|i
  all_goals first|rfl|omega
 have hst:=ev_cstart (lT c hs az is bs) u v (UInt8.ofInt c) zf (g 0 zf) (g 1 zf) (g 2 zf) (g 3 zf) (g 4 zf) hib
 have hcc:D8 (UInt8.ofInt c)=c:=by
  rw[u8i_eq]
  rw[u8_ofInt zf]
  omega
 rw[hcc] at hst
 have hx:List.take (Ar (lT c hs az is bs)-5).toNat (List.drop (Int.toNat 5) (lT c hs az is bs))=aN c hs az is bs:=by
  rw[QP,hL,e]
  show List.take _ (aN c hs az is bs)=_
  exact List.take_of_length_le zf
 generalize hB:aN c hs az is bs=x at hx hL
 have e0:x.drop 0=hs.flatMap n2++(az.flatMap lS++(is.flatMap n8++(UInt8.ofInt (bs.length:Int)::(bs.flatMap bl++[])))):=by
  rw[List.drop_zero,<-hB,aN];simp only[List.append_assoc,List.cons_append,List.nil_append,List.append_nil]
 obtain⟨p1,g1,q1,d1⟩:=rdHs_app (Nat.zero_le _) e0 hhm
 obtain⟨p2,g2,q2,d2⟩:=rdAs_app q1 d1 ham
 obtain⟨p3,g3,q3,d3⟩:=rdTs_app q2 d2 him
 obtain⟨g4,q4,d4⟩:=rd_1 q3 d3 zf
 obtain⟨p5,g5,q5,d5⟩:=rdMs_app (m:=1024) zf q4 d4 (fun x hx=>by have:=hbm x hx;omega)
 exact ev_cdec (lT c hs az is bs) x c nb hs az is bs p1 p2 p3 (p3+1) p5 hst hx zf hsh hct hl hal hil hbl g1 g2 g3 g4 g5 (rdE_ok q5 d5)
end
end Go.Proofs.YtanagnimhaemgaaGreatDoor
