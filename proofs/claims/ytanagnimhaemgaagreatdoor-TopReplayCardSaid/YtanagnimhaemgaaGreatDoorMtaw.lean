/-
  Own texts, laid together for this claim: contracts of functions of the program and its references, used by the statements of this seat.
-/
import Derived.Test.YtanagnimhaemgaaGreatDoorMtab
import Derived.Test.YtanagnimhaemgaaGreatDoorMtac
import Derived.Test.YtanagnimhaemgaaGreatDoorMtad
import Derived.Test.YtanagnimhaemgaaGreatDoorMtah
import Derived.Test.YtanagnimhaemgaaGreatDoorMtaj
import Derived.Test.YtanagnimhaemgaaGreatDoorMtal
import Derived.Test.YtanagnimhaemgaaGreatDoorMtam
import Derived.Test.YtanagnimhaemgaaGreatDoorMtan
import Derived.Test.YtanagnimhaemgaaGreatDoorMtao
import Derived.Test.YtanagnimhaemgaaGreatDoorMtav
set_option linter.all false
set_option maxHeartbeats 40000000
set_option maxRecDepth 100000
namespace Go.Proofs.YtanagnimhaemgaaGreatDoor
open Go Go.Ax Go.Eng
variable (is:List Int)(bs ns:List (List UInt8))
section
attribute [local irreducible] BL BM BN BO BP BJ BQ CX Cm CY CW Ba Bc BF BC and' BG Bd Aa Ac Ad Ae Af AL AO AP AQ BR D8 BU D5 Be Bf Ag Ah Ai Aj AB AZ AU Ar BA BV BH BB Au Aw BI Bg BX fits BZ BK A7 A8 AC
@[reducible] def nV (e:Int) (is:List Int) (bs ns:List (List UInt8)):AV:=.agg [.i e,.sl .i64 is,.sl (.sl .u8) bs,.sl (.sl .u8) ns]
theorem ev_cer_e(e:Int)(is:List Int)(bs ns:List (List UInt8))(he:e≠0):Y E0 (.call 130 [nV e is bs ns] [])=some (.ret (.sl .u8 (respB e is bs ns)) []):=by
 have h:[D5 e]=respB e is bs ns:=by rw[respB,if_pos he,iu8_eq]
 refine tq ?_
 (rw[h])
theorem ev_cer_l0(is:List Int)(bs ns:List (List UInt8))(hl:is.length<=10):∀(k j:Nat) (b:List UInt8),j+k=is.length->b.length+8*k<=1000 ->
  Y E0 (.loop 130 0 0 2 [(1,.pa 0 0),(3,.nm 1),(26,.sl .i64 is),(27,.i (is.length:Int)),(28,.i (j:Int))] [(0,some (.var [.i 0,.sl .i64 is,.sl (.sl .u8) bs,.sl (.sl .u8) ns])),(1,some (.row 5 .u8 b))])
   = some (.fin (.exit 0) 2 [(1,.pa 0 0),(3,.nm 1)] [(0,some (.var [.i 0,.sl .i64 is,.sl (.sl .u8) bs,.sl (.sl .u8) ns])),(1,some (.row 5 .u8 (b++(is.drop j).flatMap n8)))])
 | 0,j,b,hj,hb=>by
  obtain rfl:j=is.length:=zf
  rw[List.drop_length,List.flatMap_nil,List.append_nil]
  rw[JB];conv=>lhs;whnf
  refine tq ?_
  with_reducible rfl
 | k+1,j,b,hj,hb=>by
  obtain⟨x,hm,hg⟩:=get_m (l:=is) (i:=(j:Int)) zf
  have el:=n8_len x
  have ih:=ev_cer_l0 is bs ns hl k (j+1) (b++n8 x) zf (by rw[List.length_append];omega)
  rw[lget_nat] at hg
  rw[show((j+1:Nat):Int)=(j:Int)+1 from by omega,List.append_assoc,<-List.flatMap_cons,<-drop_get hg,<-uint_n8] at ih
  rw[<-lget_nat] at hg
  rw[JB];conv=>lhs;whnf
  refine to ?_
  rw[hg]
  refine tq ?_
  rw[ev_uint _ _ _ NE]
  refine tq ?_
  exact ih
theorem ev_cer_l2(q:List (List (List UInt8)))(i:Int)(bs:List (List UInt8))(hl:bs.length<=10)(hx:∀ x∈bs,x.length<=2000):∀(k j:Nat) (b:List UInt8),j+k=bs.length->b.length+2002*k<=100000 ->
  Y E0 (.loop 130 2 0 1 [(3,.nm 0),(40,.sl (.sl (.sl .u8)) q),(41,.i 2),(42,.i i),(52,.sl (.sl .u8) bs),(53,.i (bs.length:Int)),(54,.i (j:Int))] [(0,some (.row 5 .u8 b))])
   = some (.fin (.exit 4) 1 [(3,.nm 0),(40,.sl (.sl (.sl .u8)) q),(41,.i 2),(42,.i i)] [(0,some (.row 5 .u8 (b++(bs.drop j).flatMap bl)))])
 | 0,j,b,hj,hb=>by
  obtain rfl:j=bs.length:=zf
  rw[List.drop_length,List.flatMap_nil,List.append_nil]
  rw[JB];conv=>lhs;whnf
  refine tq ?_
  with_reducible rfl
 | k+1,j,b,hj,hb=>by
  obtain⟨x,hm,hg⟩:=get_m (l:=bs) (i:=(j:Int)) zf
  have ho:=hx x hm
  have el:=bl_len x
  have ih:=ev_cer_l2 q i bs hl hx k (j+1) (b++bl x) zf (by rw[List.length_append];omega)
  rw[lget_nat] at hg
  rw[show((j+1:Nat):Int)=(j:Int)+1 from by omega,List.append_assoc,<-List.flatMap_cons,<-drop_get hg,<-blob_bl (show x.length<=65535 by omega)] at ih
  rw[<-lget_nat] at hg
  rw[JB];conv=>lhs;whnf
  refine to ?_
  rw[hg]
  refine tq ?_
  rw[ev_blob _ _ NE]
  refine tq ?_
  exact ih
theorem ev_cer_l1(b:List UInt8)(hb:bs.length<=10)(hn:ns.length<=10)(hbm:∀ x∈bs,x.length<=1024)(hnm:∀ x∈ns,x.length<=1024)(hbl:b.length<=1000):Y E0 (.loop 130 1 0 1 [(3,.nm 0),(40,.sl (.sl (.sl .u8)) [bs,ns]),(41,.i 2),(42,.i 0)] [(0,some (.row 5 .u8 b))])
   = some (.fin (.exit 2) 0 [(3,.sl .u8 (b++(UInt8.ofInt (bs.length:Int)::(bs.flatMap bl++(UInt8.ofInt (ns.length:Int)::ns.flatMap bl)))))] []):=by
 have hB:(bs.flatMap bl).length<=10260:=Nat.le_trans (fm_len (m:=1026) fun x hx=>by have:=hbm x hx;rw[bl_len];omega) zf
 have h1:=fun i=>ev_cer_l2 [bs,ns] i bs hb (fun x hx=>by have:=hbm x hx;omega) bs.length 0 (b++[UInt8.ofInt (bs.length:Int)]) zf (by simp only[List.length_append,List.length_cons,List.length_nil];omega)
 have h2:=fun i=>ev_cer_l2 [bs,ns] i ns hn (fun x hx=>by have:=hnm x hx;omega) ns.length 0 (b++[UInt8.ofInt (bs.length:Int)]++bs.flatMap bl++[UInt8.ofInt (ns.length:Int)]) zf (by simp only[List.length_append,List.length_cons,List.length_nil];omega)
 rw[show((0:Nat):Int)=0 from rfl,List.drop_zero] at h1 h2
 rw[show b++(UInt8.ofInt (bs.length:Int)::(bs.flatMap bl++(UInt8.ofInt (ns.length:Int)::ns.flatMap bl)))=b++[UInt8.ofInt (bs.length:Int)]++bs.flatMap bl++[UInt8.ofInt (ns.length:Int)]++ns.flatMap bl from by simp]
 have e2:[bs,ns][(0+1:Int).toNat]'(Nat.lt_add_one 1)=ns:=rfl
 rw[JB];conv=>lhs;whnf
 refine tq ?_
 simp only[QP,UH,iu8_eq];rw[h1]
 refine tq ?_
 rw[JB]
 conv=>lhs;whnf
 rw[fH zf]
 conv=>lhs;whnf
 rw[lget_i (by(simp only[n8_len,n4_len,n2_len,bl_len,Gu,OO,Xa,ZO,LL] at *<;>omega))]
 conv=>lhs;whnf
 rw[Ls (by(simp only[n8_len,n4_len,n2_len,bl_len,Gu,OO,Xa,ZO,LL] at *<;>omega))]
 conv=>lhs;whnf
 try dsimp -iota -beta -eta -zeta only
 rw[TR]
 simp only[e2,QP,UH,iu8_eq,Nat.reduceAdd];rw[h2]
 refine tq ?_
 exact tq rfl
theorem ev_cer(hi:is.length<=10)(hb:bs.length<=10)(hn:ns.length<=10)(hbm:∀ x∈bs,x.length<=1024)(hnm:∀ x∈ns,x.length<=1024):Y E0 (.call 130 [nV 0 is bs ns] [])=some (.ret (.sl .u8 (respB 0 is bs ns)) []):=by
 have hI:(is.flatMap n8).length<=80:=Nat.le_trans (fm_len (m:=8) fun x _=>by rw[n8_len];decide) zf
 have h0:=ev_cer_l0 is bs ns hi is.length 0 [UInt8.ofInt 0,UInt8.ofInt (is.length:Int)] zf (by simp only[List.length_append,List.length_cons,List.length_nil];omega)
 have h1:=ev_cer_l1 bs ns ([UInt8.ofInt 0,UInt8.ofInt (is.length:Int)]++is.flatMap n8) hb hn hbm hnm (by simp only[List.length_append,List.length_cons,List.length_nil];omega)
 rw[show((0:Nat):Int)=0 from rfl,List.drop_zero] at h0
 have e:respB 0 is bs ns=[UInt8.ofInt 0,UInt8.ofInt (is.length:Int)]++is.flatMap n8++(UInt8.ofInt (bs.length:Int)::(bs.flatMap bl++(UInt8.ofInt (ns.length:Int)::ns.flatMap bl))):=by
  rw[respB,if_neg zB];simp
 rw[e]
 have e2:Ar [bs,ns]=2:=by rw[QP];rfl
 refine tq ?_
 simp only[QP,UH,iu8_eq,List.cons_append,List.nil_append,Nat.reduceAdd];rw[h0]
 refine tq ?_
 simp only[e2,Nat.reduceAdd];rw[h1]
 refine tq ?_
 simp only[NO];try with_reducible rfl
def rdIs(b:List UInt8):Nat->List Int->Nat->Prop
 | p,[],q=>q=p
 | p,x::xs,q=>∃ p',jQ b p 0 8=(x,p',0)/\rdIs b p' xs q
theorem rdIs_app{b r:List UInt8}:∀ {is:List Int} {p:Nat},p<=b.length->b.drop p=is.flatMap n8++r->(∀ x∈is,0<=x/\x<9223372036854775808)->∃ q,rdIs b p is q/\q<=b.length/\b.drop q=r
 | [],p,hp,h,hm=>⟨p,rfl,hp,by simpa using h⟩
 | x::is,p,hp,h,hm=>by
  rw[List.flatMap_cons,List.append_assoc] at h
  obtain⟨q,g1,g2,g3⟩:=rd_n hp h (hm x zB)
  obtain⟨q',k1,k2,k3⟩:=rdIs_app g2 g3 fun y hy=>hm y (by simp[hy])
  exact⟨q',⟨q,g1,k1⟩,k2,k3⟩
theorem ev_dre(e:Int)(is:List Int)(bs ns:List (List UInt8))(he:0<e/\e<=255):Y E0 (.call 40 [.sl .u8 (respB e is bs ns)] [])=some (.ret (.tup [nV e [] [] [],.i 0]) []):=by
 generalize hb:respB e is bs ns=b
 have e0:b.drop 0=UInt8.ofInt e::[]:=by rw[List.drop_zero,<-hb,respB,if_pos zf]
 obtain⟨g0,q0,d0⟩:=rd_1 (Nat.zero_le _) e0 zf
 have hl:b.length=1:=by have:=congrArg List.length e0;simpa using this
 have h0:=ev_r3ruint b 0 0 1 zf zf
 have hz:=ev_r3end b 1 0 zf zf
 rw[g0] at h0
 rw[show jR b 1 0=0 from rdE_ok q0 d0] at hz
 refine tq ?_
 rw[ev_r3new _]
 refine tq ?_
 rw[show Y E0 (.call 61 [.pa 0 0,.i 1] [.var [.sl .u8 b,.i 0,.i 0]])=_ from h0]
 refine tq ?_
 rw[show Y E0 (.call 63 [.pa 0 0] _)=_ from hz]
 exact tq rfl
theorem ev_dr_l0(b:List UInt8)(m:Nat)(hb:b.length<=1000000)(hm:m<=255):∀(k j:Nat) (l xs:List Int) (p q:Nat),j+k=m->xs.length=k->p<=b.length->l.length+k<=300->rdIs b p xs q ->
  Y E0 (.loop 40 0 0 4 [(2,.pa 0 0),(4,.pa 1 0),(5,.pa 2 0),(6,.i (m:Int)),(7,.i (j:Int))] [(0,some (.var [.i 0,.nil,.nil,.nil])),(1,some (.var [.sl .u8 b,.i (p:Int),.i 0])),(2,some (.var [.i 0,.nm 3,.nil,.nil])),(3,some (.row 3 .i64 l))])
   = some (.fin (.exit 0) 4 [(2,.pa 0 0),(4,.pa 1 0),(5,.pa 2 0)] [(0,some (.var [.i 0,.nil,.nil,.nil])),(1,some (.var [.sl .u8 b,.i (q:Int),.i 0])),(2,some (.var [.i 0,.nm 3,.nil,.nil])),(3,some (.row 3 .i64 (l++xs)))])
 | 0,j,l,[],p,q,hj,hx,hp,hl,h=>by
  obtain rfl:j=m:=zf
  obtain rfl:q=p:=h
  rw[List.append_nil]
  rw[JB];conv=>lhs;whnf
  refine tq ?_
  with_reducible rfl
 | k+1,j,l,x::xs,p,q,hj,hx,hp,hl,h=>by
  obtain⟨q1,h1,h2⟩:=h
  have g:=ev_r3ruint b p 0 8 zf hp
  rw[h1] at g
  have ih:=ev_dr_l0 b m hb hm k (j+1) (l++[x]) xs q1 q zf (by simpa using hx) (rdU_p hp h1) zx h2
  rw[show((j+1:Nat):Int)=(j:Int)+1 from by omega,List.append_assoc,List.singleton_append] at ih
  rw[<-UH l [x]] at ih
  rw[JB];conv=>lhs;whnf
  refine tq ?_
  rw[g]
  refine tq ?_
  exact ih
theorem ev_dr_l1(b:List UInt8)(is:List Int)(m:Nat)(hb:b.length<=1000000)(hm:m<=255):∀(k j:Nat) (l xs:List (List UInt8)) (p q:Nat),j+k=m->xs.length=k->p<=b.length->l.length+k<=300->rdMs b 1024 p xs q ->
  Y E0 (.loop 40 1 0 5 [(2,.pa 0 0),(4,.pa 1 0),(5,.pa 2 0),(6,.i (m:Int)),(8,.i (j:Int))] [(0,some (.var [.i 0,.nil,.nil,.nil])),(1,some (.var [.sl .u8 b,.i (p:Int),.i 0])),(2,some (.var [.i 0,.nm 3,.nm 4,.nil])),(3,some (.row 3 .i64 is)),(4,some (.row 22 (.sl .u8) l))])
   = some (.fin (.exit 2) 5 [(2,.pa 0 0),(4,.pa 1 0),(5,.pa 2 0)] [(0,some (.var [.i 0,.nil,.nil,.nil])),(1,some (.var [.sl .u8 b,.i (q:Int),.i 0])),(2,some (.var [.i 0,.nm 3,.nm 4,.nil])),(3,some (.row 3 .i64 is)),(4,some (.row 22 (.sl .u8) (l++xs)))])
 | 0,j,l,[],p,q,hj,hx,hp,hl,h=>by
  obtain rfl:j=m:=zf
  obtain rfl:q=p:=h
  rw[List.append_nil]
  rw[JB];conv=>lhs;whnf
  refine tq ?_
  with_reducible rfl
 | k+1,j,l,x::xs,p,q,hj,hx,hp,hl,h=>by
  obtain⟨q1,h1,h2⟩:=h
  have g:=ev_r3rblob b p 0 1024 zf hp
  rw[h1] at g
  have ih:=ev_dr_l1 b is m hb hm k (j+1) (l++[x]) xs q1 q zf (by simpa using hx) (rdB_p hp h1) zx h2
  rw[show((j+1:Nat):Int)=(j:Int)+1 from by omega,List.append_assoc,List.singleton_append] at ih
  rw[<-UH l [x]] at ih
  rw[JB];conv=>lhs;whnf
  refine tq ?_
  rw[g]
  refine tq ?_
  exact ih
theorem ev_dr_l2(b:List UInt8)(is:List Int)(bs:List (List UInt8))(m:Nat)(hb:b.length<=1000000)(hm:m<=255):∀(k j:Nat) (l xs:List (List UInt8)) (p q:Nat),j+k=m->xs.length=k->p<=b.length->l.length+k<=300->rdMs b 1024 p xs q ->
  Y E0 (.loop 40 2 0 6 [(2,.pa 0 0),(4,.pa 1 0),(5,.pa 2 0),(6,.i (m:Int)),(9,.i (j:Int))] [(0,some (.var [.i 0,.nil,.nil,.nil])),(1,some (.var [.sl .u8 b,.i (p:Int),.i 0])),(2,some (.var [.i 0,.nm 3,.nm 4,.nm 5])),(3,some (.row 3 .i64 is)),(4,some (.row 22 (.sl .u8) bs)),(5,some (.row 22 (.sl .u8) l))])
   = some (.fin (.exit 4) 6 [(2,.pa 0 0),(4,.pa 1 0),(5,.pa 2 0)] [(0,some (.var [.i 0,.nil,.nil,.nil])),(1,some (.var [.sl .u8 b,.i (q:Int),.i 0])),(2,some (.var [.i 0,.nm 3,.nm 4,.nm 5])),(3,some (.row 3 .i64 is)),(4,some (.row 22 (.sl .u8) bs)),(5,some (.row 22 (.sl .u8) (l++xs)))])
 | 0,j,l,[],p,q,hj,hx,hp,hl,h=>by
  obtain rfl:j=m:=zf
  obtain rfl:q=p:=h
  rw[List.append_nil]
  rw[JB];conv=>lhs;whnf
  refine tq ?_
  with_reducible rfl
 | k+1,j,l,x::xs,p,q,hj,hx,hp,hl,h=>by
  obtain⟨q1,h1,h2⟩:=h
  have g:=ev_r3rblob b p 0 1024 zf hp
  rw[h1] at g
  have ih:=ev_dr_l2 b is bs m hb hm k (j+1) (l++[x]) xs q1 q zf (by simpa using hx) (rdB_p hp h1) zx h2
  rw[show((j+1:Nat):Int)=(j:Int)+1 from by omega,List.append_assoc,List.singleton_append] at ih
  rw[<-UH l [x]] at ih
  rw[JB];conv=>lhs;whnf
  refine tq ?_
  rw[g]
  refine tq ?_
  exact ih
theorem ev_dr(hi:is.length<=10)(hb:bs.length<=10)(hn:ns.length<=10)(him:∀ x∈is,0<=x/\x<9223372036854775808)(hbm:∀ x∈bs,x.length<=1024)(hnm:∀ x∈ns,x.length<=1024):Y E0 (.call 40 [.sl .u8 (respB 0 is bs ns)] [])=some (.ret (.tup [nV 0 is bs ns,.i 0]) []):=by
 have hI:(is.flatMap n8).length<=80:=Nat.le_trans (fm_len (m:=8) fun x _=>by rw[n8_len];decide) zf
 have hB:(bs.flatMap bl).length<=10260:=Nat.le_trans (fm_len (m:=1026) fun x hx=>by have:=hbm x hx;rw[bl_len];omega) zf
 have hN:(ns.flatMap bl).length<=10260:=Nat.le_trans (fm_len (m:=1026) fun x hx=>by have:=hnm x hx;rw[bl_len];omega) zf
 generalize hb':respB 0 is bs ns=b
 have e0:b.drop 0=UInt8.ofInt 0::(UInt8.ofInt (is.length:Int)::(is.flatMap n8++(UInt8.ofInt (bs.length:Int)::(bs.flatMap bl++(UInt8.ofInt (ns.length:Int)::(ns.flatMap bl++[])))))):=by
  rw[List.drop_zero,<-hb',respB,if_neg zB];simp
 have hlen:b.length<=30000:=by
  have:=congrArg List.length e0
  simp only[List.drop_zero,List.length_cons,List.length_append,List.length_nil] at this
  omega
 obtain⟨g0,q0,d0⟩:=rd_1 (Nat.zero_le _) e0 zf
 obtain⟨g1,q1,d1⟩:=rd_1 q0 d0 zf
 obtain⟨p2,g2,q2,d2⟩:=rdIs_app q1 d1 him
 obtain⟨g3,q3,d3⟩:=rd_1 q2 d2 zf
 obtain⟨p4,g4,q4,d4⟩:=rdMs_app (m:=1024) zf q3 d3 (fun x hx=>by have:=hbm x hx;omega)
 obtain⟨g5,q5,d5⟩:=rd_1 q4 d4 zf
 obtain⟨p6,g6,q6,d6⟩:=rdMs_app (m:=1024) zf q5 d5 (fun x hx=>by have:=hnm x hx;omega)
 have h0:=ev_r3ruint b 0 0 1 zf zf
 have h1:=ev_r3ruint b (0+1) 0 1 zf q0
 have h3:=ev_r3ruint b p2 0 1 zf q2
 have h5:=ev_r3ruint b p4 0 1 zf q4
 have hz:=ev_r3end b p6 0 zf q6
 rw[g0] at h0;rw[g1] at h1;rw[g3] at h3;rw[g5] at h5;rw[rdE_ok q6 d6] at hz
 have l0:=ev_dr_l0 b is.length zf zf is.length 0 [] is (0+1+1) p2 zf rfl q1 zx g2
 have l1:=ev_dr_l1 b is bs.length zf zf bs.length 0 [] bs (p2+1) p4 zf rfl q3 zx g4
 have l2:=ev_dr_l2 b is bs ns.length zf zf ns.length 0 [] ns (p4+1) p6 zf rfl q5 zx g6
 simp only[List.nil_append,show((0:Nat):Int)=0 from rfl] at l0 l1 l2
 refine tq ?_
 rw[ev_r3new _]
 refine tq ?_
 rw[show Y E0 (.call 61 [.pa 0 0,.i 1] [.var [.sl .u8 b,.i 0,.i 0]])=_ from h0]
 refine tq ?_
 rw[h1]
 refine tq ?_
 simp only[Nat.reduceAdd];rw[l0]
 refine tq ?_
 rw[h3]
 refine tq ?_
 simp only[Nat.reduceAdd];rw[l1]
 refine tq ?_
 rw[h5]
 refine tq ?_
 simp only[Nat.reduceAdd];rw[l2]
 refine tq ?_
 rw[hz]
 exact tq rfl
end
section
attribute [local irreducible] BL BM BN BO BP BJ BQ CX Cm CY CW Ba Bc BF BC and' BG Bd Aa Ac Ad Ae Af AL AO AP AQ BR D8 BU D5 Be Bf Ag Ah Ai Aj AB AZ AU Ar BA BV BH BB Au Aw BI Bg BX fits BZ BK A7 A8 AC
abbrev ctr:El FU:=(1,2,3,8,[],[],false,[0,0,0,0,0,0,0,0])
theorem ctr_ok:iU ctr:=by unfold iU iT;simp
theorem ev_isized:Y E0 (.call 309 [.i 2,.i 8] [])=some (.ret (.b true) []):=by
 refine tq ?_
 with_reducible rfl
theorem ev_inew:Y E0 (.call 259 [.i 1,.i 2,.i 3,.i 8,.sl .u8 [],.sl .u8 []] [])=some (.ret (.tup [.agg [.i 1,.i 2,.i 3,.i 8,.sl .u8 [],.sl .u8 [],.b false,.sl .u8 [0,0,0,0,0,0,0,0]],.i 0]) []):=by
 have a1:BJ .and 3 21=1:=by rw[aZ];rfl
 have a2:BJ .and 3 42=2:=by rw[aZ];rfl
 have a3:BJ .and 3 12=0:=by rw[aZ];rfl
 have h8:Au 8 (0:UInt8)=[0,0,0,0,0,0,0,0]:=by rw[QQ];rfl
 refine tq ?_
 rw[ev_isized]
 conv=>lhs;whnf
 rw[UK];conv=>lhs;whnf
 rw[fG (by(simp only[n8_len,n4_len,n2_len,bl_len,Gu,OO,Xa,ZO,LL] at *<;>omega))]
 conv=>lhs;whnf
 rw[fJ (by(simp only[n8_len,n4_len,n2_len,bl_len,Gu,OO,Xa,ZO,LL] at *<;>omega))]
 conv=>lhs;whnf
 rw[fJ zf]
 conv=>lhs;whnf
 rw[fJ zf]
 conv=>lhs;whnf
 rw[a1]
 conv=>lhs;whnf
 rw[fE zf]
 conv=>lhs;whnf
 rw[a2]
 conv=>lhs;whnf
 rw[fE zf]
 conv=>lhs;whnf
 rw[a3]
 refine tq ?_
 (rw[h8])
theorem ev_idx0_l(f:Nat):Y E0 (.loop 310 0 1 1 [(0,.sl FU []),(1,.fn f [] [.pa 0 0]),(7,.i 0),(8,.i 0)] [(0,some (.var [.i 1,.i 2,.i 3,.i 8,.sl .u8 [],.sl .u8 [],.b false,.sl .u8 [0,0,0,0,0,0,0,0]]))])=some (.fin (.exit 0) 1 [] [(0,some (.var [.i 1,.i 2,.i 3,.i 8,.sl .u8 [],.sl .u8 [],.b false,.sl .u8 [0,0,0,0,0,0,0,0]]))]):=by
 rw[JB];conv=>lhs;whnf
 refine tq ?_
 with_reducible rfl
theorem ev_idx0(f:Nat):Y E0 (.call 310 [.sl FU [],.fn f [] [.pa 0 0]] [.var [.i 1,.i 2,.i 3,.i 8,.sl .u8 [],.sl .u8 [],.b false,.sl .u8 [0,0,0,0,0,0,0,0]]])=some (.ret (.i (-1)) [some (.var [.i 1,.i 2,.i 3,.i 8,.sl .u8 [],.sl .u8 [],.b false,.sl .u8 [0,0,0,0,0,0,0,0]])]):=by
 have e:Ar ([]:List (El FU))=0:=by rw[QP];rfl
 refine tq ?_
 rw[e,ev_idx0_l]
 exact tq rfl
theorem ev_clix0:Y E0 (.call 262 [.sl FU []] [])=some (.ret (.nm 0) [some (.row 181 FU [])]):=by
 have hf:fits (α:=El FU) [] 32768=true:=Ls (α:=El FU) zh
 refine tq ?_
 rw[show E0.ov (Req.call 262 [AV.sl FU []] [])=(bif fits (α:=El FU) [] 32768 then some (.ret (.nm 0) [some (.row 181 FU [])]) else none) from rfl,hf]
 rfl
theorem ev_conx:Y E0 (.call 260 [.sl FU [],.fn 261 [] [.pa 0 0]] [.var [.i 1,.i 2,.i 3,.i 8,.sl .u8 [],.sl .u8 [],.b false,.sl .u8 [0,0,0,0,0,0,0,0]]])=some (.ret (.b false) [some (.var [.i 1,.i 2,.i 3,.i 8,.sl .u8 [],.sl .u8 [],.b false,.sl .u8 [0,0,0,0,0,0,0,0]])]):=by
 have k:=ev_idx0 261
 refine tq ?_
 rw[k]
 conv=>lhs;whnf
 (congr 3;simp only[bu,bz,ilt_eq,ile_eq,UK,bi,QP];first|rfl|(rw[decide_eq_decide];omega)|(simp;omega))
theorem ev_define(sd:List (List UInt8))(au:List (List UInt8))(en:List UInt8)(ac:Int)(re:Int)(rs:Int)(ck:Int)(od:Bool)(su:Int)(mc:Int)(ix:List (El FU))(l1:Int)(l2:Int)(l3:Int)(l4:Int)(l5:Int)(l6:Int)(ks:List (El IJ))(st:Bool)(sp:Bool)(rb:List (List (List UInt8)))(ru:Int)(vc:Int)(sf:Bool)(dr:Int)(ss:List (El Gi))(ob:List (El objT))(rl:List Int)(wl:List Int)(h:Int)(az:List (El MR))(hix:ix=[]):Y E0 (.call 203 [.agg [.sl (.sl .u8) sd,.sl (.sl .u8) au,.sl .u8 en,.i ac,.i re,.i rs,.i ck,.b od,.sl (.sl (.sl .u8)) [],.i su,.i mc,.sl FU ix,.i l1,.i l2,.i l3,.i l4,.i l5,.i l6,.sl IJ ks,.b st,.b sp,.sl (.sl (.sl .u8)) rb,.i ru,.i vc,.b sf,.i dr,.sl Gi ss,.sl objT ob,.sl .i64 rl,.sl .i64 wl],rq 21 [h] az [1,2,3,8] [[],[]]] [])=some (.ret (.tup [.agg [.sl (.sl .u8) sd,.sl (.sl .u8) au,.sl .u8 en,.i ac,.i re,.i rs,.i ck,.b od,.sl (.sl (.sl .u8)) [],.i su,.i mc,.sl FU [ctr],.i l1,.i l2,.i l3,.i l4,.i l5,.i l6,.sl IJ ks,.b st,.b sp,.sl (.sl (.sl .u8)) rb,.i ru,.i vc,.b sf,.i dr,.sl Gi ss,.sl objT ob,.sl .i64 rl,.sl .i64 wl],nV 0 [] [] []]) []):=by
 subst hix
 have g3:BA ([1,2,3,8]:List Int) 3=some 8:=by rw[lget_i zh];rfl
 have e0:Ar ([]:List (El FU))=0:=by rw[QP];rfl
 have ea:Aw ([]:List (El FU)) [ctr]=[ctr]:=by rw[UH];rfl
 refine tq ?_
 rw[g3]
 refine tq ?_
 rw[ev_inew]
 refine tq ?_
 rw[ev_conx]
 conv=>lhs;whnf
 rw[e0]
 refine tq ?_
 rw[ev_clix0]
 refine tq ?_
 simp only[NO];try with_reducible rfl
theorem ev_undf1(n k a z m:Int)(u p d:List UInt8)(w:Bool):Y E0 (.call 264 [.agg [.i n,.i k,.i a,.i z,.sl .u8 p,.sl .u8 u,.b w,.sl .u8 d],.pa 0 0] [.var [.i m]])=some (.ret (.b (CX n m)) [some (.var [.i m])]):=by
 refine tq ?_
 with_reducible rfl
theorem ev_idxf_l:Y E0 (.loop 310 0 1 1 [(0,.sl FU [ctr]),(1,.fn 264 [] [.pa 0 0]),(7,.i 1),(8,.i 0)] [(0,some (.var [.i 1]))])=some (.fin .ret 1 [(4,.i 0)] [(0,some (.var [.i 1]))]):=by
 have k1:=ev_undf1 1 2 3 8 1 [] [] [0,0,0,0,0,0,0,0] false
 rw[fD rfl] at k1
 have g0:BA ([ctr]:List (El FU)) 0=some ctr:=by rw[lget_i zh];rfl
 rw[JB];conv=>lhs;whnf
 rw[fH zf]
 conv=>lhs;whnf
 rw[g0]
 refine tq ?_
 rw[k1]
 exact tq rfl
theorem ev_idxf:Y E0 (.call 310 [.sl FU [ctr],.fn 264 [] [.pa 0 0]] [.var [.i 1]])=some (.ret (.i 0) [some (.var [.i 1])]):=by
 have e:Ar ([ctr]:List (El FU))=1:=by rw[QP];rfl
 refine tq ?_
 rw[e]
 conv=>lhs;whnf
 rw[ev_idxf_l]
 exact tq rfl
theorem ev_clix:Y E0 (.call 262 [.sl FU [ctr]] [])=some (.ret (.nm 0) [some (.row 181 FU [ctr])]):=by
 have hf:fits (α:=El FU) [ctr] 32768=true:=Ls (α:=El FU) zh
 refine tq ?_
 rw[show E0.ov (Req.call 262 [AV.sl FU [ctr]] [])=(bif fits (α:=El FU) [ctr] 32768 then some (.ret (.nm 0) [some (.row 181 FU [ctr])]) else none) from rfl,hf]
 rfl
theorem ev_del_l:Y E0 (.loop 263 0 2 2 [(0,.nm 0),(1,.fn 264 [] [.pa 1 0]),(5,.i 0),(6,.i 1)] [(0,some (.row 181 FU [ctr])),(1,some (.var [.i 1]))])=some (.fin (.exit 0) 2 [(0,.nm 0),(5,.i 0)] [(0,some (.row 181 FU [ctr])),(1,some (.var [.i 1]))]):=by
 have e:Ar ([ctr]:List (El FU))=1:=by rw[QP];rfl
 rw[JB];conv=>lhs;whnf
 refine tq ?_
 with_reducible rfl
theorem ev_delix:Y E0 (.call 263 [.nm 0,.fn 264 [] [.pa 1 0]] [.row 181 FU [ctr],.var [.i 1]])=some (.ret (.sl FU []) [some (.row 181 FU (Au (Ar ([ctr]:List (El FU))) (0,0,0,0,[],[],false,[]))),some (.var [.i 1])]):=by
 have e:Ar ([ctr]:List (El FU))=1:=by rw[QP];rfl
 refine tq ?_
 rw[ev_idxf]
 refine tq ?_
 rw[show(0:Int)+1=1 from rfl];rw[ev_del_l]
 exact tq rfl
theorem ev_clni:Y E0 (.call 312 [.sl .i64 []] [])=some (.ret (.nm 0) [some (.row 3 .i64 [])]):=by
 have hf:fits (α:=El .i64) [] 32768=true:=Ls (α:=El .i64) zh
 refine tq ?_
 rw[show E0.ov (Req.call 312 [AV.sl .i64 []] [])=(bif fits (α:=El .i64) [] 32768 then some (.ret (.nm 0) [some (.row 3 .i64 [])]) else none) from rfl,hf]
 rfl
theorem ev_idxi_l:Y E0 (.loop 346 0 1 1 [(0,.sl .i64 []),(1,.fn 313 [] [.pa 0 0]),(7,.i 0),(8,.i 0)] [(0,some (.var [.i 1]))])=some (.fin (.exit 0) 1 [] [(0,some (.var [.i 1]))]):=by
 rw[JB];conv=>lhs;whnf
 refine tq ?_
 with_reducible rfl
theorem ev_idxi:Y E0 (.call 346 [.sl .i64 [],.fn 313 [] [.pa 0 0]] [.var [.i 1]])=some (.ret (.i (-1)) [some (.var [.i 1])]):=by
 have e:Ar ([]:List Int)=0:=by rw[QP];rfl
 refine tq ?_
 rw[e,ev_idxi_l]
 exact tq rfl
theorem ev_deli:Y E0 (.call 311 [.nm 0,.fn 313 [] [.pa 1 0]] [.row 3 .i64 [],.var [.i 1]])=some (.ret (.nm 0) [some (.row 3 .i64 []),some (.var [.i 1])]):=by
 refine tq ?_
 rw[ev_idxi]
 exact tq rfl
theorem ev_without:Y E0 (.call 265 [.sl .i64 [],.i 1] [])=some (.ret (.sl .i64 []) []):=by
 refine tq ?_
 rw[ev_clni]
 refine tq ?_
 rw[ev_deli]
 exact tq rfl
theorem ev_undefine(sd:List (List UInt8))(au:List (List UInt8))(en:List UInt8)(ac:Int)(re:Int)(rs:Int)(ck:Int)(od:Bool)(su:Int)(mc:Int)(ix:List (El FU))(l1:Int)(l2:Int)(l3:Int)(l4:Int)(l5:Int)(l6:Int)(ks:List (El IJ))(st:Bool)(sp:Bool)(rb:List (List (List UInt8)))(ru:Int)(vc:Int)(sf:Bool)(dr:Int)(ss:List (El Gi))(ob:List (El objT))(rl:List Int)(wl:List Int)(hix:ix=[ctr])(hrl:rl=[])(hwl:wl=[]):Y E0 (.call 204 [.agg [.sl (.sl .u8) sd,.sl (.sl .u8) au,.sl .u8 en,.i ac,.i re,.i rs,.i ck,.b od,.sl (.sl (.sl .u8)) [],.i su,.i mc,.sl FU ix,.i l1,.i l2,.i l3,.i l4,.i l5,.i l6,.sl IJ ks,.b st,.b sp,.sl (.sl (.sl .u8)) rb,.i ru,.i vc,.b sf,.i dr,.sl Gi ss,.sl objT ob,.sl .i64 rl,.sl .i64 wl],.i 1] [])=some (.ret (.tup [.agg [.sl (.sl .u8) sd,.sl (.sl .u8) au,.sl .u8 en,.i ac,.i re,.i rs,.i ck,.b od,.sl (.sl (.sl .u8)) [],.i su,.i mc,.sl FU [],.i l1,.i l2,.i l3,.i l4,.i l5,.i l6,.sl IJ ks,.b st,.b sp,.sl (.sl (.sl .u8)) rb,.i ru,.i vc,.b sf,.i dr,.sl Gi ss,.sl objT ob,.sl .i64 rl,.sl .i64 wl],nV 0 [] [] []]) []):=by
 subst hix hrl hwl
 have e1:Ar ([ctr]:List (El FU))=1:=by rw[QP];rfl
 have e0:Ar ([]:List (El FU))=0:=by rw[QP];rfl
 refine tq ?_
 rw[ev_clix]
 refine tq ?_
 rw[ev_delix]
 conv=>lhs;whnf
 rw[e1]
 conv=>lhs;whnf
 rw[e0]
 refine tq ?_
 rw[ev_without]
 refine tq ?_
 rw[ev_without]
 exact tq rfl
end
end Go.Proofs.YtanagnimhaemgaaGreatDoor
