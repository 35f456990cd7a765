/-
  Own texts, laid together for this claim: contracts of functions of the program and its references, used by the statements of this seat.
-/
import Derived.Test.YtnhgnfdbdflhcaaGreatDoorMtab
import Derived.Test.YtnhgnfdbdflhcaaGreatDoorMtad
import Derived.Test.YtnhgnfdbdflhcaaGreatDoorMtae
import Derived.Test.YtnhgnfdbdflhcaaGreatDoorMtah
import Derived.Test.YtnhgnfdbdflhcaaGreatDoorMtaj
import Derived.Test.YtnhgnfdbdflhcaaGreatDoorMtas
import Derived.Test.YtnhgnfdbdflhcaaGreatDoorMtau
set_option linter.all false
set_option maxHeartbeats 40000000
set_option maxRecDepth 100000
namespace Go.Ax
theorem qZ{a:Int}{rb:List (List (List UInt8))}(h:OW a rb):rb.length<=2/\(∀ b∈rb,b.length<=4294967296)/\∀ b∈rb,∀ l∈b,l.length<=4294967296:=by
 have hb:∀(n:Nat) (b:List (List UInt8)),n<=32->(b=[]\/Fg n b)->b.length<=4294967296/\∀ l∈b,l.length<=4294967296:=by
  rintro n b hn (rfl|⟨h1,h2⟩)
  ·exact⟨by simp,by simp⟩
  ·exact⟨by omega,fun l hl=>by rw[h2 l hl];omega⟩
 rcases h with rfl|⟨b0,b1,rfl,h0,h1,-⟩
 ·exact⟨by simp,by simp,by simp⟩
 ·have q0:=hb 20 b0 zal h0
  have q1:=hb 32 b1 zal h1
  refine⟨by simp,?_,?_⟩<;>intro b hm<;>simp only[List.mem_cons,List.not_mem_nil,or_false] at hm<;>rcases hm with rfl|rfl
  ·exact q0.1
  ·exact q1.1
  ·exact q0.2
  ·exact q1.2
end Go.Ax
namespace Go.Proofs.YtnhgnfdbdflhcaaGreatDoor
open Go Go.Ax Go.Eng
section
attribute [local irreducible] Cc Dn D7 DU DD BA Dp F7 FY FD Ez Ci CS DK DV and' DW DL C9 BR Bh CB CG BG BI Aw BC Dq Fh Dt ER DX Bl CE Bv Bz Bi Az Bg BK Bj BO Du Bc DF BZ BM Cj Di fits Dv Dk Ac Am BH
theorem Lm(b:Bool):DK b b=true:=by rw[SS];simp[beq0]
theorem Po(l:List Int)(hl:l.length<=100000):∀(n j:Nat),j+n=l.length->Y E0 (.loop 140 0 0 0 [(0,.sl .i64 l),(1,.sl .i64 l),(5,.i (j:Int))] [])=some (.fin (.exit 0) 0 [] [])
 | 0,j,hj=>by
  exact tq rfl
 | n+1,j,hj=>by
  have ih:=Po l hl n (j+1) zaa
  rw[show((j+1:Nat):Int)=(j:Int)+1 from by omega] at ih
  refine tq ?_;exact ih
theorem ae(l:List Int)(hl:l.length<=100000):Y E0 (.call 140 [.sl .i64 l,.sl .i64 l] [])=some (.ret (.b true) []):=by
 have hq:=Po l hl l.length 0 zaa
 rw[show((0:Nat):Int)=0 from rfl] at hq;refine tq ?_;rw[hq];exact tq rfl
theorem qW(rb:List (List (List UInt8)))(u k:Int)(hl:rb.length<=100)(hk:0<=k/\k<=1):Y E0 (.call 112 [.agg [.sl (.sl (.sl .u8)) rb,.i u],.i k] [])=some (.ret (.b (decide (k<rb.length/\0<(rb.getD k.toNat []).length))) []):=by
 by_cases hc:k<rb.length
 ·have hg:BO rb k=some (rb.getD k.toNat []):=by rw[DZ zaa];simp[List.getD,List.getElem?_eq_getElem (show k.toNat<rb.length by omega)]
  generalize rb.getD k.toNat []=x at *
  refine tq ?_;rw[hg];refine tq ?_
  (congr 3;simp only[Jd,BB];rw[decide_eq_decide];omega)
 ·rw[decide_eq_false zaa];exact tq rfl
theorem Qw(rb:List (List (List UInt8)))(u:Int)(hl:rb.length<=2)(hb:∀ b∈rb,b.length<=4294967296)(hc:∀ b∈rb,∀ l∈b,l.length<=4294967296):∀(n j:Nat),j+n=2->Y E0 (.loop 139 0 0 2 [(2,.pa 0 0),(3,.pa 1 0),(5,.i (j:Int))] [(0,some (.var [.sl (.sl (.sl .u8)) rb,.i u])),(1,some (.var [.sl (.sl (.sl .u8)) rb,.i u]))])=some (.fin (.exit 0) 2 [(2,.pa 0 0),(3,.pa 1 0)] [(0,some (.var [.sl (.sl (.sl .u8)) rb,.i u])),(1,some (.var [.sl (.sl (.sl .u8)) rb,.i u]))])
 | 0,j,hj=>by
  obtain rfl:j=2:=zaa
  exact tq rfl
 | n+1,j,hj=>by
  have ih:=Qw rb u hl hb hc n (j+1) zaa
  rw[show((j+1:Nat):Int)=(j:Int)+1 from by omega] at ih
  have ea:=qW rb u (j:Int) zaa zaa
  rw[Int.toNat_natCast] at ea
  by_cases hk:(j:Int)<rb.length/\0<(rb.getD j []).length
  ·rw[decide_eq_true hk] at ea
   have hg:BO rb (j:Int)=some (rb.getD j []):=by rw[Fe zaa];simp[List.getD,List.getElem?_eq_getElem (show j<rb.length by omega)]
   have hm:rb.getD j []∈rb:=by simp only[List.getD,List.getElem?_eq_getElem (show j<rb.length by omega),Option.getD_some];exact List.getElem_mem _
   have e1:=hb _ hm
   have e2:=hc _ hm
   generalize rb.getD j []=x at *
   have el:=OM x x e1 e2
   rw[decide_eq_true rfl] at el
   refine tq ?_;rw[ea];refine tq ?_;rw[ea]
   conv=>lhs;whnf
   rw[Lm];refine tq ?_;rw[ea];refine to ?_;rw[hg];refine to ?_;rw[hg];refine tq ?_;rw[el];refine tq ?_;exact ih
  ·rw[decide_eq_false hk] at ea
   refine tq ?_;rw[ea];refine tq ?_;rw[ea]
   conv=>lhs;whnf
   rw[Lm];refine tq ?_;rw[ea];refine tq ?_;exact ih
theorem fB(rb:List (List (List UInt8)))(u:Int)(hl:rb.length<=2)(hb:∀ b∈rb,b.length<=4294967296)(hc:∀ b∈rb,∀ l∈b,l.length<=4294967296):Y E0 (.call 139 [.agg [.sl (.sl (.sl .u8)) rb,.i u],.agg [.sl (.sl (.sl .u8)) rb,.i u]] [])=some (.ret (.b true) []):=by
 have hq:=Qw rb u hl hb hc 2 0 zaa
 rw[show((0:Nat):Int)=0 from rfl] at hq;refine tq ?_;rw[hq]
 conv=>lhs;whnf
 rw[Gm zaB]
 conv=>lhs;whnf
 (rw[Gm (by rw[BB];omega)])
theorem wo(a b c d:Int)(x y:List UInt8)(e:Int)(g:Bool)(hx:x.length<=100000)(hy:y.length<=100000):Y E0 (.call 141 [.agg [.i a,.sl .u8 x,.sl .u8 y,.i b,.i c,.i d,.i e,.b g],.agg [.i a,.sl .u8 x,.sl .u8 y,.i b,.i c,.i d,.i e,.b g]] [])=some (.ret (.b true) []):=by
 refine tq ?_;rw[Bq _ _ A7];refine tq ?_;rw[Bq _ _ A7]
 conv=>lhs;whnf
 rw[decide_eq_true rfl];conv=>lhs;whnf
 rw[EH zaa]
 conv=>lhs;whnf
 rw[Ad]
 conv=>lhs;whnf
 rw[EH zaa]
 conv=>lhs;whnf
 rw[EH zaa]
 conv=>lhs;whnf
 rw[EH zaa]
 conv=>lhs;whnf
 rw[Ad]
 conv=>lhs;whnf
 (rw[Lm])
theorem qX(st sp:Bool)(rb:List (List (List UInt8)))(ru vc:Int)(sf:Bool)(dr:Int)(ss:List (El sesT))(ob:List (El objT))(rl wl:List Int)(hss:ss.length<=1000)(hso:∀ x∈ss,x.2.1.length<=1000/\x.2.2.1.length<=1000):∀(n j:Nat),j+n=ss.length->Y E0 (.loop 71 0 0 2 [(5,.pa 0 0),(6,.pa 1 0),(7,.i (j:Int))] [(0,some (.var [.b st,.b sp,.sl (.sl (.sl .u8)) rb,.i ru,.i vc,.b sf,.i dr,.sl sesT ss,.sl objT ob,.sl .i64 rl,.sl .i64 wl])),(1,some (.var [.b st,.b sp,.sl (.sl (.sl .u8)) rb,.i ru,.i vc,.b sf,.i dr,.sl sesT ss,.sl objT ob,.sl .i64 rl,.sl .i64 wl]))])=some (.fin (.exit 0) 2 [(5,.pa 0 0),(6,.pa 1 0)] [(0,some (.var [.b st,.b sp,.sl (.sl (.sl .u8)) rb,.i ru,.i vc,.b sf,.i dr,.sl sesT ss,.sl objT ob,.sl .i64 rl,.sl .i64 wl])),(1,some (.var [.b st,.b sp,.sl (.sl (.sl .u8)) rb,.i ru,.i vc,.b sf,.i dr,.sl sesT ss,.sl objT ob,.sl .i64 rl,.sl .i64 wl]))])
 | 0,j,hj=>by
  exact tq rfl
 | n+1,j,hj=>by
  have ih:=qX st sp rb ru vc sf dr ss ob rl wl hss hso n (j+1) zaa
  rw[show((j+1:Nat):Int)=(j:Int)+1 from by omega] at ih
  have hg:BO ss (j:Int)=some (ss[j]'zaa):=Fe zaa
  have hm:=hso _ (List.getElem_mem (show j<ss.length by omega))
  generalize ss[j]'zaa=x at *
  obtain⟨x1,x2,x3,x4,x5,x6,x7,x8⟩:=x
  dsimp only at hm
  refine to ?_;rw[hg];refine to ?_;rw[hg];refine tq ?_;rw[wo _ _ _ _ _ _ _ _ zaa zaa];refine tq ?_;exact ih
theorem qY(st sp:Bool)(rb:List (List (List UInt8)))(ru vc:Int)(sf:Bool)(dr:Int)(ss:List (El sesT))(ob:List (El objT))(rl wl:List Int)(hob:ob.length<=1000)(hoo:∀ x∈ob,x.1.2.2.2.1.length<=1000/\x.1.2.2.2.2.length<=1000/\x.2.1.1.length<=1000/\x.2.1.2.1.length<=1000/\x.2.1.2.2.length<=1000):∀(n j:Nat),j+n=ob.length->Y E0 (.loop 71 1 0 2 [(5,.pa 0 0),(6,.pa 1 0),(8,.i (j:Int))] [(0,some (.var [.b st,.b sp,.sl (.sl (.sl .u8)) rb,.i ru,.i vc,.b sf,.i dr,.sl sesT ss,.sl objT ob,.sl .i64 rl,.sl .i64 wl])),(1,some (.var [.b st,.b sp,.sl (.sl (.sl .u8)) rb,.i ru,.i vc,.b sf,.i dr,.sl sesT ss,.sl objT ob,.sl .i64 rl,.sl .i64 wl]))])=some (.fin (.exit 2) 0 [] [])
 | 0,j,hj=>by
  exact tq rfl
 | n+1,j,hj=>by
  have ih:=qY st sp rb ru vc sf dr ss ob rl wl hob hoo n (j+1) zaa
  rw[show((j+1:Nat):Int)=(j:Int)+1 from by omega] at ih
  have hg:BO ob (j:Int)=some (ob[j]'zaa):=Fe zaa
  have hm:=hoo _ (List.getElem_mem (show j<ob.length by omega))
  generalize ob[j]'zaa=x at *
  obtain⟨⟨k,a,t,o,u⟩,⟨y1,y2,y3⟩,h⟩:=x
  dsimp only at hm
  have q1:Su ⟨k,a,t,o,u⟩ ⟨k,a,t,o,u⟩=true:=by simp[Su]
  have e1:=tN k a t o u k a t o u zaa zaa
  rw[q1] at e1
  have e2:=tX y1 y2 y3 y1 y2 y3 zaa zaa zaa
  rw[sW] at e2
  refine to ?_;rw[hg];refine to ?_;rw[hg];refine tq ?_;rw[e1];refine to ?_;rw[hg];refine to ?_;rw[hg];refine tq ?_;rw[e2];refine to ?_;rw[hg];refine to ?_;rw[hg];refine tq ?_;exact ih
variable (sd au:List (List UInt8))(en:List UInt8)(ac re rs ck:Int)(od:Bool)(sb:List (List (List UInt8)))(su mc:Int)(ix:List (El Gp))(l1 l2 l3 l4 l5 l6:Int)(ks:List (El J8))(st sp:Bool)(rb:List (List (List UInt8)))(ru vc:Int)(sf:Bool)(dr:Int)(ss:List (El sesT))(ob:List (El objT))(rl wl:List Int)
end
section
attribute [local irreducible] Cc Dn D7 DU DD BA Dp F7 FY FD Ez Ci CS DK DV and' DW DL C9 BR Bh CB CG BG BI Aw BC Dq Fh Dt ER DX Bl CE Bv Bz Bi Az Bg BK Bj BO Du Bc DF BZ BM Cj Di fits Dv Dk Ac Am BH
theorem wu(n k a z:Int)(p u d:List UInt8)(w:Bool)(hp:p.length<=100000)(hu:u.length<=100000)(hd:d.length<=100000):Y E0 (.call 199 [jh n k a z p u w d,jh n k a z p u w d] [])=some (.ret (.b true) []):=by
 rw[Ad]
 conv=>lhs;whnf
 rw[EH zaa]
 conv=>lhs;whnf
 rw[EH zaa]
 conv=>lhs;whnf
 rw[EH zaa]
 conv=>lhs;whnf
 rw[EH zaa]
 conv=>lhs;whnf
 rw[Ad]
 conv=>lhs;whnf
 rw[Lm];refine tq ?_;rw[Bq _ _ A7];refine tq ?_;rw[Bq _ _ A7];refine tq ?_;rw[Bq _ _ A7]
 conv=>lhs;whnf
 rw[Ad]
 conv=>lhs;whnf
 simp
theorem qc(s:MS){a k:Int}(hi:Kp a k s):∀(n j:Nat),j+n=s.ix.length->Y E0 (.loop 138 0 0 2 [(2,.pa 0 0),(3,.pa 1 0),(5,.i (j:Int))] [(0,some (.var ((cv s).take 19))),(1,some (.var ((cv s).take 19)))])=some (.fin (.exit 0) 2 [(2,.pa 0 0),(3,.pa 1 0)] [(0,some (.var ((cv s).take 19))),(1,some (.var ((cv s).take 19)))])
 | 0,j,hj=>by
  refine tq ?_
  rfl
 | n+1,j,hj=>by
  have hl:=hi.ixl
  have ih:=qc s hi n (j+1) zaa
  rw[show((j+1:Nat):Int)=(j:Int)+1 from by omega] at ih
  have hg:BO s.ix (j:Int)=some (s.ix[j]'zaa):=Fe zaa
  have hm:=hi.ixm _ (List.getElem_mem (show j<s.ix.length by omega))
  generalize s.ix[j]'zaa=x at *
  obtain⟨x1,x2,x3,x4,x5,x6,x7,x8⟩:=x;simp only[Gh,CZ] at hm
  refine to ?_;rw[hg];refine to ?_;rw[hg];refine tq ?_;rw[wu _ _ _ _ _ _ _ _ zaa zaa zaa];refine tq ?_;exact ih
theorem qf(s:MS){a k:Int}(hi:Kp a k s):∀(n j:Nat),j+n=s.ks.length->Y E0 (.loop 138 1 0 2 [(2,.pa 0 0),(3,.pa 1 0),(6,.i (j:Int))] [(0,some (.var ((cv s).take 19))),(1,some (.var ((cv s).take 19)))])=some (.fin (.exit 2) 0 [] [])
 | 0,j,hj=>by
  exact tq rfl
 | n+1,j,hj=>by
  have hl:=hi.ksl
  have ih:=qf s hi n (j+1) zaa
  rw[show((j+1:Nat):Int)=(j:Int)+1 from by omega] at ih
  have hg:BO s.ks (j:Int)=some (s.ks[j]'zaa):=Fe zaa
  have hm:=hi.ksm _ (List.getElem_mem (show j<s.ks.length by omega))
  generalize s.ks[j]'zaa=x at *
  obtain⟨un,us⟩:=x;simp only[GY,Df] at hm
  refine to ?_;rw[hg];refine to ?_;rw[hg];refine tq ?_;rw[Bq _ _ A7];refine to ?_;rw[hg];refine to ?_;rw[hg];refine tq ?_;exact ih
theorem ww(s:MS){a k:Int}(hi:Kp a k s):Y E0 (.call 138 [.agg ((cv s).take 19),.agg ((cv s).take 19)] [])=some (.ret (.b true) []):=by
 have e1:=OM s.sd s.sd (by rw[hi.sdl];decide) (fun l hl=>by rw[hi.sdm l hl];decide)
 rw[decide_eq_true rfl] at e1
 have e2:=OM s.au s.au (by rw[hi.aul];decide) (fun l hl=>by have:=hi.aum l hl;omega)
 rw[decide_eq_true rfl] at e2
 have hen:=hi.en
 obtain⟨f1,f2,f3⟩:=qZ hi.sb
 have q0:=qc s hi s.ix.length 0 zaa
 have q1:=qf s hi s.ks.length 0 zaa
 rw[show((0:Nat):Int)=0 from rfl] at q0 q1;refine tq ?_;rw[e1];refine tq ?_;rw[e2];refine tq ?_;rw[Bq _ _ A7]
 conv=>lhs;whnf
 rw[DT];conv=>lhs;whnf
 rw[decide_eq_true rfl];conv=>lhs;whnf
 rw[Ad]
 conv=>lhs;whnf
 rw[Cf zaa]
 conv=>lhs;whnf
 rw[Cf zaa]
 conv=>lhs;whnf
 rw[Cf zaa]
 conv=>lhs;whnf
 rw[Cf zaa]
 conv=>lhs;whnf
 rw[Ad]
 conv=>lhs;whnf
 rw[Lm];refine tq ?_;rw[fB _ _ f1 f2 f3]
 conv=>lhs;whnf
 rw[DT];conv=>lhs;whnf
 rw[Cf zaa]
 conv=>lhs;whnf
 rw[DT];conv=>lhs;whnf
 rw[QH (by rfl)];conv=>lhs;whnf
 rw[Ad]
 conv=>lhs;whnf
 rw[Cf zaa]
 conv=>lhs;whnf
 rw[Cf zaa]
 conv=>lhs;whnf
 try dsimp -iota -beta -eta -zeta only
 rw[Ee]
 (erw[q0])
 refine tq ?_
 (erw[q1])
 exact tq rfl
theorem Lp(s:MS){a k:Int}(hi:Kp a k s):Y E0 (.call 71 [av s,av s] [])=some (.ret (.b true) []):=by
 obtain⟨f1,f2,f3⟩:=qZ hi.rb
 have e:=ww s hi
 have hss:=hi.ssl
 have hob:=hi.obl
 have hk:=hi.kk
 have hrl:=hi.rl
 have hwl:=hi.wl
 have q0:=qX s.st s.sp s.rb s.ru s.vc s.sf s.dr s.ss s.ob s.rl s.wl zaa (fun x hx=>by have:=hi.ssm x hx;simp only[Gz,Dh] at this;omega) s.ss.length 0 zaa
 have q1:=qY s.st s.sp s.rb s.ru s.vc s.sf s.dr s.ss s.ob s.rl s.wl zaa (fun x hx=>by have:=hi.obm x hx;simp only[FZ,DC] at this;omega) s.ob.length 0 zaa
 rw[show((0:Nat):Int)=0 from rfl] at q0 q1;refine tq ?_
 (erw[e])
 conv=>lhs;whnf
 rw[DT];conv=>lhs;whnf
 rw[Lm]
 conv=>lhs;whnf
 rw[DT];conv=>lhs;whnf
 rw[Lm];refine tq ?_;rw[fB _ _ f1 f2 f3]
 conv=>lhs;whnf
 rw[Ad]
 conv=>lhs;whnf
 rw[DT];conv=>lhs;whnf
 rw[Cf zaa]
 conv=>lhs;whnf
 rw[Lm]
 conv=>lhs;whnf
 rw[DT];conv=>lhs;whnf
 rw[Cf zaa]
 conv=>lhs;whnf
 rw[Ad]
 conv=>lhs;whnf
 rw[Cf zaa]
 conv=>lhs;whnf
 rw[Cf zaa]
 conv=>lhs;whnf
 try dsimp -iota -beta -eta -zeta only
 rw[AQ];rw[ae _ A7];refine tq ?_;rw[ae _ A7];refine tq ?_
 (erw[q0])
 refine tq ?_
 (erw[q1])
 exact tq rfl
theorem Pq(l:List Int)(hl:l.length<=100000):∀(n j:Nat),j+n=l.length->Y E0 (.loop 137 0 0 0 [(0,.sl .i64 l),(1,.sl .i64 l),(5,.i (j:Int))] [])=some (.fin (.exit 0) 0 [] [])
 | 0,j,hj=>by
  exact tq rfl
 | n+1,j,hj=>by
  have ih:=Pq l hl n (j+1) zaa
  rw[show((j+1:Nat):Int)=(j:Int)+1 from by omega] at ih
  have hg:BO l (j:Int)=some (l[j]'zaa):=Fe zaa
  generalize l[j]'zaa=x at *
  refine tq ?_;exact ih
theorem wz(l:List Int)(hl:l.length<=100000):Y E0 (.call 137 [.sl .i64 l,.sl .i64 l] [])=some (.ret (.b true) []):=by
 have q:=Pq l hl l.length 0 zaa
 rw[show((0:Nat):Int)=0 from rfl] at q;refine tq ?_;rw[q];exact tq rfl
theorem IA(e:Int)(is:List Int)(bs ns:List (List UInt8))(hi:is.length<=1000)(hb:bs.length<=1000)(hm:∀ x∈bs,x.length<=4294967296)(hn:ns.length<=1000)(hq:∀ x∈ns,x.length<=4294967296):Y E0 (.call 70 [rp e is bs ns,rp e is bs ns] [])=some (.ret (.b true) []):=by
 have e1:=OM bs bs zaa hm
 rw[decide_eq_true rfl] at e1
 have e2:=OM ns ns zaa hq
 rw[decide_eq_true rfl] at e2;refine tq ?_;rw[wz _ zaa];refine tq ?_;rw[e1];refine tq ?_;rw[e2];exact tq rfl
end
end Go.Proofs.YtnhgnfdbdflhcaaGreatDoor
