/- Own texts of this claim: contracts of functions. -/
import Derived.Test.YtlpkjhhfhannpaaGreatDoorBtay
set_option linter.all false
set_option maxHeartbeats 40000000
set_option maxRecDepth 100000
namespace Go.Proofs.YtlpkjhhfhannpaaGreatDoor
open Go Go.Ax Go.Eng
attribute [local irreducible] CS Cj CP CW CQ BC Cm ED ES Dx EG CJ Bi Ce CX and' Cf CU BL Au BI BP BR Ag Ai AY Ae D5 EJ D6 DX Cb BZ BQ BM BO BJ AZ BK Aj Ak Ap D7 BB CV BU BF CO D8 Cc fits D9 Ci AC AQ Ah
section
variable (b:List (List UInt8))(u c h:Int)(az:List (El AB))(is:List Int)(bs:List (List UInt8))
theorem jR:GG noOb h=none:=by
 unfold GG
 split
 ·have hk:∀ k:Nat,noOb[k]?=none\/noOb[k]?=some ((0,0,0,[],[]),([],[],[]),0):=fun k=>by
   by_cases hk:k<3
   ·right
    rcases(by omega:k=0\/k=1\/k=2) with rfl|rfl|rfl<;>rfl
   ·left;simp[noOb];omega
  rcases hk (h-512).toNat with hk|hk
  ·rw[hk]
  ·rw[hk];rfl
 ·rfl
theorem WV(hh:0<=h/\h<=3):Ap ([[],[],[],[]]:List (List UInt8)) h=some []:=by
 rw[Bv zaD]
 rcases(by omega:h=0\/h=1\/h=2\/h=3) with rfl|rfl|rfl|rfl<;>rfl
@[reducible] def tb (b:List (List UInt8)) (u:Int):AV:=(sX (Ad zen) [[],[],[],[]] (BG zen BN [] 32) 2 1 0 0 false [] 0 0 [] 0 5 100 0 0 1000 [] true false [[],b] u 0 true 0 noSs noOb [] [])
theorem rM(hh:0<=h/\h<=3):Y E0 (.call 181 [tb b u,.i h] [])=some (.ret (.tup [.sl .u8 (MW h),.i 0]) []) :=
 ZL (Ad zen) [[],[],[],[]] (BG zen BN [] 32) 2 1 0 0 false 0 0 [] 0 5 100 0 0 1000 [] true false [[],b] u 0 true 0 noSs noOb [] [] h [] hh zat zat zat rfl (WV h hh)
theorem ACH(hb:4<=h/\h<=65535):Y E0 (.call 220 [tb b u,.i h] [])=some (.ret (.tup [.agg [.sl .u8 [],.sl .u8 [],.sl .u8 [],.b false],.i 7]) []):=by
 have k1:=OH (Ad zen) [[],[],[],[]] (BG zen BN [] 32) 2 1 0 0 false 0 0 [] 0 5 100 0 0 1000 [] true false [[],b] u 0 true 0 noSs noOb [] [] h rfl
 have k2:=Qq (Ad zen) [[],[],[],[]] (BG zen BN [] 32) 2 1 0 0 false [] 0 0 [] 0 5 100 0 0 1000 [] true false [[],b] u 0 true 0 noSs noOb [] [] h zat zaa (jR h)
 refine tq ?_
 rw[k1]
 refine tq ?_
 rw[k2]
 exact tq rfl
theorem ACI(hb:4<=h/\h<=65535):Y E0 (.call 181 [tb b u,.i h] [])=some (.ret (.tup [.sl .u8 [],.i 7]) []):=by
 have k1:=ACH b u h hb
 refine tq ?_
 rw[k1]
 exact tq rfl
theorem rO(b:List (List UInt8))(u:Int)(c:Int)(az:List (El AB))(is:List Int)(bs:List (List UInt8))(hs:List Int)(hl:hs.length<=10)(hm:∀ h∈hs,0<=h/\h<=65535)(hx:∃ h∈hs,4<=h):∀(k j:Nat),j+k=hs.length->(∃ h∈hs.drop j,4<=h) ->
  Y E0 (.loop 137 0 0 2 [(2,.pa 0 0),(3,.pa 1 0),(15,.sl .i64 hs),(16,.i (hs.length:Int)),(17,.i (j:Int))] [(0,some (.var (sC (Ad zen) [[],[],[],[]] (BG zen BN [] 32) 2 1 0 0 false [] 0 0 [] 0 5 100 0 0 1000 [] true false [[],b] u 0 true 0 noSs noOb [] []))),(1,some (.var [.i c,.sl .i64 hs,.sl AB az,.sl .i64 is,.sl (.sl .u8) bs]))])=some (.fin .ret 2 [(2,.pa 0 0),(3,.pa 1 0),(4,.b false)] [(0,some (.var (sC (Ad zen) [[],[],[],[]] (BG zen BN [] 32) 2 1 0 0 false [] 0 0 [] 0 5 100 0 0 1000 [] true false [[],b] u 0 true 0 noSs noOb [] []))),(1,some (.var [.i c,.sl .i64 hs,.sl AB az,.sl .i64 is,.sl (.sl .u8) bs]))])
 | 0,j,hj,hd=>by
  obtain⟨h,hm,_⟩:=hd
  rw[List.drop_of_length_le zaa] at hm;cases hm
 | k+1,j,hj,hd=>by
  obtain⟨x,hxm,hg⟩:=EO (l:=hs) (i:=(j:Int)) zaa
  have hb:=hm x hxm
  have hg':=hg
  rw[DU] at hg'
  by_cases h4:4<=x
  ·have ho:=ACI b u x ⟨h4,hb.2⟩
   rw[AL];conv=>lhs;whnf
   refine to ?_
   rw[hg]
   refine tq ?_
   rw[ho]
   exact tq rfl
  ·have ho:=rM b u x zaa
   have hd':∃ h∈hs.drop (j+1),4<=h:=by
    obtain⟨h,hm1,hh⟩:=hd
    rw[HY hg'] at hm1
    rcases List.mem_cons.1 hm1 with rfl|hm1
    ·exact absurd hh h4
    ·exact⟨h,hm1,hh⟩
   have ih:=rO b u c az is bs hs hl hm hx k (j+1) zaa hd'
   rw[show((j+1:Nat):Int)=(j:Int)+1 from by omega] at ih
   rw[AL];conv=>lhs;whnf
   refine to ?_
   rw[hg]
   refine tq ?_
   rw[ho]
   refine tq ?_
   exact ih
theorem wo(hs:List Int)(hl:hs.length<=10)(hm:∀ h∈hs,0<=h/\h<=65535)(hx:∃ h∈hs,4<=h):Y E0 (.call 137 [tb b u,rq c hs az is bs] [])=some (.ret (.b false) []):=by
 have l0:=rO b u c az is bs hs hl hm hx hs.length 0 zaa (by rw[List.drop_zero];exact hx)
 rw[show((0:Nat):Int)=0 from rfl] at l0
 refine tq ?_
 simp only[AP,Nat.reduceAdd];rw[l0]
 exact tq rfl
def alB(c h:Int):Bool:=if c=9 then decide (h≠3) else if c<=15 then false else if c=21\/c=22 then decide (h=1\/h=2) else if c=31 then decide (2<=h) else if 32<=c then decide (h=3) else true
theorem AAX(hc:c=9\/c=10\/c=11\/c=13\/c=14\/c=15\/c=18\/c=21\/c=22\/c=30\/c=31\/c=32\/c=33)(hh:0<=h/\h<=3):Y E0 (.call 137 [tb b u,rq c [h] az is bs] [])=some (.ret (.b (alB c h)) []):=by
 have hn:=rM b u h hh
 have l0:=Qo (Ad zen) [[],[],[],[]] (BG zen BN [] 32) 2 1 0 0 false 0 0 [] 0 5 100 0 0 1000 [] true false [[],b] u 0 true 0 noSs noOb [] [] c [h] az is bs zat (fun x hx=>by simp at hx;subst hx;exact⟨_,hn⟩) 1 0 rfl
 have e2:Ak [h]=1:=zaV
 have k2:=Qq (Ad zen) [[],[],[],[]] (BG zen BN [] 32) 2 1 0 0 false [] 0 0 [] 0 5 100 0 0 1000 [] true false [[],b] u 0 true 0 noSs noOb [] [] h zat zaa (jR h)
 rw[show((List.length [h]:Nat):Int)=1 from rfl,show((0:Nat):Int)=0 from rfl] at l0
 rcases hc with rfl|rfl|rfl|rfl|rfl|rfl|rfl|rfl|rfl|rfl|rfl|rfl|rfl<;>rcases(by omega:h=0\/h=1\/h=2\/h=3) with rfl|rfl|rfl|rfl<;>(refine tq ?_;simp only[e2,Nat.reduceAdd];rw[l0];(conv=>lhs;whnf);rw[e2];refine tq ?_;first|rfl|(rw[k2];(conv=>lhs;whnf);rw[Aa zaj];rfl)|(rw[AL];refine tq ?_;first|rfl|(rw[AL];refine tq ?_;first|rfl|(rw[AL];refine tq ?_;rfl))))
theorem AAY(g:Int)(az:List (El AB))(is:List Int)(bs:List (List UInt8))(hc:c=23\/c=24\/c=25\/c=26\/c=27\/c=28\/c=29)(hh:0<=h/\h<=3)(hg:0<=g/\g<=3):Y E0 (.call 137 [tb b u,rq c [h,g] az is bs] [])=some (.ret (.b false) []):=by
 have hn:=rM b u h hh
 have hm:=rM b u g hg
 have l0:=Qo (Ad zen) [[],[],[],[]] (BG zen BN [] 32) 2 1 0 0 false 0 0 [] 0 5 100 0 0 1000 [] true false [[],b] u 0 true 0 noSs noOb [] [] c [h,g] az is bs zat (fun x hx=>by simp at hx;rcases hx with rfl|rfl;exact⟨_,hn⟩;exact⟨_,hm⟩) 2 0 rfl
 have e2:Ak [h,g]=2:=zaV
 have e3:Ap [h,g] 1=some g:=zbv
 have k2:=OH (Ad zen) [[],[],[],[]] (BG zen BN [] 32) 2 1 0 0 false 0 0 [] 0 5 100 0 0 1000 [] true false [[],b] u 0 true 0 noSs noOb [] [] g rfl
 rw[show((List.length [h,g]:Nat):Int)=2 from rfl,show((0:Nat):Int)=0 from rfl] at l0
 rcases hc with rfl|rfl|rfl|rfl|rfl|rfl|rfl<;>(refine tq ?_;simp only[e2,Nat.reduceAdd];rw[l0];(conv=>lhs;whnf);rw[e2];refine tq ?_;(first|rw[k2]|(rw[AL];refine tq ?_;rw[k2]));refine tq ?_;first|rfl|(rw[AL];refine tq ?_;first|rfl|(rw[AL];refine tq ?_;rfl)))
end
end Go.Proofs.YtlpkjhhfhannpaaGreatDoor
