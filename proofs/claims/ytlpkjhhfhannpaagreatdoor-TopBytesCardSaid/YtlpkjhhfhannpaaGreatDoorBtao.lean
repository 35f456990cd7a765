/- Own texts of this claim: contracts of functions. -/
import Derived.Test.YtlpkjhhfhannpaaGreatDoorBtal
import Derived.Test.YtlpkjhhfhannpaaGreatDoorBtam
import Derived.Test.YtlpkjhhfhannpaaGreatDoorBtan
set_option linter.all false
set_option maxHeartbeats 40000000
set_option maxRecDepth 100000
namespace Go.Proofs.YtlpkjhhfhannpaaGreatDoor
open Go Go.Ax Go.Eng
attribute [local irreducible] CS Cj CP CW CQ BC Cm ED ES Dx EG CJ Bi Ce CX and' Cf CU BL Au BI BP BR Ag Ai AY Ae D5 EJ D6 DX Cb BZ BQ BM BO BJ AZ BK Aj Ak Ap D7 BB CV BU BF CO D8 Cc fits D9 Ci AC AQ Ah
variable (sd au:List (List UInt8))(en:List UInt8)(ac re rs ck:Int)(od:Bool)(su mc:Int)(ix:List (El Bf))(l1 l2 l3 l4 l5 l6:Int)(ks:List (El E8))(st sp:Bool)(rb:List (List (List UInt8)))(ru vc:Int)(sf:Bool)(dr:Int)(ss:List (El sesT))(ob:List (El objT))(rl wl:List Int)(h kd:Int)(v:List UInt8)
theorem dL:Y E0 (.call 294 [] [])=some (.ret (.sl .u8 zen) []):=by
 have hz:BU 32 (0:UInt8)=zen:=by rw[Ea,zen];rfl
 refine tq ?_
 (rw[hz])
theorem ql(sd:List (List UInt8))(au:List (List UInt8))(en:List UInt8)(ac:Int)(re:Int)(rs:Int)(ck:Int)(od:Bool)(su:Int)(mc:Int)(ix:List (El Bf))(l1:Int)(l2:Int)(l3:Int)(l4:Int)(l5:Int)(l6:Int)(ks:List (El E8))(st:Bool)(sp:Bool)(rb:List (List (List UInt8)))(ru:Int)(vc:Int)(sf:Bool)(dr:Int)(ss:List (El sesT))(ob:List (El objT))(rl:List Int)(wl:List Int)(kd:Int)(hkd:1<=kd/\kd<=3)(hl:ss.length<=10)(hen:en.length<=100000)(k:Nat)(x2 x3:List UInt8)(x4 x5 x6 x7:Int)(x8:Bool)(hk:ss[k]?=some (0,x2,x3,x4,x5,x6,x7,x8))(hu:∀ i<k,∃ x,ss[i]?=some x/\(x.1:Int)≠0):∀(d j:Nat),j+d=k ->
  Y E0 (.loop 230 0 0 2 [(1,.i kd),(2,.pa 0 0),(4,.pa 1 0),(20,.sl sesT ss),(21,.i (ss.length:Int)),(22,.i (j:Int))] [(0,some (.var (sC sd au en ac re rs ck od [] su mc ix l1 l2 l3 l4 l5 l6 ks st sp rb ru vc sf dr ss ob rl wl))),(1,some (.var [.nil,.nil,.nil,.i 0,.i 0,.i 0,.i 0,.b false,.nil,.i 0,.i 0,.nil,.i 0,.i 0,.i 0,.i 0,.i 0,.i 0,.nil,.b false,.b false,.nil,.i 0,.i 0,.b false,.i 0,.nil,.nil,.nil,.nil]))])
   = some (.fin .ret 1 [(4,.pa 0 0),(5,.i (768+(k:Int))),(6,.i 0)] [(0,some (.var (sC sd au en ac re rs ck od [] su mc ix l1 l2 l3 l4 l5 l6 ks st sp rb ru vc sf (CS dr 1) (BB ss (k:Int) (kd,JA en re rs dr 16,zen,-1,31,0,0,false)) ob rl wl)))])
 | 0,j,hj=>by
  obtain rfl:j=k:=zaa
  have hg:Ap ss (j:Int)=some (0,x2,x3,x4,x5,x6,x7,x8):=by rw[DU];exact hk
  have hlt:j<ss.length:=(List.getElem?_eq_some_iff.1 hk).1
  have hr:=qZ sd au en ac re rs ck od [] su mc ix l1 l2 l3 l4 l5 l6 ks st sp rb ru vc sf dr ss ob rl wl 16 hen
  rw[AL];conv=>lhs;whnf
  refine to ?_
  rw[hg]
  refine tq ?_
  rw[hr]
  refine tq ?_
  rw[dL]
  refine tq ?_
  rw[jI (hl:=AA) (hk:=AA) ..]
  exact tq rfl
 | d+1,j,hj=>by
  obtain⟨⟨y1,y2⟩,hy,hn⟩:=hu j zaa
  have hg:Ap ss (j:Int)=some (y1,y2):=by rw[DU];exact hy
  have hlt:j<ss.length:=(List.getElem?_eq_some_iff.1 hy).1
  have hn:y1≠0:=hn
  have ih:=ql sd au en ac re rs ck od su mc ix l1 l2 l3 l4 l5 l6 ks st sp rb ru vc sf dr ss ob rl wl kd hkd hl hen k x2 x3 x4 x5 x6 x7 x8 hk hu d (j+1) zaa
  rw[show((j+1:Nat):Int)=(j:Int)+1 from by omega] at ih
  rw[AL];conv=>lhs;whnf
  refine to ?_
  rw[hg]
  refine tq ?_
  exact ih
theorem A5H(hkd:1<=kd/\kd<=3)(hl:ss.length<=10)(hen:en.length<=100000)(k:Nat)(x2 x3:List UInt8)(x4 x5 x6 x7:Int)(x8:Bool)(hk:ss[k]?=some (0,x2,x3,x4,x5,x6,x7,x8))(hu:∀ i<k,∃ x,ss[i]?=some x/\(x.1:Int)≠0):Y E0 (.call 230 [(sX sd au en ac re rs ck od [] su mc ix l1 l2 l3 l4 l5 l6 ks st sp rb ru vc sf dr ss ob rl wl),.i kd] [])=some (.ret (.tup [(sX sd au en ac re rs ck od [] su mc ix l1 l2 l3 l4 l5 l6 ks st sp rb ru vc sf (CS dr 1) (BB ss (k:Int) (kd,JA en re rs dr 16,zen,-1,31,0,0,false)) ob rl wl),.i (768+(k:Int)),.i 0]) []):=by
 have h:=ql sd au en ac re rs ck od su mc ix l1 l2 l3 l4 l5 l6 ks st sp rb ru vc sf dr ss ob rl wl kd hkd hl hen k x2 x3 x4 x5 x6 x7 x8 hk hu k 0 zaa
 rw[show((0:Nat):Int)=0 from rfl,<-AP] at h
 refine tq ?_
 simp only[Nat.reduceAdd];rw[h]
 exact tq rfl
theorem ZK(x1 x4 x5 x6 x7:Int)(x2 x3:List UInt8)(x8:Bool)(hl:ss.length<=1000)(hh:0<=h-768/\h-768<ss.length)(hg:Ap ss (h-768)=some (x1,x2,x3,x4,x5,x6,x7,x8))(hz:x1≠0):Y E0 (.call 193 [(sX sd au en ac re rs ck od [] su mc ix l1 l2 l3 l4 l5 l6 ks st sp rb ru vc sf dr ss ob rl wl),.i h] [])=some (.ret (.tup [iP x1 x2 x3 x4 x5 x6 x7 x8,.i 0]) []):=by
 have hf:=TC sd au en ac re rs ck od [] su mc ix l1 l2 l3 l4 l5 l6 ks st sp rb ru vc sf dr ss ob rl wl h x1 x4 x5 x6 x7 x2 x3 x8 hl hh hg hz
 refine tq ?_
 rw[hf]
 exact tq rfl
theorem A5I(hkd:1<=kd/\kd<=3)(hl:ss.length<=10)(hen:en.length<=100000)(k:Nat)(x2 x3:List UInt8)(x4 x5 x6 x7:Int)(x8:Bool)(hk:ss[k]?=some (0,x2,x3,x4,x5,x6,x7,x8))(hu:∀ i<k,∃ x,ss[i]?=some x/\(x.1:Int)≠0)(qb:List (List UInt8)):Y E0 (.call 189 [(sX sd au en ac re rs ck od [] su mc ix l1 l2 l3 l4 l5 l6 ks st sp rb ru vc sf dr ss ob rl wl),rq 16 [] [] [kd] qb] [])=some (.ret (.tup [(sX sd au en ac re rs ck od [] su mc ix l1 l2 l3 l4 l5 l6 ks st sp rb ru vc sf (CS dr 1) (BB ss (k:Int) (kd,JA en re rs dr 16,zen,-1,31,0,0,false)) ob rl wl),Hr 0 [768+(k:Int)] [JA en re rs dr 16] []]) []):=by
 have h:=A5H sd au en ac re rs ck od su mc ix l1 l2 l3 l4 l5 l6 ks st sp rb ru vc sf dr ss ob rl wl kd hkd hl hen k x2 x3 x4 x5 x6 x7 x8 hk hu
 have hlt:k<ss.length:=(List.getElem?_eq_some_iff.1 hk).1
 have hf:=ZK sd au en ac re rs ck od su mc ix l1 l2 l3 l4 l5 l6 ks st sp rb ru vc sf (CS dr 1) (BB ss (k:Int) (kd,JA en re rs dr 16,zen,-1,31,0,0,false)) ob rl wl (768+(k:Int)) kd (-1) 31 0 0 (JA en re rs dr 16) zen false (by rw[EL,List.length_set];omega) (by rw[EL,List.length_set];omega) (by rw[show 768+(k:Int)-768=(k:Int) from by omega,DU,EL];simp[hlt]) zaa
 refine tq ?_
 rw[h]
 refine tq ?_
 rw[hf]
 exact tq rfl
theorem yz(hkd:1<=kd/\kd<=3)(hl:ss.length<=10)(hen:en.length<=100000)(k:Nat)(x2 x3:List UInt8)(x4 x5 x6 x7:Int)(x8:Bool)(hk:ss[k]?=some (0,x2,x3,x4,x5,x6,x7,x8))(hu:∀ i<k,∃ x,ss[i]?=some x/\(x.1:Int)≠0)(qb:List (List UInt8)):Y E0 (.call 138 [(sX sd au en ac re rs ck od [] su mc ix l1 l2 l3 l4 l5 l6 ks st sp rb ru vc sf dr ss ob rl wl),.i 0,rq 16 [] [] [kd] qb] [])=some (.ret (.tup [(sX sd au en ac re rs ck od [] su mc ix l1 l2 l3 l4 l5 l6 ks st sp rb ru vc sf (CS dr 1) (BB ss (k:Int) (kd,JA en re rs dr 16,zen,-1,31,0,0,false)) ob rl wl),Hr 0 [768+(k:Int)] [JA en re rs dr 16] []]) []):=by
 have h:=A5I sd au en ac re rs ck od su mc ix l1 l2 l3 l4 l5 l6 ks st sp rb ru vc sf dr ss ob rl wl kd hkd hl hen k x2 x3 x4 x5 x6 x7 x8 hk hu qb
 refine tq ?_
 rw[h]
 exact tq rfl
theorem A7w(hkd:1<=kd/\kd<=3)(hl:ss.length<=10)(hen:en.length<=100000)(k:Nat)(x2 x3:List UInt8)(x4 x5 x6 x7:Int)(x8:Bool)(hk:ss[k]?=some (0,x2,x3,x4,x5,x6,x7,x8))(hu:∀ i<k,∃ x,ss[i]?=some x/\(x.1:Int)≠0)(hst:st=true)(hq:rqG 16 0 [] [] [kd] []):Y E0 (.call 87 [(sX sd au en ac re rs ck od [] su mc ix l1 l2 l3 l4 l5 l6 ks st sp rb ru vc sf dr ss ob rl wl),.i 0,rq 16 [] [] [kd] []] [])=some (.ret (.tup [(sX sd au en ac re rs ck od [] su mc ix l1 l2 l3 l4 l5 l6 ks st sp rb ru vc sf (CS dr 1) (BB ss (k:Int) (kd,JA en re rs dr 16,zen,-1,31,0,0,false)) ob rl wl),Hr 0 [768+(k:Int)] [JA en re rs dr 16] []]) []):=by
 have hc:=Nc hq
 have h:=yz sd au en ac re rs ck od su mc ix l1 l2 l3 l4 l5 l6 ks st sp rb ru vc sf dr ss ob rl wl kd hkd hl hen k x2 x3 x4 x5 x6 x7 x8 hk hu []
 subst hst
 refine tq ?_
 rw[hc]
 refine tq ?_
 rw[LG ..]
 refine tq ?_
 rw[h]
 exact tq rfl
theorem dO(h:Int)(hh:0<=h/\h<=3)(ix:List (El Bf))(hl:ix.length<=10)(hx:∀ x∈ix,Gv x):∀(k j:Nat),j+k=ix.length ->
  Y E0 (.loop 183 0 0 0 [(1,.i h),(10,.sl Bf ix),(11,.i (ix.length:Int)),(12,.i (j:Int))] [])=some (.fin (.exit 0) 0 [] [])
 | 0,j,hj=>by
  obtain rfl:j=ix.length:=zaa
  rw[AL];conv=>lhs;whnf
  refine tq ?_
  with_reducible rfl
 | k+1,j,hj=>by
  obtain⟨x,hm,hg⟩:=EO (l:=ix) (i:=(j:Int)) zaa
  have ho:=hx x hm
  obtain⟨x1,x2,x3,x4,x5,x6,x7,x8⟩:=x
  have h1:(0:Int)<=(x1:Int):=ho.1
  have hne:h-256≠(x1:Int):=zaa
  have ih:=dO h hh ix hl hx k (j+1) zaa
  rw[show((j+1:Nat):Int)=(j:Int)+1 from by omega] at ih
  rw[AL];conv=>lhs;whnf
  refine to ?_
  rw[hg]
  conv=>lhs;whnf
  try dsimp -iota -beta -eta -zeta only
  rw[DV zaa]
  rw[Aa hne]
  refine tq ?_
  exact ih
theorem dP(hh:0<=h/\h<=3)(hl:ix.length<=10)(hx:∀ x∈ix,Gv x):Y E0 (.call 183 [(sX sd au en ac re rs ck od [] su mc ix l1 l2 l3 l4 l5 l6 ks st sp rb ru vc sf dr ss ob rl wl),.i h] [])=some (.ret (.tup [.i 0,.i 7]) []):=by
 have l0:=dO h hh ix hl hx ix.length 0 zaa
 rw[show((0:Nat):Int)=0 from rfl,<-AP] at l0
 refine tq ?_
 rw[l0]
 exact tq rfl
theorem TD(hh:0<=h/\h<=3)(hl:ix.length<=10)(hx:∀ x∈ix,Gv x)(ho:ob.length<=1000)(ha:au.length=4)(hv:Ap au h=some v):Y E0 (.call 220 [(sX sd au en ac re rs ck od [] su mc ix l1 l2 l3 l4 l5 l6 ks st sp rb ru vc sf dr ss ob rl wl),.i h] [])=some (.ret (.tup [.agg [.sl .u8 (MW h),.sl .u8 v,.sl .u8 [],.b false],.i 0]) []):=by
 have hi:=dP sd au en ac re rs ck od su mc ix l1 l2 l3 l4 l5 l6 ks st sp rb ru vc sf dr ss ob rl wl h hh hl hx
 have hb:=Qq sd au en ac re rs ck od [] su mc ix l1 l2 l3 l4 l5 l6 ks st sp rb ru vc sf dr ss ob rl wl h ho zaa (by rw[GG,if_neg zaa])
 refine tq ?_
 rw[hi]
 refine tq ?_
 rw[hb]
 refine tq ?_
 rw[A4U _]
 refine tq ?_
 rw[hv]
 exact tq rfl
theorem ZL(hh:0<=h/\h<=3)(hl:ix.length<=10)(hx:∀ x∈ix,Gv x)(ho:ob.length<=1000)(ha:au.length=4)(hv:Ap au h=some v):Y E0 (.call 181 [(sX sd au en ac re rs ck od [] su mc ix l1 l2 l3 l4 l5 l6 ks st sp rb ru vc sf dr ss ob rl wl),.i h] [])=some (.ret (.tup [.sl .u8 (MW h),.i 0]) []):=by
 have hf:=TD sd au en ac re rs ck od su mc ix l1 l2 l3 l4 l5 l6 ks st sp rb ru vc sf dr ss ob rl wl h v hh hl hx ho ha hv
 refine tq ?_
 rw[hf]
 exact tq rfl
theorem Qr(hh:0<=h/\h<=3)(hl:ix.length<=10)(hx:∀ x∈ix,Gv x)(ho:ob.length<=1000)(ha:au.length=4)(hv:Ap au h=some v):Y E0 (.call 242 [(sX sd au en ac re rs ck od [] su mc ix l1 l2 l3 l4 l5 l6 ks st sp rb ru vc sf dr ss ob rl wl),.i h] [])=some (.ret (.tup [.sl .u8 v,.i 0]) []):=by
 have hf:=TD sd au en ac re rs ck od su mc ix l1 l2 l3 l4 l5 l6 ks st sp rb ru vc sf dr ss ob rl wl h v hh hl hx ho ha hv
 refine tq ?_
 rw[hf]
 exact tq rfl
theorem TE(hh:0<=h/\h<=3)(hl:ix.length<=10)(hx:∀ x∈ix,Gv x)(ho:ob.length<=1000)(ha:au.length=4)(hv:Ap au h=some v):Y E0 (.call 302 [(sX sd au en ac re rs ck od [] su mc ix l1 l2 l3 l4 l5 l6 ks st sp rb ru vc sf dr ss ob rl wl),.i h] [])=some (.ret (.b false) []):=by
 have hf:=TD sd au en ac re rs ck od su mc ix l1 l2 l3 l4 l5 l6 ks st sp rb ru vc sf dr ss ob rl wl h v hh hl hx ho ha hv
 refine tq ?_
 rw[hf]
 exact tq rfl
end Go.Proofs.YtlpkjhhfhannpaaGreatDoor
namespace Go.Proofs.YtlpkjhhfhannpaaGreatDoor
open Go Go.Ax Go.Eng
theorem ZM(n:Int)(h:0<=n/\n<=8):Y E0 (.call 50 [.i (-1),.i n] [])=some (.ret (.b true) []):=by
 refine tq ?_
 with_reducible rfl
theorem A5K{a:Int}{n v:List UInt8}(ha:0<=a/\a<=65535)(hn:n.length<=128)(hv:v.length<=128):∀ x∈([(a,n,v)]:List (El AB)),((0:Int)<=x.1/\(x.1:Int)<=65535)/\x.2.1.length<=128/\x.2.2.length<=128:=by
 intro x hx;simp at hx;subst hx;exact⟨ha,hn,hv⟩
theorem A5L{h:Int}(hh:0<=h/\h<=65535):∀ x∈[h],0<=x/\x<=65535:=by
 intro x hx;simp at hx;subst hx;exact hh
theorem ZN(x:El AB):(Jt x).length=6+x.2.1.length+x.2.2.length:=by simp[Jt,Bh,Ba];omega
theorem AC6(k:Int)(hk:1<=k/\k<=3):rqG 16 0 [] [] [k] []:=by
 refine⟨vG,MZ 0,A19,OD 0,by decide,by simp,by simp,by simp,by simp,by simp,by simp,?_,by simp,?_⟩
 ·intro x hx;simp at hx;omega
 simp only[IY,I4,List.length_append,Bh,List.flatMap_nil,List.flatMap_cons,List.length_nil,List.length_cons,BX]
 decide
theorem AC7(h:Int)(hh:0<=h/\h<=65535):rqG 17 (-1) [] [] [h,1,0,1,0,0] [[]]:=by
 refine⟨vH,iZ 1 zaa,A1A,ZM 1 zaa,by decide,by simp,by simp,by simp,by simp,by simp,by simp,?_,by simp,?_⟩
 ·intro x hx;simp at hx;omega
 simp only[IY,I4,List.length_append,Bh,List.flatMap_nil,List.flatMap_cons,List.length_nil,List.length_cons,BX,Ba]
 decide
theorem AC8(h k a t:Int)(p u d:List UInt8)(hh:0<=h/\h<=65535)(hk:0<=k/\k<=100)(ha:0<=a/\a<=100)(ht:0<=t/\t<=100)(hp:p.length<=200)(hu:u.length<=200)(hd:d.length<=200):rqG 9 3 [h] [(0,[],[])] [k,a,t] [p,u,d]:=by
 refine⟨A11,MZ 3,A55,OD 3,by decide,by simp,by simp,by simp,by simp,A5L hh,A5K zaa zat zat,?_,?_,?_⟩
 ·intro x hx;simp at hx;omega
 ·intro x hx;simp at hx;rcases hx with rfl|rfl|rfl<;>omega
 simp only[IY,I4,List.length_append,Bh,List.flatMap_nil,List.flatMap_cons,List.length_nil,List.length_cons,BX,Ba,ZN]
 omega
theorem AC9(h s:Int)(hh:0<=h/\h<=65535)(hs:0<=s/\s<=65535)(v:List UInt8)(hv:v.length<=100):rqG 13 0 [h] [(s,[],v)] [] []:=by
 refine⟨vF,MZ 0,A18,OD 0,by decide,by simp,by simp,by simp,by simp,A5L hh,A5K hs zat zaa,by simp,by simp,?_⟩
 simp only[IY,I4,List.length_append,Bh,List.flatMap_nil,List.flatMap_cons,List.length_nil,List.length_cons,BX,Ba,ZN]
 omega
end Go.Proofs.YtlpkjhhfhannpaaGreatDoor
namespace Go.Proofs.YtlpkjhhfhannpaaGreatDoor
open Go Go.Ax Go.Eng
attribute [local irreducible] CS Cj CP CW CQ BC Cm ED ES Dx EG CJ Bi Ce CX and' Cf CU BL Au BI BP BR Ag Ai AY Ae D5 EJ D6 DX Cb BZ BQ BM BO BJ AZ BK Aj Ak Ap D7 BB CV BU BF CO D8 Cc fits D9 Ci AC AQ Ah
variable {a k:Int}(s:MS)(n:Int)(b:List UInt8)
section
attribute [local irreducible] BG DY CY nameB Eh Ef Az Ei Eo F5 Ff Fh Bg Io GI JD Jk JE Jh Ha NZ Na IJ
theorem dS(s:MS)(n kind:Int){a k:Int}(hi:Kp a k s)(hn:0<=n/\n<=4294967296):∀(q:Nat) (j:Int),0<=j->j+q=3->EC E0 (.loop 30 0 0 1 [(1,.i n),(2,.i kind),(3,.pa 0 0),(7,.i j)] [(0,some (.var (cv s)))]) fun r=>(∃ h:Int,(512<=h/\h<=514)/\r=some (.fin .ret 0 [(1,.i n),(6,.i h)] []))\/r=some (.fin (.exit 0) 0 [(1,.i n)] [])
 | 0,j,h0,hj=>by
  have hl:=hi.obl
  refine G5 fun P hP=>?_
  refine tw ?_;exact hP _ (Or.inr rfl)
 | q+1,j,h0,hj=>by
  have hl:=hi.obl
  have ih:=dS s n kind hi hn q (j+1) zaa zaa
  refine G5 fun P hP=>?_
  refine tw ?_;obtain⟨⟨⟨x0a,x0b,x0c,x0d,x0e⟩,⟨x0f,x0g,x0h⟩,x0i⟩,f0,g0⟩:=JI hi.obm (i:=(n+j)%3) AA;simp only[Gv,LZ,O7,O8,Jf,KA,KC,KD] at f0;rw[g0];refine tw ?_
  rcases CE x0a 0 with hc1|hc1
  ·refine tw ?_
   rcases Ar kind 0 with hc2|hc2
   ·subst hc2;refine tw ?_;exact hP _ (Or.inl ⟨512+(n+j)%3,AA,rfl⟩)
   refine tw ?_
   rcases Ar x0a kind with hc3|hc3
   ·subst hc3;refine tw ?_;exact hP _ (Or.inl ⟨512+(n+j)%3,AA,rfl⟩)
   refine tw ?_;exact hP _ ih
  subst hc1;refine tw ?_;exact hP _ ih
theorem JO(kind:Int)(hi:Kp a k s)(hn:0<=n/\n<=4294967296):EC E0 (.call 30 [av s,.i n,.i kind] []) fun r=>∃ h:Int,(512<=h/\h<=514)/\r=some (.ret (.i h) []):=by
 have hl:=hi.obl
 refine G5 fun P hP=>tw ?_
 obtain(⟨h0,⟨h0_1,h0_2⟩,yy0⟩|yy0):=dS s n kind hi AA (Int.toNat (3-(0))) 0 AA zaa
 ·refine Dv yy0 ?_;exact hP _ ⟨h0,AA,rfl⟩
 refine Dv yy0 ?_;exact hP _ ⟨512+n%3,AA,rfl⟩
theorem dU(s:MS)(n kind:Int){a k:Int}(hi:Kp a k s)(hn:0<=n/\n<=4294967296):∀(q:Nat) (j:Int),0<=j->j+q=3->EC E0 (.loop 32 0 0 1 [(1,.i n),(2,.i kind),(3,.pa 0 0),(7,.i j)] [(0,some (.var (cv s)))]) fun r=>(∃ h:Int,(768<=h/\h<=770)/\r=some (.fin .ret 0 [(1,.i n),(6,.i h)] []))\/r=some (.fin (.exit 0) 0 [(1,.i n)] [])
 | 0,j,h0,hj=>by
  have hl:=hi.ssl
  refine G5 fun P hP=>?_
  refine tw ?_;exact hP _ (Or.inr rfl)
 | q+1,j,h0,hj=>by
  have hl:=hi.ssl
  have ih:=dU s n kind hi hn q (j+1) zaa zaa
  refine G5 fun P hP=>?_
  refine tw ?_;obtain⟨⟨x0a,x0b,x0c,x0d,x0e,x0f,x0g,x0h⟩,f0,g0⟩:=JI hi.ssm (i:=(n+j)%3) AA;simp only[Gv,LZ,O7,O8,Jf,KA,KC,KD] at f0;rw[g0];refine tw ?_
  rcases CE x0a 0 with hc1|hc1
  ·refine tw ?_
   rcases Ar kind 0 with hc2|hc2
   ·subst hc2;refine tw ?_;exact hP _ (Or.inl ⟨768+(n+j)%3,AA,rfl⟩)
   refine tw ?_
   rcases Ar x0a kind with hc3|hc3
   ·subst hc3;refine tw ?_;exact hP _ (Or.inl ⟨768+(n+j)%3,AA,rfl⟩)
   refine tw ?_;exact hP _ ih
  subst hc1;refine tw ?_;exact hP _ ih
theorem Kr(kind:Int)(hi:Kp a k s)(hn:0<=n/\n<=4294967296):EC E0 (.call 32 [av s,.i n,.i kind] []) fun r=>∃ h:Int,(768<=h/\h<=770)/\r=some (.ret (.i h) []):=by
 have hl:=hi.ssl
 refine G5 fun P hP=>tw ?_
 obtain(⟨h0,⟨h0_1,h0_2⟩,yy0⟩|yy0):=dU s n kind hi AA (Int.toNat (3-(0))) 0 AA zaa
 ·refine Dv yy0 ?_;exact hP _ ⟨h0,AA,rfl⟩
 refine Dv yy0 ?_;exact hP _ ⟨768+n%3,AA,rfl⟩
theorem XL(hi:Kp a k s)(hn:0<=n/\n<=4294967296):EC E0 (.call 37 [av s,.i n] []) fun r=>∃ h:Int,(256<=h/\h<=511)/\r=some (.ret (.i h) []):=by
 have hl:=hi.ixl
 have hmod:(0:Int)<s.ix.length->0<=n%Ak s.ix/\n%Ak s.ix<s.ix.length:=fun h=>by rw[AP];exact⟨Int.emod_nonneg _ zaa,Int.emod_lt_of_pos _ h⟩
 refine G5 fun P hP=>tw ?_
 rcases Bc 0 (↑s.ix.length) with hc0|hc0
 ·replace hmod:=hmod hc0
  refine tw ?_
  rcases Bc (n%9) 8 with hc1|hc1
  ·refine tw ?_;obtain⟨⟨x2a,x2b,x2c,x2d,x2e,x2f,x2g,x2h⟩,f2,g2⟩:=JI hi.ixm (i:=n%Ak s.ix) AA;simp only[Gv,LZ,O7,O8,Jf,KA,KC,KD] at f2;rw[g2];refine tw ?_;exact hP _ ⟨256+x2a,AA,rfl⟩
  refine tw ?_;exact hP _ ⟨256+n%5,AA,rfl⟩
 refine tw ?_;exact hP _ ⟨256+n%5,AA,rfl⟩
theorem A80(hi:Kp a k s)(hn:0<=n/\n<=4294967296):EC E0 (.call 34 [av s,.i n] []) fun r=>∃ h:Int,(0<=h/\h<=770)/\r=some (.ret (.i h) []):=by
 refine G5 fun P hP=>tw ?_
 rcases Ar (n%3) 0 with hc0|hc0
 ·refine tw ?_;exact hP _ ⟨n/3%4,AA,rfl⟩
 refine tw ?_
 rcases Ar (n%3) 1 with hc1|hc1
 ·refine tw ?_;obtain⟨h2,⟨h2_1,h2_2⟩,yy2⟩:=XL s (n/3) hi AA;refine Dv yy2 ?_;exact hP _ ⟨h2,AA,rfl⟩
 refine tw ?_;obtain⟨h3,⟨h3_1,h3_2⟩,yy3⟩:=JO s (n/3) 0 hi AA;refine Dv yy3 ?_;exact hP _ ⟨h3,AA,rfl⟩
abbrev asT:Ty:=.pair .i64 (.pair (.pair .i64 .i64) (.pair (.sl .u8) (.pair .i64 (.pair .i64 (.pair (.sl .u8) (.pair (.sl .u8) (.pair (.sl .u8) (.sl (.sl .u8)))))))))
theorem wI(k s0 s1:Int)(d:List UInt8)(n o:Int)(x y z:List UInt8)(bs:List (List UInt8))(w:List UInt8)(h:A17 d x y z bs)(hw:w.length<=2000):EC E0 (.loop 14 0 0 0 [(0,.sl asT [(k,(s0,s1),d,n,o,x,y,z,bs)]),(3,.sl .u8 w),(4,.i 0)] []) fun r=>(∃ l:List UInt8,r=some (.fin .ret 0 [(2,.nil),(3,.sl .u8 l)] []))\/∃ l:List UInt8,(l.length<=32)/\r=some (.fin (.exit 0) 0 [(3,.sl .u8 l)] []):=by
 refine G5 fun P hP=>?_
 refine tw ?_;obtain⟨l0,h0_1,yy0⟩:=pY w k s0 s1 d n o x y z bs AA AA;refine Dv yy0 ?_
 rcases Ar (↑l0.length) 0 with hc1|hc1
 ·refine tw ?_;exact hP _ (Or.inl ⟨l0,rfl⟩)
 refine tw ?_;refine tw ?_;exact hP _ (Or.inr ⟨l0,AA,rfl⟩)
theorem ZO(k s0 s1:Int)(d:List UInt8)(n o:Int)(x y z:List UInt8)(bs:List (List UInt8))(h:A17 d x y z bs):EC E0 (.call 14 [.sl asT [(k,(s0,s1),d,n,o,x,y,z,bs)]] []) fun r=>∃ l:List UInt8,(l.length<=32)/\r=some (.ret (.sl .u8 l) []):=by
 refine G5 fun P hP=>tw ?_
 obtain⟨l0,h0_1,yy0⟩:=vV;refine Dv yy0 ?_
 obtain(⟨l1,yy1⟩|⟨l1_1,h1_2,yy1⟩):=wI k s0 s1 d n o x y z bs l0 AA AA
 ·refine Dv yy1 ?_;exact hP _ ⟨[],AA,rfl⟩
 refine Dv yy1 ?_;exact hP _ ⟨l1_1,AA,rfl⟩
theorem XM(hi:Kp a k s)(hn:0<=n/\n<=4294967296):EC E0 (.call 69 [av s,.i n,.sl .u8 b] []) fun r=>∃ l:List UInt8,(l.length<=32)/\r=some (.ret (.sl .u8 l) []):=by
 refine G5 fun P hP=>tw ?_
 rcases Ar (n%4) 0 with hc0|hc0
 ·refine tw ?_;exact hP _ ⟨[],AA,rfl⟩
 refine tw ?_
 rcases Ar (n%4) 1 with hc1|hc1
 ·refine tw ?_;obtain⟨l2,h2_1,yy2⟩:=ZO 7 0 0 [] 0 0 [] [] [] [] (by(exact as0 zat zat));refine Dv yy2 ?_;exact hP _ ⟨l2,AA,rfl⟩
 refine tw ?_
 rcases Ar (n%4) 2 with hc3|hc3
 ·refine tw ?_;obtain⟨h4,⟨h4_1,h4_2⟩,yy4⟩:=Kr s n 2 hi AA;refine Dv yy4 ?_;obtain⟨e5,c5_1,n5_2,d5_3,u5_4,l5_5,m5_6,t5_7,b5_8,⟨h5_9,h5_10,h5_11⟩,yy5⟩:=Md s h4 hi AA;refine Dv yy5 ?_
  rcases Ar e5 0 with hc6|hc6
  ·subst hc6
   replace h5_9:=h5_9 rfl
   refine tw ?_;exact hP _ ⟨d5_3,AA,rfl⟩
  refine tw ?_;obtain⟨l7,h7_1,yy7⟩:=ZO 2 0 0 [] 31 0 [] [] [] [] (by(exact as0 zat zat));refine Dv yy7 ?_;exact hP _ ⟨l7,AA,rfl⟩
 refine tw ?_;obtain⟨l8,h8_1,yy8⟩:=ZO 2 0 0 [] 31 0 [] [] [] [] (by(exact as0 zat zat));refine Dv yy8 ?_;exact hP _ ⟨l8,AA,rfl⟩
theorem Qu(hi:Kp a k s)(hn:0<=n/\n<=4294967296)(hb:b.length<=1000):EC E0 (.call 29 [av s,.i n,.sl .u8 b] []) fun r=>∃(i1 i2 i3:Int) (o u d:List UInt8),(1<=i1/\i1<=3/\o.length<=32/\u.length<=1000/\d.length<=1000)/\r=some (.ret (.tup [.sl .i64 [i1,i2,i3],.sl (.sl .u8) [o,u,d]]) []):=by
 refine G5 fun P hP=>?_
 rw[AL]
 conv=>arg 1;whnf
 rw[Aa zaa]
 conv=>arg 1;whnf
 rw[Aa zaa]
 conv=>arg 1;whnf
 rw[Aa zaa]
 conv=>arg 1;whnf
 rw[Ew zaa];rw[Bj zaa]
 rcases Ar (1+n%3) 2 with hc0|hc0
 ·refine tw ?_;obtain⟨l1,h1_1,yy1⟩:=XM s (n/5) b hi AA;refine Dv yy1 ?_
  rcases Ar (↑l1.length) 0 with hc2|hc2
  ·refine tw ?_
   rcases Bc (n%11) 10 with hc3|hc3
   ·refine tw ?_;rw[FU _ _ AA];refine tw ?_;exact hP _ ⟨1+n%3,BC BinOp.or (BC BinOp.or (n/3%4) (n/12%2*4)) 1,n/24%2,l1,List.take (n%3).toNat b,[],AA,rfl⟩
   refine tw ?_;rw[FU _ _ AA];refine tw ?_;exact hP _ ⟨1+n%3,BC BinOp.or (n/3%4) (n/12%2*4),n/24%2,l1,List.take (n%3).toNat b,[],AA,rfl⟩
  refine tw ?_;rw[FU _ _ AA];refine tw ?_;exact hP _ ⟨1+n%3,BC BinOp.or (n/3%4) (n/12%2*4),n/24%2,l1,List.take (n%3).toNat b,[],AA,rfl⟩
 refine tv ?_
 rcases Ar (1+n%3) 3 with hc4|hc4
 ·refine tv ?_;rw[FU _ _ AA];refine tw ?_;obtain⟨l5,h5_1,yy5⟩:=XM s (n/5) b hi AA;refine Dv yy5 ?_
  rcases Ar (↑l5.length) 0 with hc6|hc6
  ·refine tw ?_
   rcases Bc (n%11) 10 with hc7|hc7
   ·refine tw ?_;rw[FU _ _ AA];refine tw ?_;exact hP _ ⟨1+n%3,BC BinOp.or (n/3%4) 1,0,l5,List.take (n%3).toNat b,List.take (Int.toNat 20) b,AA,rfl⟩
   refine tw ?_;rw[FU _ _ AA];refine tw ?_;exact hP _ ⟨1+n%3,n/3%4,0,l5,List.take (n%3).toNat b,List.take (Int.toNat 20) b,AA,rfl⟩
  refine tw ?_;rw[FU _ _ AA];refine tw ?_;exact hP _ ⟨1+n%3,n/3%4,0,l5,List.take (n%3).toNat b,List.take (Int.toNat 20) b,AA,rfl⟩
 refine tw ?_;obtain⟨l8,h8_1,yy8⟩:=XM s (n/5) b hi AA;refine Dv yy8 ?_
 rcases Ar (↑l8.length) 0 with hc9|hc9
 ·refine tw ?_
  rcases Bc (n%11) 10 with hc10|hc10
  ·refine tw ?_;rw[FU _ _ AA];refine tw ?_;exact hP _ ⟨1+n%3,BC BinOp.or (n/3%4) 1,0,l8,List.take (n%3).toNat b,[],AA,rfl⟩
  refine tw ?_;rw[FU _ _ AA];refine tw ?_;exact hP _ ⟨1+n%3,n/3%4,0,l8,List.take (n%3).toNat b,[],AA,rfl⟩
 refine tw ?_;rw[FU _ _ AA];refine tw ?_;exact hP _ ⟨1+n%3,n/3%4,0,l8,List.take (n%3).toNat b,[],AA,rfl⟩
theorem zD(hi:Kp a k s)(hn:0<=n/\n<=4294967296)(hb:b.length<=1000):EC E0 (.call 36 [av s,.i n,.sl .u8 b] []) fun r=>∃(i1 i2 i3 i4:Int) (o u:List UInt8),(o.length<=1000/\u.length<=32)/\r=some (.ret (.tup [.sl .i64 [i1,i2,i3,i4],.sl (.sl .u8) [o,u]]) []):=by
 refine G5 fun P hP=>?_
 rw[AL]
 conv=>arg 1;whnf
 rw[Aa zaa]
 conv=>arg 1;whnf
 rw[Aa zaa]
 conv=>arg 1;whnf
 rw[Aa zaa]
 conv=>arg 1;whnf
 try dsimp -iota -beta -eta -zeta only
 rw[F6 zaa];rw[AX];obtain⟨l0,h0_1,yy0⟩:=XM s (n/7) b hi AA;refine tvn yy0 ?_
 rcases Ar (↑l0.length) 0 with hc1|hc1
 ·rw[Dz zaN]
  conv=>arg 1;whnf
  rw[F6 zaa];rw[Ew zaa];rw[Bj zaa];rw[F6 zaa];rw[Ew zaa];rw[AL]
  conv=>arg 1;whnf
  rw[Aa zaa]
  conv=>arg 1;whnf
  rw[DV zaa];rw[H6 zaN]
  conv=>arg 1;whnf
  try dsimp -iota -beta -eta -zeta only
  (obtain⟨z,mz,gz⟩:=EO (l:=([12,8,8,32]:List Int)) (i:=1+n/5%4-1) zaD;rw[gz])
  conv=>arg 1;whnf
  rw[Aa zaa]
  conv=>arg 1;whnf
  try dsimp -iota -beta -eta -zeta only
  rw[Ew zaa];rw[AX];rw[FU _ _ AA];refine tw ?_;exact hP _ ⟨n%5,1+n/5%4,BC BinOp.andNot (BC BinOp.or (BC BinOp.or (n/3%128) 1) 2) 12,z,List.take (n%3).toNat b,l0,AA,rfl⟩
 rw[Aa zaN]
 conv=>arg 1;whnf
 rw[F6 zaa];rw[Ew zaa];rw[Bj zaa];rw[F6 zaa];rw[Ew zaa];rw[AL]
 conv=>arg 1;whnf
 rw[Aa zaa]
 conv=>arg 1;whnf
 rw[DV zaa];rw[H6 zaN]
 conv=>arg 1;whnf
 try dsimp -iota -beta -eta -zeta only
 (obtain⟨z,mz,gz⟩:=EO (l:=([12,8,8,32]:List Int)) (i:=1+n/5%4-1) zaD;rw[gz])
 conv=>arg 1;whnf
 rw[Aa zaa]
 conv=>arg 1;whnf
 try dsimp -iota -beta -eta -zeta only
 rw[Ew zaa];rw[AX];rw[FU _ _ AA];refine tw ?_;exact hP _ ⟨n%5,1+n/5%4,BC BinOp.or (BC BinOp.or (n/3%128) 1) 2,z,List.take (n%3).toNat b,l0,AA,rfl⟩
end
end Go.Proofs.YtlpkjhhfhannpaaGreatDoor
