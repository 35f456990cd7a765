/- Own texts of this claim: contracts of functions. -/
import Derived.Test.YtlpkjhhfhannpaaGreatDoorBtbo
import Derived.Test.YtlpkjhhfhannpaaGreatDoorBtbp
set_option linter.all false
set_option maxHeartbeats 40000000
set_option maxRecDepth 100000
namespace Go.Proofs.YtlpkjhhfhannpaaGreatDoor
open Go Go.Ax Go.Eng
attribute [local irreducible] CS Cj CP CW CQ BC Cm ED ES Dx EG CJ Bi Ce CX and' Cf CU BL Au BI BP BR Ag Ai AY Ae D5 EJ D6 DX Cb BZ BQ BM BO BJ AZ BK Aj Ak Ap D7 BB CV BU BF CO D8 Cc fits D9 Ci AC AQ Ah
variable (cd rb raw:List UInt8)(k n m at':Int)(x:UInt8)
theorem AEo{e:Int}(h:0<=e/\e<=20):EJ (UInt8.ofInt e)=e:=by
 rw[kN];unfold u8i0
 rcases(by omega:e=0\/e=1\/e=2\/e=3\/e=4\/e=5\/e=6\/e=7\/e=8\/e=9\/e=10\/e=11\/e=12\/e=13\/e=14\/e=15\/e=16\/e=17\/e=18\/e=19\/e=20) with rfl|rfl|rfl|rfl|rfl|rfl|rfl|rfl|rfl|rfl|rfl|rfl|rfl|rfl|rfl|rfl|rfl|rfl|rfl|rfl|rfl<;>rfl
theorem jX(b:List (List UInt8))(u:Int)(hb:Eg 32 b)(hu:0<=u/\u<=1000000)(ar:List (List UInt8))(wr nx:Int)(har:PK ar (nx-1) pT)(hw:0<=wr/\wr<=nx)(hn:nx<=800000)(ys:List (List UInt8))(hys:∀ y∈ys,y.length<=100000)(hyl:ys.length<=100):∀(k j:Nat),j+k=ys.length->Y E0 (.loop 3 0 0 1 [(17,AV.pa 0 0),(82,AV.sl Ty.u8.sl ys),(83,AV.i (ys.length:Int)),(84,AV.i (j:Int))] [(0,some (Rs.var [AV.sl Ty.u8.sl ar,AV.i wr,AV.i 0,AV.i 0,AV.b false,.sl (.sl .u8) (Ad zen),.sl (.sl .u8) [[],[],[],[]],.sl .u8 (BG zen BN [] 32),.i 2,.i 1,.i 0,.i 0,.b false,.sl (.sl (.sl .u8)) [],.i 0,.i 0,.sl Bf [],.i 0,.i 5,.i 100,.i 0,.i 0,.i 1000,.sl E8 [],.b true,.b false,.sl (.sl (.sl .u8)) [[],b],.i u,.i 0,.b true,.i 0,.sl sesT noSs,.sl objT noOb,.sl .i64 [],.sl .i64 [],AV.b true,AV.i nx]))])=some (.fin (.exit 0) 0 [] [])
 | 0,j,hj=>by
  rw[AL];conv=>lhs;whnf
  refine tq ?_
  with_reducible rfl
 | k+1,j,hj=>by
  have ih:=jX b u hb hu ar wr nx har hw hn ys hys hyl k (j+1) zaa
  rw[show((j+1:Nat):Int)=(j:Int)+1 from by omega] at ih
  obtain⟨y,hym,hg⟩:=EO (l:=ys) (i:=(j:Int)) zaa
  obtain⟨_,⟨c0,hs0,az0,is0,bs0,rfl⟩,ha⟩:=sD y (hys y hym)
  obtain⟨ar',wr',nx',s,r,e,js,cs,h1,hd,hs⟩:=A8S b u hb hu ar wr nx har hw hn y (hys y hym)
  have hc:=AD2 y
  by_cases h0:VZ y=0
  ·rw[h0] at ha
   rw[AL];conv=>lhs;whnf
   refine to ?_
   rw[hg]
   refine tq ?_
   rw[hs]
   refine tq ?_
   rw[hd]
   refine tq ?_
   rw[ha]
   refine tq ?_
   exact ih
  ·obtain⟨rfl,rfl⟩:=h1 h0
   have hv:=AEo hc
   generalize UInt8.ofInt (VZ y)=v at *
   generalize VZ y=g at *
   rw[AL];conv=>lhs;whnf
   refine to ?_
   rw[hg]
   refine tq ?_
   rw[hs]
   refine tq ?_
   rw[hd]
   refine tq ?_
   rw[ha]
   conv=>lhs;whnf
   rw[FH zaa]
   conv=>lhs;whnf
   rw[FH zaa]
   conv=>lhs;whnf
   rw[Ih zaa]
   conv=>lhs;whnf
   rw[FH zah]
   conv=>lhs;whnf
   rw[nG];conv=>lhs;whnf
   rw[AL]
   conv=>lhs;whnf
   rw[hv]
   refine tq ?_
   exact ih
theorem A62(h:100<raw.length\/60<rb.length):Y E0 (.call 3 [.sl .u8 cd,.sl .u8 rb,.sl .u8 raw,.i k,.i n,.i m,.i at',.u8 x] [])=some (.ret (.b true) []):=by
 by_cases h1:100<raw.length
 ·refine tq ?_
  rw[Qy]
  exact tq rfl
 ·have h2:60<rb.length:=zaa
  refine tq ?_
  rw[Qy]
  exact tq rfl
theorem A63(h1:raw.length<=100)(h2:rb.length<=60):Y E0 (.call 3 [.sl .u8 cd,.sl .u8 rb,.sl .u8 raw,.i k,.i n,.i m,.i at',.u8 x] [])=some (.ret (.b true) []):=by
 obtain⟨ar,wr,nx,a1,a2,a3,a4,hf⟩:=qW
 rw[show EI 2=[[],GR 32] from rfl] at hf
 obtain⟨b,u,⟨hb,hu⟩,hm⟩:=A8T ar wr nx (GR 32) cd jW
 obtain⟨c,hs,az,is,bs,hfw,hr⟩:=A81 (Wx b u) k n m rb (AD5 b u hb hu) zaa
 obtain⟨l,e,hl,he⟩:=AB7 c hs az is bs hfw
 by_cases hat:0<=at'/\at'<l.length
 ·obtain⟨v,hv⟩:∃ v,BB l at' (CU BinOp.xor (l[at'.toNat]'zaa) x)=v:=⟨_,rfl⟩
  have hvl:v.length<=100000:=by rw[<-hv,EL,List.length_set];exact hl
  have lo:=jX b u hb zaa ar wr nx a1 ⟨a2,a3⟩ zaa [v,raw] (by intro y hy;simp at hy;rcases hy with rfl|rfl<;>omega) zat 2 0 rfl
  rw[show(([v,raw]:List (List UInt8)).length:Int)=Ak [v,raw] from(AP _).symm,show((0:Nat):Int)=0 from rfl] at lo
  refine tq ?_
  rw[Qy]
  refine tq ?_
  rw[hf]
  refine tq ?_
  rw[hm]
  refine tq ?_
  rw[hr]
  refine tq ?_
  rw[he]
  conv=>lhs;whnf
  rw[Fb zaa]
  conv=>lhs;whnf
  rw[Dl zah]
  conv=>lhs;whnf
  rw[AL]
  conv=>lhs;whnf
  rw[H6 zaa]
  conv=>lhs;whnf
  try dsimp -iota -beta -eta -zeta only
  rw[Bv zaa]
  conv=>lhs;whnf
  rw[H6 zaa]
  conv=>lhs;whnf
  rw[Bv zaa]
  conv=>lhs;whnf
  rw[AL]
  conv=>lhs;whnf
  try dsimp -iota -beta -eta -zeta only
  rw[Du]
  rw[hv,lo]
  exact tq rfl
 ·have lo:=jX b u hb zaa ar wr nx a1 ⟨a2,a3⟩ zaa [l,raw] (by intro y hy;simp at hy;rcases hy with rfl|rfl<;>omega) zat 2 0 rfl
  rw[show(([l,raw]:List (List UInt8)).length:Int)=Ak [l,raw] from(AP _).symm,show((0:Nat):Int)=0 from rfl] at lo
  refine tq ?_
  rw[Qy]
  refine tq ?_
  rw[hf]
  refine tq ?_
  rw[hm]
  refine tq ?_
  rw[hr]
  refine tq ?_
  rw[he]
  refine tq ?_
  rcases Gw 0 at' with hc0|hc0
  ·
   rw[Fb zaa]
   conv=>lhs;whnf
   rw[Fv zah]
   conv=>lhs;whnf
   rw[AL]
   conv=>lhs;whnf
   rw[AL]
   conv=>lhs;whnf
   try dsimp -iota -beta -eta -zeta only
   rw[Du]
   rw[lo]
   conv=>lhs;whnf
  rw[RI zaa]
  conv=>lhs;whnf
  rw[AL]
  conv=>lhs;whnf
  try dsimp -iota -beta -eta -zeta only
  rw[Du]
  rw[lo]
  exact tq rfl
theorem sF:Y E0 (.call 3 [.sl .u8 cd,.sl .u8 rb,.sl .u8 raw,.i k,.i n,.i m,.i at',.u8 x] [])=some (.ret (.b true) []):=by
 by_cases h:100<raw.length\/60<rb.length
 ·exact A62 cd rb raw k n m at' x h
 ·exact A63 cd rb raw k n m at' x zaa zaa
end Go.Proofs.YtlpkjhhfhannpaaGreatDoor
