/- Own texts of this claim: contracts of functions. -/
import Derived.Test.YtlpkjhhfhannpaaGreatDoorBtaz
import Derived.Test.YtlpkjhhfhannpaaGreatDoorBtbc
set_option linter.all false
set_option maxHeartbeats 40000000
set_option maxRecDepth 100000
namespace Go.Proofs.YtlpkjhhfhannpaaGreatDoor
open Go Go.Ax Go.Eng
attribute [local irreducible] CS Cj CP CW CQ BC Cm ED ES Dx EG CJ Bi Ce CX and' Cf CU BL Au BI BP BR Ag Ai AY Ae D5 EJ D6 DX Cb BZ BQ BM BO BJ AZ BK Aj Ak Ap D7 BB CV BU BF CO D8 Cc fits D9 Ci AC AQ Ah
section
theorem jU{b:List (List UInt8)}(h:Eg 32 b){i:Int}(hi:0<=i/\i<16):∃ x,Ap b i=some x/\x.length=32:=by
 obtain⟨y,hm,hy⟩:=EO (l:=b) (i:=i) (by have:=h.1;omega)
 exact⟨y,hy,h.2 y hm⟩
theorem AAq{b:List (List UInt8)}(h:Eg 32 b)(i:Int){x:List UInt8}(hx:x.length=32):Eg 32 (BB b i x):=by
 obtain⟨h1,h2⟩:=bC (i:=i) (p:=fun y:List UInt8=>y.length=32) h.2 hx
 exact⟨h1.trans h.1,h2⟩
theorem QI(i:Int)(hi:i<0\/16<=i):Y E0 (.call 291 [.i i] [])=some (.ret (.b false) []):=by
 rcases hi with hi|hi
 ·refine tq ?_
  with_reducible rfl
 ·refine tq ?_
  with_reducible rfl
theorem rU(i:Int)(hi:i=12\/i=13):Y E0 (.call 293 [.i i,.b true] [])=some (.ret (.i 0) []):=by
 rcases hi with rfl|rfl
 ·refine tq ?_
  with_reducible rfl
 ·refine tq ?_
  with_reducible rfl
theorem rV(i:Int)(hi:0<=i/\i<16)(hn:i≠12/\i≠13):∃ n:Int,0<n/\Y E0 (.call 293 [.i i,.b true] [])=some (.ret (.i n) []):=by
 by_cases h1:i<12
 ·refine⟨5,by decide,?_⟩
  refine tq ?_
  with_reducible rfl
 rcases(by omega:i=14\/i=15) with rfl|rfl
 ·refine⟨3,by decide,?_⟩
  refine tq ?_
  with_reducible rfl
 ·refine⟨4,by decide,?_⟩
  refine tq ?_
  with_reducible rfl
variable (b:List (List UInt8))(u:Int)
theorem A8K(k i:Int)(hr:k<0\/2<=k\/i<0\/16<=i):Y E0 (.call 223 [Lh [[],b] u,.i k,.i i] [])=some (.ret (.tup [.sl .u8 [],.i 1]) []):=by
 by_cases h1:k<0
 ·refine tq ?_
  with_reducible rfl
 by_cases h2:2<=k
 ·refine tq ?_
  with_reducible rfl
 have e:=QI i zaa
 refine tq ?_
 rw[e]
 exact tq rfl
theorem A8L(hb:Eg 32 b)(i:Int)(hi:0<=i/\i<16):Y E0 (.call 223 [Lh [[],b] u,.i 0,.i i] [])=some (.ret (.tup [.sl .u8 [],.i 27]) []):=by
 have e:=IB i hi
 have e2:=Kt b u hb
 refine tq ?_
 rw[e]
 refine tq ?_
 rw[e2]
 exact tq rfl
theorem A8M(hb:Eg 32 b)(i:Int)(hi:0<=i/\i<16)(x:List UInt8)(hx:Ap b i=some x)(hl:x.length=32):Y E0 (.call 223 [Lh [[],b] u,.i 1,.i i] [])=some (.ret (.tup [.sl .u8 x,.i 0]) []):=by
 have e:=IB i hi
 have e2:=Lp b u hb
 have e3:Ap [[],b] 1=some b:=Zc _ _ _
 refine tq ?_
 rw[e]
 refine tq ?_
 rw[e2]
 conv=>lhs;whnf
 rw[DW];conv=>lhs;whnf
 rw[e3]
 refine tq ?_
 rw[hx]
 exact tq rfl
theorem ACZ(k i e:Int)(he:e≠0)(hv:Y E0 (.call 223 [Lh [[],b] u,.i k,.i i] [])=some (.ret (.tup [.sl .u8 [],.i e]) [])):Y E0 (.call 187 [tb b u,.i 0,rq 5 [] [] [k,i] []] [])=some (.ret (.tup [tb b u,Hr e [] [] []]) []):=by
 have kf:=Eu (Ad zen) [[],[],[],[]] (BG zen BN [] 32) 2 1 0 0 false 0 0 [] 0 5 100 0 0 1000 [] true false [[],b] u 0 true 0 noSs noOb [] [] e
 refine tq ?_
 rw[hv]
 refine tq ?_
 rw[kf]
 exact tq rfl
theorem ACa(i:Int)(x:List UInt8)(hv:Y E0 (.call 223 [Lh [[],b] u,.i 1,.i i] [])=some (.ret (.tup [.sl .u8 x,.i 0]) [])):Y E0 (.call 187 [tb b u,.i 0,rq 5 [] [] [1,i] []] [])=some (.ret (.tup [tb b u,Hr 0 [u] [x] []]) []):=by
 refine tq ?_
 rw[hv]
 exact tq rfl
theorem zT(c:Int)(hc:5<=c/\c<=8)(is:List Int)(bs:List (List UInt8))(h:Lr (.call 187 [tb b u,.i 0,rq c [] [] is bs] [])):Lr (.call 138 [tb b u,.i 0,rq c [] [] is bs] []):=by
 obtain⟨s,e,js,cs,h1,h2,hp⟩:=h
 refine⟨s,e,js,cs,h1,h2,?_⟩
 rcases(by omega:c=5\/c=6\/c=7\/c=8) with rfl|rfl|rfl|rfl
 ·refine tq ?_
  rw[hp]
  exact tq rfl
 ·refine tq ?_
  rw[hp]
  exact tq rfl
 ·refine tq ?_
  rw[hp]
  exact tq rfl
 ·refine tq ?_
  rw[hp]
  exact tq rfl
theorem AEZ(hb:Eg 32 b)(hu:0<=u/\u<=1000000)(k i:Int):Lr (.call 187 [tb b u,.i 0,rq 5 [] [] [k,i] []] []):=by
 by_cases hr:k<0\/2<=k\/i<0\/16<=i
 ·exact JJ (e:=1) zaj (ACZ b u k i 1 zaj (A8K b u k i hr))
 rcases(by omega:k=0\/k=1) with rfl|rfl
 ·exact JJ (e:=27) zaj (ACZ b u 0 i 27 zaj (A8L b u hb i zaa))
 obtain⟨x,hx,hl⟩:=jU hb (i:=i) zaa
 refine⟨Wx b u,0,[u],[x],Rz b u,⟨.inl rfl,by simp,by simp,by simp,?_,?_,by simp⟩,ACa b u i x (A8M b u hb i zaa x hx hl)⟩
 ·intro y hy;simp at hy;omega
 ·intro y hy;simp at hy;subst hy;omega
end
section
variable (b:List (List UInt8))(u i:Int)(d0 d1:List UInt8)
theorem A9B(hi:i<0\/16<=i):Y E0 (.call 224 [Lh [[],b] u,.i 0,.i i,.sl (.sl .u8) [d0,d1]] [])=some (.ret (.tup [Lh [] 0,.i 1]) []):=by
 have e:=QI i hi
 refine tq ?_
 rw[e]
 exact tq rfl
theorem A9C(hi:i=14\/i=15):Y E0 (.call 224 [Lh [[],b] u,.i 0,.i i,.sl (.sl .u8) [d0,d1]] [])=some (.ret (.tup [Lh [] 0,.i 13]) []):=by
 have h:=IB i zaa
 have e:=Qw i zaa
 have hp:0<QH i:=by unfold QH;rcases hi with rfl|rfl<;>decide
 refine tq ?_
 rw[h]
 refine tq ?_
 rw[e]
 exact tq rfl
theorem ACb(hb:Eg 32 b)(h0:d0≠[])(hl:d0.length<=1024/\d1.length<=1024):Y E0 (.loop 224 0 0 2 [(2,AV.i i),(3,AV.sl Ty.u8.sl [d0,d1]),(4,AV.pa 0 0),(8,AV.pa 1 0),(38,AV.sl Ty.u8.sl [d0,d1]),(39,AV.i (Ak [d0,d1])),(40,AV.i 0)] [(0,some (Rs.var [AV.sl Ty.u8.sl.sl [[],b],AV.i u])),(1,some (Rs.var [AV.nil,AV.i 0]))])=some (.fin .ret 2 [(2,AV.i i),(3,AV.sl Ty.u8.sl [d0,d1]),(4,AV.pa 0 0),(8,AV.pa 1 0),(9,AV.i 27)] [(0,some (Rs.var [AV.sl Ty.u8.sl.sl [[],b],AV.i u])),(1,some (Rs.var [AV.nil,AV.i 0]))]):=by
 have e:=Kt b u hb
 have hp:0<d0.length:=List.length_pos_iff.2 h0
 refine tq ?_
 rw[e]
 exact tq rfl
theorem ACc(hb:Eg 32 b)(hl:d1.length<=1024):Y E0 (.loop 224 0 0 2 [(2,AV.i i),(3,AV.sl Ty.u8.sl [[],d1]),(4,AV.pa 0 0),(8,AV.pa 1 0),(38,AV.sl Ty.u8.sl [[],d1]),(39,AV.i (Ak [[],d1])),(40,AV.i 0)] [(0,some (Rs.var [AV.sl Ty.u8.sl.sl [[],b],AV.i u])),(1,some (Rs.var [AV.nil,AV.i 0]))])=some (.fin (.exit 0) 2 [(2,AV.i i),(3,AV.sl Ty.u8.sl [[],d1]),(4,AV.pa 0 0),(8,AV.pa 1 0)] [(0,some (Rs.var [AV.sl Ty.u8.sl.sl [[],b],AV.i u])),(1,some (Rs.var [AV.nil,AV.i 0]))]):=by
 have hg1:Ap [[],d1] (0+1)=some d1:=Zc _ _ _
 have e:=Kt b u hb
 have e1:=Lp b u hb
 refine tq ?_
 rw[e]
 refine tq ?_
 refine tq ?_
 rw[hg1]
 refine tq ?_
 rw[show(0:Int)+1=1 from rfl,e1]
 refine tq ?_
 exact tq rfl
theorem ACd(hb:Eg 32 b)(hl:d1.length<=1024)(hd:d1.length≠32):Y E0 (.loop 224 1 0 2 [(2,AV.i i),(3,AV.sl Ty.u8.sl [[],d1]),(4,AV.pa 0 0),(8,AV.pa 1 0),(56,AV.sl Ty.u8.sl [[],d1]),(57,AV.i (Ak [[],d1])),(58,AV.i 0)] [(0,some (Rs.var [AV.sl Ty.u8.sl.sl [[],b],AV.i u])),(1,some (Rs.var [AV.nil,AV.i 0]))])=some (.fin .ret 2 [(2,AV.i i),(3,AV.sl Ty.u8.sl [[],d1]),(4,AV.pa 0 0),(8,AV.pa 1 0),(9,AV.i 24)] [(0,some (Rs.var [AV.sl Ty.u8.sl.sl [[],b],AV.i u])),(1,some (Rs.var [AV.nil,AV.i 0]))]):=by
 have hg1:Ap [[],d1] (0+1)=some d1:=Zc _ _ _
 have e:=Kt b u hb
 have e1:=Lp b u hb
 have e2:=UV
 have hs:Qz 1=32:=zaj
 refine tq ?_
 rw[e]
 refine tq ?_
 refine tq ?_
 rw[hg1]
 refine tq ?_
 rw[show(0:Int)+1=1 from rfl,e1]
 refine tq ?_
 rw[nZ _]
 exact tq rfl
theorem ACe(hb:Eg 32 b)(hi:0<=i/\i<14)(h0:d0≠[])(hl:d0.length<=1024/\d1.length<=1024):Y E0 (.call 224 [Lh [[],b] u,.i 0,.i i,.sl (.sl .u8) [d0,d1]] [])=some (.ret (.tup [Lh [] 0,.i 27]) []):=by
 have h:=IB i zaa
 have e:=Qw i zaa
 have hp:QH i=0:=by unfold QH;rw[if_neg zaa,if_neg zaa]
 rw[hp] at e
 have k:=ACb b u i d0 d1 hb h0 hl
 refine tq ?_
 rw[h]
 refine tq ?_
 rw[e]
 refine tq ?_
 rw[k]
 exact tq rfl
theorem ACf(hb:Eg 32 b)(hi:0<=i/\i<14)(hl:d1.length<=1024)(hd:d1.length≠32):Y E0 (.call 224 [Lh [[],b] u,.i 0,.i i,.sl (.sl .u8) [[],d1]] [])=some (.ret (.tup [Lh [] 0,.i 24]) []):=by
 have h:=IB i zaa
 have e:=Qw i zaa
 have hp:QH i=0:=by unfold QH;rw[if_neg zaa,if_neg zaa]
 rw[hp] at e
 have k:=ACc b u i d1 hb hl
 have k2:=ACd b u i d1 hb hl hd
 refine tq ?_
 rw[h]
 refine tq ?_
 rw[e]
 refine tq ?_
 rw[k]
 refine tq ?_
 rw[k2]
 exact tq rfl
theorem ACg(d:List UInt8)(hd:128<d.length):Y E0 (.call 225 [Lh [[],b] u,.i 0,.i i,.sl .u8 d] [])=some (.ret (.tup [Lh [] 0,.i 4]) []):=by
 refine tq ?_
 with_reducible rfl
theorem A9D(d:List UInt8)(hb:Eg 32 b)(hd:d.length<=128)(e:Int)(k:Y E0 (.call 224 [Lh [[],b] u,.i 0,.i i,.sl (.sl .u8) [[],sha256 d]] [])=some (.ret (.tup [Lh [] 0,.i e]) [])):Y E0 (.call 225 [Lh [[],b] u,.i 0,.i i,.sl .u8 d] [])=some (.ret (.tup [Lh [] 0,.i e]) []):=by
 have e1:=WT b u hb i 0 d hd
 refine tq ?_
 rw[e1]
 refine tq ?_
 rw[k]
 exact tq rfl
theorem ACh(hi:i<0\/16<=i):Y E0 (.call 226 [Lh [[],b] u,.i 0,.i i] [])=some (.ret (.tup [Lh [] 0,.i 1]) []):=by
 have e:=QI i hi
 refine tq ?_
 rw[e]
 exact tq rfl
theorem ACi(hi:0<=i/\i<16)(hn:i≠12/\i≠13):Y E0 (.call 226 [Lh [[],b] u,.i 0,.i i] [])=some (.ret (.tup [Lh [] 0,.i 13]) []):=by
 have e:=IB i hi
 obtain⟨n,hp,k⟩:=rV i hi hn
 refine tq ?_
 rw[e]
 refine tq ?_
 rw[k]
 exact tq rfl
theorem ACj(hb:Eg 32 b)(hi:0<=i/\i<16):Y E0 (.loop 226 0 0 6 [(2,AV.i i),(3,AV.pa 0 0),(6,AV.pa 1 0),(8,AV.pa 2 0),(31,AV.i 2),(32,AV.i 0)] [(0,some (Rs.var [AV.sl Ty.u8.sl.sl [[],b],AV.i u])),(1,some (Rs.var [AV.nil,AV.i 0])),(2,some (.var [.nm 3,.i u])),(3,some (.rowA 24 1 2 [.nm 4,.nm 5])),(4,some (.row 22 (.sl .u8) [])),(5,some (.row 22 (.sl .u8) b))])=some (.fin (.exit 0) 5 [(6,.pa 0 0),(8,.pa 1 0)] [(0,some (.var [.nil,.i 0])),(1,some (.var [.nm 2,.i u])),(2,some (.rowA 24 1 2 [.nm 3,.nm 4])),(3,some (.row 22 (.sl .u8) [])),(4,some (.row 22 (.sl .u8) (BB b i (List.replicate 32 (UInt8.ofNat 0)))))]):=by
 have hb1:=hb.1
 have e:=Kt b u hb
 have e1:=Lp b u hb
 have hs:Qz 1=32:=zaj
 refine tq ?_
 rw[e]
 refine tq ?_
 refine tq ?_
 rw[show(0:Int)+1=1 from rfl,e1]
 refine tq ?_
 rw[nZ _]
 refine tq ?_
 rw[hs,Z9]
 conv=>lhs;whnf
 rw[H6 zaa]
 conv=>lhs;whnf
 rw[Bv zaa]
 conv=>lhs;whnf
 try dsimp -iota -beta -eta -zeta only
 rw[drw zaw];conv=>lhs;whnf
 rw[AL]
 conv=>lhs;whnf
 try dsimp -iota -beta -eta -zeta only
 rw[Bj zaa]
 exact tq rfl
theorem AEa(hb:Eg 32 b)(hu:0<=u/\u<=1000000)(hi:i=12\/i=13):Y E0 (.call 226 [Lh [[],b] u,.i 0,.i i] [])=some (.ret (.tup [Lh [[],BB b i (List.replicate 32 (UInt8.ofNat 0))] (u+1),.i 0]) []):=by
 have e:=IB i zaa
 have k:=rU i hi
 have e2:=ACj b u i hb zaa
 refine tq ?_
 rw[e]
 refine tq ?_
 rw[k]
 refine tq ?_
 rw[zJ b u hb]
 refine tq ?_
 rw[show((2:Nat):Int)=2 from rfl];erw[e2]
 exact tq rfl
end
end Go.Proofs.YtlpkjhhfhannpaaGreatDoor
