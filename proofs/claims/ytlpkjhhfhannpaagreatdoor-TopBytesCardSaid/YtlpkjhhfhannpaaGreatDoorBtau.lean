/- Own texts of this claim: contracts of functions. -/
import Derived.Test.YtlpkjhhfhannpaaGreatDoorBtas
import Derived.Test.YtlpkjhhfhannpaaGreatDoorBtat
set_option linter.all false
set_option maxHeartbeats 40000000
set_option maxRecDepth 100000
namespace Go.Proofs.YtlpkjhhfhannpaaGreatDoor
open Go Go.Ax Go.Eng
attribute [local irreducible] CS Cj CP CW CQ BC Cm ED ES Dx EG CJ Bi Ce CX and' Cf CU BL Au BI BP BR Ag Ai AY Ae D5 EJ D6 DX Cb BZ BQ BM BO BJ AZ BK Aj Ak Ap D7 BB CV BU BF CO D8 Cc fits D9 Ci AC AQ Ah
variable (d x:List UInt8)
section
attribute [local irreducible] BG DY CY nameB Eh Ef Az Ei Eo F5 Ff Fh Bg Io GI JD Jk JE Jh Ha NZ Na IJ
theorem A81(s:MS)(k' n m:Int)(b:List UInt8){a k:Int}(hi:Kp a k s)(hb:b.length<=140737488355328):EC E0 (.call 8 [av s,.i k',.i n,.i m,.sl .u8 b] []) fun r=>∃(c:Int) (hs:List Int) (az:List (El AB)) (is:List Int) (bs:List (List UInt8)),(Few hs az is bs)/\r=some (.ret (rq c hs az is bs) []):=by
 rcases(by omega:k'%48<=11\/12<=k'%48/\k'%48<=22\/23<=k'%48/\k'%48<=31\/32<=k'%48/\k'%48<=43\/44<=k'%48) with h|h|h|h|h
 ·exact A1G s k' n m b hi zaa hb
 ·exact A1H s k' n m b hi zaa hb
 ·exact A1I s k' n m b hi zaa hb
 ·exact A1J s k' n m b hi zaa hb
 ·exact A1K s k' n m b hi zaa hb
end
abbrev AAW:Ty:=.pair .i64 (.pair (.pair .i64 .i64) (.pair (.sl .u8) (.pair .i64 (.pair .i64 (.pair (.sl .u8) (.pair (.sl .u8) (.pair (.sl .u8) (.sl (.sl .u8)))))))))
def Wv(d x:List UInt8):List UInt8:=sha256 (Az 8 [[1],d,Bg (Bg [] 2 0) 2 1,x])
theorem jP(hd:d.length<=1000)(hx:x.length=32):(Az 8 [[1],d,Bg (Bg [] 2 0) 2 1,x]).length<=4000:=by
 simp only[Az,fieldsB,List.flatMap_cons,List.flatMap_nil,List.length_append,List.length_cons,List.length_nil,Hu,A8];omega
theorem ZR:(Wv d x).length=32:=A7 _
theorem wM:Y E0 (.call 55 [] [])=some (.ret (.sl .u8 zen) []):=by
 have h1:BU 32 (0:UInt8)=zen:=by rw[Ea,zen];rfl
 refine tq ?_
 (rw[h1])
theorem A5S:Y E0 (.call 147 [.agg [.i 0,.i 1]] [])=some (.ret (.b true) []):=by
 refine tq ?_
 with_reducible rfl
theorem A5T(hx:x.length=32):Y E0 (.call 95 [vU 1 0 1 x 0 0 [] [] [] []] [])=some (.ret (.i 0) []):=by
 refine tq ?_
 rw[A5S]
 exact tq rfl
theorem wO(hd:d.length<=1000)(hx:x.length=32):Y E0 (.call 96 [.sl .u8 d,vU 1 0 1 x 0 0 [] [] [] []] [])=some (.ret (.sl .u8 (Az 8 [[1],d,Bg (Bg [] 2 0) 2 1,x])) []):=by
 have hf:BF [[DX 1]] [d,Bg (Bg [] 2 0) 2 1,x]=[[1],d,Bg (Bg [] 2 0) 2 1,x]:=by rw[Ac,Dq];rfl
 have hl:=jP d x hd hx
 refine tq ?_
 rw[EN _ _ _ AA]
 refine tq ?_
 rw[EN _ _ _ AA]
 refine tq ?_
 rw[hf]
 conv=>lhs;whnf
 rw[J7 _ _ AA AA]
 exact tq rfl
theorem A5U(hd:d.length<=1000)(hx:x.length=32):Y E0 (.call 56 [.sl .u8 d,vU 1 0 1 x 0 0 [] [] [] []] [])=some (.ret (.sl .u8 (Wv d x)) []):=by
 have hl:=jP d x hd hx
 have k1:=A5T x hx
 have k2:=wO d x hd hx
 refine tq ?_
 rw[k1]
 refine tq ?_
 rw[k2]
 refine tq ?_
 rw[IA _ AA]
 refine tq ?_
 rfl
theorem wP(hx:x.length=32):Y E0 (.loop 14 0 0 0 [(0,.sl AAW [(1,(0,1),x,0,0,[],[],[],[])]),(3,.sl .u8 zen),(4,.i 0)] [])=some (.fin (.exit 0) 0 [(3,.sl .u8 (Wv zen x))] []):=by
 have hp:=ZR zen x
 have k1:=A5U zen x (by rw[zen_len];omega) hx
 have hl:Ak ([(1,(0,1),x,0,0,[],[],[],[])]:List (El AAW))=1:=zaV
 rw[AL];conv=>lhs;whnf
 rw[hl]
 refine tq ?_
 rw[k1]
 refine tq ?_
 rw[AL]
 conv=>lhs;whnf
 rw[hl]
 exact tq rfl
theorem A5V(hx:x.length=32):Y E0 (.call 14 [.sl AAW [(1,(0,1),x,0,0,[],[],[],[])]] [])=some (.ret (.sl .u8 (Wv zen x)) []):=by
 refine tq ?_
 rw[wM]
 refine tq ?_
 rw[wP _ AA]
 exact tq rfl
theorem zI(x a b:Int):Y E0 (.call 316 [.i x,.i a,.i b] [])=some (.ret (.b (decide (a<=x/\x<=b))) []):=by
 refine tq ?_
 rcases Gw a x with hc0|hc0
 ·
  refine tq ?_
  exact zas
 refine tq ?_
 simp;omega
theorem A83:Y E0 (.call 315 [.b true] [])=some (.ret (.i 0) []):=by
 refine tq ?_
 with_reducible rfl
theorem dV(hx:x.length=32):Y E0 (.call 263 [vU 1 0 1 x 0 0 [] [] [] []] [])=some (.ret (.i 0) []):=by
 have w0:=zI 0 0 65535
 have w1:=zI 1 0 65535
 rw[show decide ((0:Int)<=0/\(0:Int)<=65535)=true from rfl] at w0
 rw[show decide ((0:Int)<=1/\(1:Int)<=65535)=true from rfl] at w1
 have hi:ED (Ak x) 32=true:=Dz (by rw[AP];omega)
 rw[AL]
 conv=>lhs;whnf
 rw[Dz zaa]
 conv=>lhs;whnf
 try dsimp -iota -beta -eta -zeta only
 rw[Fb zaa]
 conv=>lhs;whnf
 rw[Dl zaa]
 conv=>lhs;whnf
 try dsimp -iota -beta -eta -zeta only
 rw[AX]
 rw[w0]
 conv=>lhs;whnf
 try dsimp -iota -beta -eta -zeta only
 rw[Fb zaa]
 conv=>lhs;whnf
 rw[Dl zaa]
 conv=>lhs;whnf
 try dsimp -iota -beta -eta -zeta only
 rw[AX]
 rw[w1]
 conv=>lhs;whnf
 try dsimp -iota -beta -eta -zeta only
 rw[AX]
 rw[hi,A83]
 exact tq rfl
theorem A1N(hd:d.length<=1000)(hx:x.length=32):Y E0 (.call 344 [.sl .u8 d,vU 1 0 1 x 0 0 [] [] [] []] [])=some (.ret (.sl (.sl .u8) [d,Bg (Bg [] 2 0) 2 1,x]) []):=by
 refine tq ?_
 rw[Dy _ _ _ AA]
 refine tq ?_
 rw[Dy _ _ _ AA]
 exact tq rfl
theorem A1O(hd:d.length<=1000)(hx:x.length=32):Y E0 (.call 300 [.sl .u8 d,vU 1 0 1 x 0 0 [] [] [] []] [])=some (.ret (.sl .u8 (Wv d x)) []):=by
 have k1:=dV x hx
 have k2:=A1N d x hd hx
 have hf:BF [[DX 1]] [d,Bg (Bg [] 2 0) 2 1,x]=[[1],d,Bg (Bg [] 2 0) 2 1,x]:=by rw[Ac,Dq];rfl
 have hl:=jP d x hd hx
 refine tq ?_
 rw[k1]
 refine tq ?_
 rw[k2]
 refine tq ?_
 rw[hf]
 conv=>lhs;whnf
 rw[Fe _ _ AA AA]
 refine tq ?_
 rfl
theorem rW:Y E0 (.call 267 [.sl Bf []] [])=some (.ret (.nm 0) [some (.row 152 Bf [])]):=by
 have hf:fits (α:=El Bf) [] 32768=true:=Dk (α:=El Bf) zaj
 refine tq ?_
 rw[show E0.ov (Req.call 267 [AV.sl Bf []] [])=(bif fits (α:=El Bf) [] 32768 then some (.ret (.nm 0) [some (.row 152 Bf [])]) else none) from rfl,hf]
 rfl
end Go.Proofs.YtlpkjhhfhannpaaGreatDoor
