/-
  Own texts, laid together for this claim: contracts of functions of the program and its references, used by the statements of this seat.
-/
import Derived.Test.YtanagnimhaemgaaGreatDoorProg
import Derived.JoinedCond
import Derived.Test.YtanagnimhaemgaaGreatDoorKtaa
import Derived.Test.YtanagnimhaemgaaGreatDoorKtab
import Derived.Test.YtanagnimhaemgaaGreatDoorKtac
set_option linter.all false
set_option maxHeartbeats 40000000
set_option maxRecDepth 100000
namespace Go.Ax
open Go Go.Eng
theorem A3u(x:UInt32):[Au (AP x 24),Au (AP x 16),Au (AP x 8),Au x]=wb x:=by
 rw[Ha zac,Ha zac,Ha zac];simp only[Z5];rfl
theorem Rz{ws:List UInt32}{j:Nat}(h:j<ws.length):Hu (ws.drop j)=wb (ws.getD j 0)++Hu (ws.drop (j+1)):=by
 rw[List.drop_eq_getElem_cons h];simp only[Hu,List.flatMap_cons,List.getD,List.getElem?_eq_getElem h,Option.getD_some]
theorem Ou{ws:List UInt32}{j:Nat}(h:j<ws.length):Ah ws (j:Int)=some (ws.getD j 0):=by
 rw[DZ ⟨by omega,by omega⟩];simp[List.getD,h]
theorem dw(n:UInt64)(i:Int)(c:Nat)(h:(c:Int)=i/\c<64):BB (AY n (BJ i).toNat)=(n>>>UInt64.ofNat c).toUInt8:=by
 obtain⟨rfl,h⟩:=h
 rw[Rf,J5,NQ zaa,PZ zaa];rfl
theorem Ue(n m:UInt64)(c:Nat)(h:m.toNat=c)(hc:c<64):BB (AY n m.toNat)=(n>>>UInt64.ofNat c).toUInt8:=by
 subst h;rw[Rf,PZ hc]
theorem zx(l:List UInt8):Ar .mul (BJ (l.length:Int)) (UInt64.ofNat 8)=UInt64.ofInt (l.length:Int)*8:=by rw[Dq,J5];rfl
end Go.Ax
namespace Go.Proofs.YtanagnimhaemgaaGreatDoor
open Go Go.RowKit Go.Eng Go.Ax
noncomputable def E0:Env:=⟨TT0,FT0,CT0,ovR,[180,263]⟩
theorem e0:EnvOK Tryz.prog I0 E0:=⟨tg0,ft0,ct0.get,by kernel_rfl,A4q⟩
theorem A7i{f:Nat}{args:List AV}{H:List Rs}{r:Rsp}(h:E0.ov (.call f args H)=some r):Y E0 (.call f args H)=some r:=by
 rw[Y.eq_1];simp only[BU];rw[h]
theorem A4r(l:List (El objT))(hl:l.length<=4294967296):Y E0 (.call 224 [.sl objT l] [])=some (.ret (.nm 0) [some (.row 99 objT l)]) :=
 A7i (by show(bif fits l 32768 then _ else _)=_;rw[show fits l 32768=true from EF zaa];rfl)
end Go.Proofs.YtanagnimhaemgaaGreatDoor
namespace Go.Proofs.YtanagnimhaemgaaGreatDoor
open Go
variable (P:Program)(X:List (List Char))
def iniH:List Char:=([104,97,114,110,101,115,115]:List Nat).map Char.ofNat
def iniS:List Char:=([50,54,97,57,97,97,53,101,57,97,57,101,101,97,53,52,97,101,57,48,54,57,56,101,102,49,51,51,54,101,54,51,52,57,101,53,57,102,54,53,49,50,50,57,99,97,52,54,50,56,102,55,51,102,56,50,101,98,52,99,55,100,101,49]:List Nat).map Char.ofNat
def iniC:List Char:=([99,117,116]:List Nat).map Char.ofNat
def iniR:List Char:=([97,116,32,115,101,97,108,119,114,105,103,104,116,47,115,101,97,108,119,114,105,103,104,116,116,111,112,46,84,111,112,76,111,99,107,111,117,116,32,115,101,97,108,119,114,105,103,104,116,47,115,101,97,108,119,114,105,103,104,116,116,111,112,46,84,111,112,82,101,112,108,97,121,32,115,101,97,108,119,114,105,103,104,116,47,115,101,97,108,119,114,105,103,104,116,116,111,112,46,84,111,112,81,117,111,116,101,115,32,115,101,97,108,119,114,105,103,104,116,47,115,101,97,108,119,114,105,103,104,116,116,111,112,46,84,111,112,67,108,101,97,114]:List Nat).map Char.ofNat
def iniB:Char:=Char.ofNat 32
def iniL:List Char:=iniH++iniB::(iniS++iniB::(iniC++iniB::iniR))
theorem A7j:Tryz.prog.initOrder=String.ofList iniL:=zai
theorem Ph:∀(w r:List Char),(w.all fun c=>c != iniB)=true->wordsSigns (w++iniB::r)=w::wordsSigns r
 | [],r,_=>rfl
 | c::w,r,h=>by
  rw[List.all_cons,Bool.and_eq_true] at h
  have ih:=Ph w r h.2
  rw[List.cons_append]
  have hc:c≠iniB:=by intro e;rw[e] at h;exact absurd h.1 zac
  generalize wordsSigns r=g at ih ⊢
  unfold wordsSigns
  split
  ·rename_i h1;cases h1
  ·rename_i h1;cases h1;exact absurd rfl hc
  ·rename_i h1;cases h1;rw[ih]
theorem A5w:wordsSigns Tryz.prog.initOrder.toList=iniH::iniS::iniC::wordsSigns iniR:=by
 rw[A7j,String.toList_ofList,iniL,Ph _ _ zaz,Ph _ _ zaz,Ph _ _ zaz]
theorem tl{s:String}(l:List Char)(h:s=String.ofList l):s.toList=l:=by rw[h];exact String.toList_ofList
theorem A4s: "gc".toList=(([103,99]:List Nat).map Char.ofNat):=tl _ zai
theorem zU: "spec".toList=(([115,112,101,99]:List Nat).map Char.ofNat):=tl _ zai
theorem zV: "carried".toList=(([99,97,114,114,105,101,100]:List Nat).map Char.ofNat):=tl _ zai
theorem tlCut: "cut".toList=iniC:=tl _ zai
theorem A3o: "harness".toList=iniH:=tl _ zai
theorem A5x: "finals".toList=(([102,105,110,97,108,115]:List Nat).map Char.ofNat):=tl _ zai
theorem A7k: "reflectrows".toList=(([114,101,102,108,101,99,116,114,111,119,115]:List Nat).map Char.ofNat):=tl _ zai
theorem A7l: "leanrows".toList=(([108,101,97,110,114,111,119,115]:List Nat).map Char.ofNat):=tl _ zai
theorem A7m: "onebuild".toList=(([111,110,101,98,117,105,108,100]:List Nat).map Char.ofNat):=tl _ zai
theorem A7n: "publicsums".toList=(([112,117,98,108,105,99,115,117,109,115]:List Nat).map Char.ofNat):=tl _ zai
theorem A7o: "eqguard".toList=(([101,113,103,117,97,114,100]:List Nat).map Char.ofNat):=tl _ zai
theorem A7p: "ownunsafe".toList=(([111,119,110,117,110,115,97,102,101]:List Nat).map Char.ofNat):=tl _ zai
theorem A7q: "libbeside".toList=(([108,105,98,98,101,115,105,100,101]:List Nat).map Char.ofNat):=tl _ zai
theorem A7r: "ownbeside".toList=(([111,119,110,98,101,115,105,100,101]:List Nat).map Char.ofNat):=tl _ zai
theorem A7s: "reflbeside".toList=(([114,101,102,108,98,101,115,105,100,101]:List Nat).map Char.ofNat):=tl _ zai
theorem A5y: "aliases".toList=(([97,108,105,97,115,101,115]:List Nat).map Char.ofNat):=tl _ zai
theorem A5z: "afterinit".toList=(([97,102,116,101,114,105,110,105,116]:List Nat).map Char.ofNat):=tl _ zai
theorem A60: "crcplain".toList=(([99,114,99,112,108,97,105,110]:List Nat).map Char.ofNat):=tl _ zai
theorem A61: "roadunsafe".toList=(([114,111,97,100,117,110,115,97,102,101]:List Nat).map Char.ofNat):=tl _ zai
theorem A62: "fmthandon".toList=(([102,109,116,104,97,110,100,111,110]:List Nat).map Char.ofNat):=tl _ zai
theorem FZ(o:String)(os:List String)(l w:List Char)(ws:List (List Char))(h:o.toList=l)(hw:(w==l)=false):stripLifts (o::os) (w::ws)=stripLifts os (w::ws):=by
 rw[stripLifts,h,hw,if_neg zac]
theorem A3p:stripLifts liftWords (iniC::X)=([],iniC::X):=by
 unfold liftWords
 rw[FZ _ _ _ _ _ A5x zaz]
 rw[FZ _ _ _ _ _ A7k zaz]
 rw[FZ _ _ _ _ _ A7l zaz]
 rw[FZ _ _ _ _ _ A7m zaz]
 rw[FZ _ _ _ _ _ A7n zaz]
 rw[FZ _ _ _ _ _ A7o zaz]
 rw[FZ _ _ _ _ _ A7p zaz]
 rw[FZ _ _ _ _ _ A7q zaz]
 rw[FZ _ _ _ _ _ A7r zaz]
 rw[FZ _ _ _ _ _ A7s zaz]
 rw[FZ _ _ _ _ _ A5y zaz]
 rw[FZ _ _ _ _ _ A5z zaz]
 rw[FZ _ _ _ _ _ A60 zaz]
 rw[FZ _ _ _ _ _ A61 zaz]
 rw[FZ _ _ _ _ _ A62 zaz]
 rfl
theorem A63:behindMainWord (iniH::iniS::iniC::X)=iniC::X:=by
 unfold behindMainWord;rw[A3o];kernel_rfl
theorem zW:behindMainWord (wordsSigns Tryz.prog.initOrder.toList)=iniC::wordsSigns iniR:=by rw[A5w,A63]
theorem A3q(h:behindMainWord (wordsSigns P.initOrder.toList)=iniC::X):P.headLifts=[]:=by
 unfold Program.headLifts
 simp only[h,A3p,tlCut]
 rfl
theorem A64(h:behindMainWord (wordsSigns P.initOrder.toList)=iniC::X)(h1:P.laysLater=false)(h2:P.bearsReflect=false)(h3:P.doorFits []=true):P.mayEnter=true:=by
 unfold Program.mayEnter
 simp only[h,A3p,tlCut,A4s,zU,zV,h1,h2,h3]
 rfl
theorem A4t(h:behindMainWord (wordsSigns P.initOrder.toList)=iniC::X):P.make=some .cut:=by
 unfold Program.make
 simp only[h,A3q P X h,tlCut,A4s,zU,zV,A5x]
 rw[if_neg zaz,if_pos (by rw[show(iniC==iniC)=true from by decide +kernel];rfl)]
theorem A65(h:behindMainWord (wordsSigns P.initOrder.toList)=iniC::X):P.liftsFinal=false:=by
 unfold Program.liftsFinal
 simp only[h,A3q P X h,tlCut,A4s,zV]
 rfl
theorem A66: "26a9aa5e9a9eea54ae90698ef1336e6349e59f651229ca4628f73f82eb4c7de1".toList=iniS:=tl _ zai
theorem A4u(h:wordsSigns P.initOrder.toList=iniH::iniS::X):P.mainIs=some (true,iniS):=by
 unfold Program.mainIs
 simp only[h,A3o]
 rw[if_neg (by rw[show isSumSigns iniS=true from by decide +kernel];decide),if_pos zaz]
theorem A7t:Tryz.prog.mainIs=some (true, "26a9aa5e9a9eea54ae90698ef1336e6349e59f651229ca4628f73f82eb4c7de1".toList):=by rw[A66];exact A4u _ _ A5w
theorem A7u:Tryz.prog.mayEnter=true:=A64 _ _ zW zai zai zai
theorem A7v:Tryz.prog.liftsFinal=false:=A65 _ _ zW
theorem A7w:Tryz.prog.make=some .cut:=A4t _ _ zW
end Go.Proofs.YtanagnimhaemgaaGreatDoor
namespace Go.Proofs.YtanagnimhaemgaaGreatDoor
open Go Go.Ax Go.Eng
variable (b l:List UInt8)(x:UInt32)(ws:List UInt32)
section
attribute [local irreducible] Bl CS CU CJ Bh Ak CV Du EN E5 EH Be BN CE Bz and' CG CO BC Ag Ar BF BG AY Aa AP AX CW Dv CX DT C9 BJ BD BA BB Au AQ Az Ac Aw Ah CY BL Bi BR BI CB CZ CP fits Cb CQ A8 AA AZ
theorem Ii(k:Int)(s:Nat)(h0:0<s/\s<32)(hk:(Ar .and (BJ k) (UInt64.ofNat 31)).toNat=s):Y E0 (.call 279 [.u32 x,.i k] [])=some (.ret (.u32 (rQ x s)) []):=by
 refine BM ?_
 exact congrArg (fun q=>some (Rsp.ret (.u32 q) [])) (A4e x s h0 hk)
theorem A2Z:Y E0 (.call 279 [.u32 x,.i (-7)] [])=some (.ret (.u32 (OD x 7)) []):=(Ii x (-7) 25 zac zaG).trans (by rw[KA x 25 7 rfl])
theorem zX:Y E0 (.call 279 [.u32 x,.i (-18)] [])=some (.ret (.u32 (OD x 18)) []):=(Ii x (-18) 14 zac zaG).trans (by rw[KA x 14 18 rfl])
theorem zY:Y E0 (.call 279 [.u32 x,.i (-17)] [])=some (.ret (.u32 (OD x 17)) []):=(Ii x (-17) 15 zac zaG).trans (by rw[KA x 15 17 rfl])
theorem zZ:Y E0 (.call 279 [.u32 x,.i (-19)] [])=some (.ret (.u32 (OD x 19)) []):=(Ii x (-19) 13 zac zaG).trans (by rw[KA x 13 19 rfl])
theorem A2a:Y E0 (.call 279 [.u32 x,.i (-6)] [])=some (.ret (.u32 (OD x 6)) []):=(Ii x (-6) 26 zac zaG).trans (by rw[KA x 26 6 rfl])
theorem zf:Y E0 (.call 279 [.u32 x,.i (-11)] [])=some (.ret (.u32 (OD x 11)) []):=(Ii x (-11) 21 zac zaG).trans (by rw[KA x 21 11 rfl])
theorem zg:Y E0 (.call 279 [.u32 x,.i (-25)] [])=some (.ret (.u32 (OD x 25)) []):=(Ii x (-25) 7 zac zaG).trans (by rw[KA x 7 25 rfl])
theorem A2b:Y E0 (.call 279 [.u32 x,.i (-2)] [])=some (.ret (.u32 (OD x 2)) []):=(Ii x (-2) 30 zac zaG).trans (by rw[KA x 30 2 rfl])
theorem zh:Y E0 (.call 279 [.u32 x,.i (-13)] [])=some (.ret (.u32 (OD x 13)) []):=(Ii x (-13) 19 zac zaG).trans (by rw[KA x 19 13 rfl])
theorem zi:Y E0 (.call 279 [.u32 x,.i (-22)] [])=some (.ret (.u32 (OD x 22)) []):=(Ii x (-22) 10 zac zaG).trans (by rw[KA x 10 22 rfl])
theorem A2c:Y E0 (.call 279 [.u32 x,.i 1] [])=some (.ret (.u32 (rQ x 1)) []):=Ii x 1 1 zac zaG
theorem A2d:Y E0 (.call 279 [.u32 x,.i 5] [])=some (.ret (.u32 (rQ x 5)) []):=Ii x 5 5 zac zaG
theorem zk:Y E0 (.call 279 [.u32 x,.i 30] [])=some (.ret (.u32 (rQ x 30)) []):=Ii x 30 30 zac zaG
theorem KC(k:UInt64)(s:Nat)(h0:0<s/\s<32)(hk:k.toNat=s):Y E0 (.call 58 [.u32 x,.u64 k] [])=some (.ret (.u32 (OD x s)) []):=by
 refine BM ?_
 exact congrArg (fun q=>some (Rsp.ret (.u32 q) [])) (A4f x s h0 hk)
theorem A4v:Y E0 (.call 58 [.u32 x,.u64 (UInt64.ofNat 7)] [])=some (.ret (.u32 (OD x 7)) []):=KC x _ 7 zac rfl
theorem A2e:Y E0 (.call 58 [.u32 x,.u64 (UInt64.ofNat 18)] [])=some (.ret (.u32 (OD x 18)) []):=KC x _ 18 zac rfl
theorem A2f:Y E0 (.call 58 [.u32 x,.u64 (UInt64.ofNat 17)] [])=some (.ret (.u32 (OD x 17)) []):=KC x _ 17 zac rfl
theorem A2g:Y E0 (.call 58 [.u32 x,.u64 (UInt64.ofNat 19)] [])=some (.ret (.u32 (OD x 19)) []):=KC x _ 19 zac rfl
theorem A4w:Y E0 (.call 58 [.u32 x,.u64 (UInt64.ofNat 6)] [])=some (.ret (.u32 (OD x 6)) []):=KC x _ 6 zac rfl
theorem A2h:Y E0 (.call 58 [.u32 x,.u64 (UInt64.ofNat 11)] [])=some (.ret (.u32 (OD x 11)) []):=KC x _ 11 zac rfl
theorem A2i:Y E0 (.call 58 [.u32 x,.u64 (UInt64.ofNat 25)] [])=some (.ret (.u32 (OD x 25)) []):=KC x _ 25 zac rfl
theorem A4x:Y E0 (.call 58 [.u32 x,.u64 (UInt64.ofNat 2)] [])=some (.ret (.u32 (OD x 2)) []):=KC x _ 2 zac rfl
theorem A2j:Y E0 (.call 58 [.u32 x,.u64 (UInt64.ofNat 13)] [])=some (.ret (.u32 (OD x 13)) []):=KC x _ 13 zac rfl
theorem A2k:Y E0 (.call 58 [.u32 x,.u64 (UInt64.ofNat 22)] [])=some (.ret (.u32 (OD x 22)) []):=KC x _ 22 zac rfl
theorem oW(i:Nat)(h:4*i+3<l.length)(hl:l.length<=4294967296):Y E0 (.call 278 [.sl .u8 l,.i (i:Int)] [])=some (.ret (.u32 (be32 l (4*i))) []):=by
 refine BM ?_
 rw[DZ zaa]
 conv=>lhs;whnf
 refine BM ?_
 rw[DZ zaa]
 conv=>lhs;whnf
 refine BM ?_
 rw[DZ zaa]
 conv=>lhs;whnf
 refine BM ?_
 rw[DZ zaa]
 conv=>lhs;whnf
 refine BM ?_
 exact congrArg (fun q=>some (Rsp.ret (.u32 q) [])) (oN l (4*i) (List.getElem?_eq_some_iff.2 ⟨by omega,getElem_congr_idx zaa⟩) (List.getElem?_eq_some_iff.2 ⟨by omega,getElem_congr_idx zaa⟩) (List.getElem?_eq_some_iff.2 ⟨by omega,getElem_congr_idx zaa⟩) (List.getElem?_eq_some_iff.2 ⟨by omega,getElem_congr_idx zaa⟩))
theorem zl(i:Nat)(h:4*i+3<l.length)(hl:l.length<=4294967296):Y E0 (.call 57 [.sl .u8 l,.i (i:Int)] [])=some (.ret (.u32 (be32 l (4*i))) []):=by
 refine BM ?_
 rw[DZ zaa]
 conv=>lhs;whnf
 refine BM ?_
 rw[DZ zaa]
 conv=>lhs;whnf
 refine BM ?_
 rw[DZ zaa]
 conv=>lhs;whnf
 refine BM ?_
 rw[DZ zaa]
 conv=>lhs;whnf
 refine BM ?_
 exact congrArg (fun q=>some (Rsp.ret (.u32 q) [])) (oN l (4*i) (List.getElem?_eq_some_iff.2 ⟨by omega,getElem_congr_idx zaa⟩) (List.getElem?_eq_some_iff.2 ⟨by omega,getElem_congr_idx zaa⟩) (List.getElem?_eq_some_iff.2 ⟨by omega,getElem_congr_idx zaa⟩) (List.getElem?_eq_some_iff.2 ⟨by omega,getElem_congr_idx zaa⟩))
theorem zn:Y E0 (.call 55 [] [])=some (.ret (.agg ((List.range 64).map fun i=>AV.u32 (J8.getD i 0))) []):=by
 rw[AU];kernel_rfl
end
section
attribute [local irreducible] Bl CS CU CJ Bh Ak CV Du EN E5 EH Be BN CE Bz and' CG CO BC Ag Ar BF BG AY Aa AP AX CW Dv CX DT C9 BJ BD BA BB Au AQ Az Ac Aw Ah CY BL Bi BR BI CB CZ CP fits Cb CQ A8 AA AZ
attribute [local irreducible] FP
theorem WR{ws s:List UInt32}{t:Nat}{x:UInt32}(h:ws.take t=s)(ht:t<ws.length):(ws.set t x).take (t+1)=s++[x]:=by
 subst h
 rw[List.take_succ_eq_append_getElem (by simpa using ht),List.getElem_set_self,List.take_set_of_le (Nat.le_refl t)]
theorem MI{ws s:List UInt32}{t j:Nat}(h:ws.take t=s)(hj:j<t):s.getD j 0=ws.getD j 0:=by
 subst h
 simp only[List.getD,List.getElem?_take,if_pos hj]
theorem A3r(t:Nat)(hs:ws.take t=EW b t)(h:16<=t):
  Ag .add (Ag .add (Ag .add (Ag .xor (Ag .xor (OD (ws.getD (0+((t:Int)-2).toNat*1) 0) 17) (OD (ws.getD (0+((t:Int)-2).toNat*1) 0) 19)) (AP (ws.getD (0+((t:Int)-2).toNat*1) 0) (UInt64.ofNat 10).toNat)) (ws.getD (0+((t:Int)-7).toNat*1) 0)) (Ag .xor (Ag .xor (OD (ws.getD (0+((t:Int)-15).toNat*1) 0) 7) (OD (ws.getD (0+((t:Int)-15).toNat*1) 0) 18)) (AP (ws.getD (0+((t:Int)-15).toNat*1) 0) (UInt64.ofNat 3).toNat))) (ws.getD (0+((t:Int)-16).toNat*1) 0)=Nh b (EW b t) t:=by
 rw[show 0+((t:Int)-2).toNat*1=t-2 from by omega,show 0+((t:Int)-7).toNat*1=t-7 from by omega,show 0+((t:Int)-15).toNat*1=t-15 from by omega,show 0+((t:Int)-16).toNat*1=t-16 from by omega]
 rw[Nh,if_neg zaa,MI hs (show t-2<t by omega),MI hs (show t-7<t by omega),MI hs (show t-15<t by omega),MI hs (show t-16<t by omega)]
 rw[Ha zac,Ha zac]
 simp only[Ju,JM]
 rfl
theorem oZ(b:List UInt8)(h0 h1 h2 h3 h4 h5 h6 h7:UInt32)(hb:b.length=64):∀(k t:Nat) (ws:List UInt32),t+k=64->ws.length=64->ws.take t=EW b t ->
  Y E0 (.loop 215 0 1 2 [(0,AV.pa 0 0),(1,AV.sl Ty.u8 b),(4,AV.pa 1 0),(17,AV.i t)] [(0,some (.var [.u32 h0,.u32 h1,.u32 h2,.u32 h3,.u32 h4,.u32 h5,.u32 h6,.u32 h7])),(1,some (Rs.var (FP ws)))])=some (.fin (.exit 0) 2 [(0,AV.pa 0 0),(4,AV.pa 1 0)] [(0,some (.var [.u32 h0,.u32 h1,.u32 h2,.u32 h3,.u32 h4,.u32 h5,.u32 h6,.u32 h7])),(1,some (Rs.var (FP (EW b 64))))])
 | 0,t,ws,hk,hw,hs=>by
  have e:ws=EW b 64:=zaV
  rw[<-e]
  rw[AU];conv=>lhs;whnf
  rw[zD hw (show 64<=t by omega)]
  refine BM ?_
  rfl
 | k+1,t,ws,hk,hw,hs=>by
  have ih:=fun x (hx:x=Nh b (EW b t) t)=>oZ b h0 h1 h2 h3 h4 h5 h6 h7 hb k (t+1) (ws.set t x) zaa (by simpa using hw) (by rw[WR hs zaa,hx];rfl)
  rw[AU];conv=>lhs;whnf
  refine BM ?_
  rcases DU (↑t) 16 with hc0|hc0
  ·
   refine BM ?_
   rw[oW _ _ Bq Bq]
   conv=>lhs;whnf
   try dsimp -iota -beta -eta -zeta only
   rw[Fh zaa]
   conv=>lhs;whnf
   rw[Dn zaa]
   conv=>lhs;whnf
   try dsimp -iota -beta -eta -zeta only
   rw[LK zaa];conv=>lhs;whnf
   rw[NR zaa]
   refine BM ?_
   rw[KW hw]
   refine BM ?_
   rw[show((t:Int)+1)=((t+1:Nat):Int) from by omega,show 0+((t:Nat):Int).toNat*1=t from by omega];refine(congrArg (Y E0) ?_).trans (ih (be32 b (4*t)) (by rw[Nh,if_pos zaa]));rw[KW hw];rfl
  refine BM ?_
  rw[Dp zaa]
  refine BM ?_
  rw[Dp zaa]
  refine BM ?_
  rw[A2Z _]
  refine BM ?_
  rw[zX _]
  refine BM ?_
  rw[zY _]
  refine BM ?_
  rw[zZ _]
  refine BM ?_
  rw[Dp zaa]
  refine BM ?_
  rw[Dp zaa]
  conv=>lhs;whnf
  try dsimp -iota -beta -eta -zeta only
  rw[Fh zaa]
  conv=>lhs;whnf
  rw[Dn zaa]
  conv=>lhs;whnf
  try dsimp -iota -beta -eta -zeta only
  rw[LK zaa];conv=>lhs;whnf
  rw[NR zaa]
  conv=>lhs;whnf
  try dsimp -iota -beta -eta -zeta only
  rw[KW hw]
  refine BM ?_
  rw[show((t:Int)+1)=((t+1:Nat):Int) from by omega,show 0+((t:Nat):Int).toNat*1=t from by omega];refine(congrArg (Y E0) ?_).trans (ih _ (A3r b ws t hs zaa));rw[KW hw];rfl
theorem zo(h0 h1 h2 h3 h4 h5 h6 h7:UInt32)(hb:b.length=64):Y E0 (.loop 215 0 1 2 [(0,AV.pa 0 0),(1,AV.sl Ty.u8 b),(4,AV.pa 1 0),(17,AV.i 0)] [(0,some (.var [.u32 h0,.u32 h1,.u32 h2,.u32 h3,.u32 h4,.u32 h5,.u32 h6,.u32 h7])),(1,some (Rs.var [.u32 0,.u32 0,.u32 0,.u32 0,.u32 0,.u32 0,.u32 0,.u32 0,.u32 0,.u32 0,.u32 0,.u32 0,.u32 0,.u32 0,.u32 0,.u32 0,.u32 0,.u32 0,.u32 0,.u32 0,.u32 0,.u32 0,.u32 0,.u32 0,.u32 0,.u32 0,.u32 0,.u32 0,.u32 0,.u32 0,.u32 0,.u32 0,.u32 0,.u32 0,.u32 0,.u32 0,.u32 0,.u32 0,.u32 0,.u32 0,.u32 0,.u32 0,.u32 0,.u32 0,.u32 0,.u32 0,.u32 0,.u32 0,.u32 0,.u32 0,.u32 0,.u32 0,.u32 0,.u32 0,.u32 0,.u32 0,.u32 0,.u32 0,.u32 0,.u32 0,.u32 0,.u32 0,.u32 0,.u32 0]))])=some (.fin (.exit 0) 2 [(0,AV.pa 0 0),(4,AV.pa 1 0)] [(0,some (.var [.u32 h0,.u32 h1,.u32 h2,.u32 h3,.u32 h4,.u32 h5,.u32 h6,.u32 h7])),(1,some (Rs.var (FP (EW b 64))))]):=by
 have e:=oZ b h0 h1 h2 h3 h4 h5 h6 h7 hb 64 0 (List.replicate 64 0) rfl rfl rfl
 rw[DV (ws:=List.replicate 64 0) (n:=64) rfl] at e
 exact e
end
section
attribute [local irreducible] Bl CS CU CJ Bh Ak CV Du EN E5 EH Be BN CE Bz and' CG CO BC Ag Ar BF BG AY Aa AP AX CW Dv CX DT C9 BJ BD BA BB Au AQ Az Ac Aw Ah CY BL Bi BR BI CB CZ CP fits Cb CQ A8 AA AZ
attribute [local irreducible] FP
theorem XB(t:Nat)(hs:ws.take t=N9 b t)(h:16<=t):
  rQ (Ag .xor (Ag .xor (Ag .xor (ws.getD (0+((t:Int)-3).toNat*1) 0) (ws.getD (0+((t:Int)-8).toNat*1) 0)) (ws.getD (0+((t:Int)-14).toNat*1) 0)) (ws.getD (0+((t:Int)-16).toNat*1) 0)) 1=aW b (N9 b t) t:=by
 rw[show 0+((t:Int)-3).toNat*1=t-3 from by omega,show 0+((t:Int)-8).toNat*1=t-8 from by omega,show 0+((t:Int)-14).toNat*1=t-14 from by omega,show 0+((t:Int)-16).toNat*1=t-16 from by omega]
 rw[aW,if_neg zaa,MI hs (show t-3<t by omega),MI hs (show t-8<t by omega),MI hs (show t-14<t by omega),MI hs (show t-16<t by omega)]
 simp only[JM]
theorem A3s(b:List UInt8)(h0 h1 h2 h3 h4:UInt32)(hb:b.length=64):∀(k t:Nat) (ws:List UInt32),t+k=80->ws.length=80->ws.take t=N9 b t ->
  Y E0 (.loop 213 0 1 2 [(0,AV.pa 0 0),(1,AV.sl Ty.u8 b),(4,AV.pa 1 0),(14,AV.i t)] [(0,some (.var [.u32 h0,.u32 h1,.u32 h2,.u32 h3,.u32 h4])),(1,some (Rs.var (FP ws)))])=some (.fin (.exit 0) 2 [(0,AV.pa 0 0),(4,AV.pa 1 0)] [(0,some (.var [.u32 h0,.u32 h1,.u32 h2,.u32 h3,.u32 h4])),(1,some (Rs.var (FP (N9 b 80))))])
 | 0,t,ws,hk,hw,hs=>by
  have e:ws=N9 b 80:=by rw[<-show t=80 from by omega,<-hs,List.take_of_length_le zaa]
  rw[<-e]
  rw[AU];conv=>lhs;whnf
  rw[zD hw (show 80<=t by omega)]
  refine BM ?_
  rfl
 | k+1,t,ws,hk,hw,hs=>by
  have ih:=fun x (hx:x=aW b (N9 b t) t)=>A3s b h0 h1 h2 h3 h4 hb k (t+1) (ws.set t x) zaa (by simpa using hw) (by rw[WR hs zaa,hx];rfl)
  rw[AU];conv=>lhs;whnf
  refine BM ?_
  rcases DU (↑t) 16 with hc0|hc0
  ·
   refine BM ?_
   rw[oW _ _ Bq Bq]
   conv=>lhs;whnf
   try dsimp -iota -beta -eta -zeta only
   rw[Fh zaa]
   conv=>lhs;whnf
   rw[Dn zaa]
   conv=>lhs;whnf
   try dsimp -iota -beta -eta -zeta only
   rw[LK zaa];conv=>lhs;whnf
   rw[NR zaa]
   refine BM ?_
   rw[KW hw]
   refine BM ?_
   rw[show((t:Int)+1)=((t+1:Nat):Int) from by omega,show 0+((t:Nat):Int).toNat*1=t from by omega];refine(congrArg (Y E0) ?_).trans (ih (be32 b (4*t)) (by rw[aW,if_pos zaa]));rw[KW hw];rfl
  refine BM ?_
  rw[Dp zaa]
  refine BM ?_
  rw[Dp zaa]
  refine BM ?_
  rw[Dp zaa]
  refine BM ?_
  rw[Dp zaa]
  refine BM ?_
  rw[A2c _]
  conv=>lhs;whnf
  try dsimp -iota -beta -eta -zeta only
  rw[Fh zaa]
  conv=>lhs;whnf
  rw[Dn zaa]
  conv=>lhs;whnf
  try dsimp -iota -beta -eta -zeta only
  rw[LK zaa];conv=>lhs;whnf
  rw[NR zaa]
  conv=>lhs;whnf
  try dsimp -iota -beta -eta -zeta only
  rw[KW hw]
  refine BM ?_
  rw[show((t:Int)+1)=((t+1:Nat):Int) from by omega,show 0+((t:Nat):Int).toNat*1=t from by omega];refine(congrArg (Y E0) ?_).trans (ih _ (XB b ws t hs zaa));rw[KW hw];rfl
theorem A4y(h0 h1 h2 h3 h4:UInt32)(hb:b.length=64):Y E0 (.loop 213 0 1 2 [(0,AV.pa 0 0),(1,AV.sl Ty.u8 b),(4,AV.pa 1 0),(14,AV.i 0)] [(0,some (.var [.u32 h0,.u32 h1,.u32 h2,.u32 h3,.u32 h4])),(1,some (Rs.var (List.replicate 80 (.u32 0))))])=some (.fin (.exit 0) 2 [(0,AV.pa 0 0),(4,AV.pa 1 0)] [(0,some (.var [.u32 h0,.u32 h1,.u32 h2,.u32 h3,.u32 h4])),(1,some (Rs.var (FP (N9 b 80))))]):=by
 have e:=A3s b h0 h1 h2 h3 h4 hb 80 0 (List.replicate 80 0) rfl rfl rfl
 rw[DV (ws:=List.replicate 80 0) (n:=80) rfl] at e
 exact e
end
section
attribute [local irreducible] Bl CS CU CJ Bh Ak CV Du EN E5 EH Be BN CE Bz and' CG CO BC Ag Ar BF BG AY Aa AP AX CW Dv CX DT C9 BJ BD BA BB Au AQ Az Ac Aw Ah CY BL Bi BR BI CB CZ CP fits Cb CQ A8 AA AZ
attribute [local irreducible] wb Hu
theorem Ud(ws:List UInt32)(h:ws.length<=1000):∀(k j:Nat) (acc:List UInt8),j+k=ws.length->acc.length<=4*j->Y E0 (.loop 214 0 0 1 [(3,.nm 0),(10,.sl .u32 ws),(11,.i (Aw ws)),(12,.i j)] [(0,some (.row 5 .u8 acc))])=some (.fin (.exit 0) 0 [(3,.sl .u8 (acc++Hu (ws.drop j)))] [])
 | 0,j,acc,hj,ha=>by
  rw[AU];conv=>lhs;whnf
  refine BM ?_
  rw[List.drop_of_length_le zaa];unfold Hu;simp
 | k+1,j,acc,hj,ha=>by
  have ih:=Ud ws h k (j+1) (BI acc (wb (ws.getD j 0))) zaa (by rw[Ap,List.length_append];unfold wb;simp;omega)
  rw[AU];conv=>lhs;whnf
  refine toA ?_
  rw[Ou zaa]
  refine BM ?_
  refine(congrArg (Y E0) zaT).trans (ih.trans (by rw[Rz (j:=j) zaa,Ap,List.append_assoc]))
theorem YD(h:ws.length<=1000)(h0:0<ws.length):Y E0 (.call 214 [.sl .u32 ws] [])=some (.ret (.sl .u8 (Hu ws)) []):=by
 have e:=Ud ws h ws.length 0 [] zaa zan
 refine BM ?_
 (erw[e])
 refine BM ?_
 rfl
theorem WT(ws:List UInt32)(h:ws.length<=1000):∀(k j:Nat) (acc:List UInt8),j+k=ws.length->acc.length<=4*j->Y E0 (.loop 59 0 0 1 [(0,.sl .u32 ws),(3,.nm 0),(4,.i j)] [(0,some (.row 5 .u8 acc))])=some (.fin (.exit 0) 0 [(3,.sl .u8 (acc++Hu (ws.drop j)))] [])
 | 0,j,acc,hj,ha=>by
  rw[AU];conv=>lhs;whnf
  refine BM ?_
  rw[List.drop_of_length_le zaa];unfold Hu;simp
 | k+1,j,acc,hj,ha=>by
  have ih:=WT ws h k (j+1) (BI acc (wb (ws.getD j 0))) zaa (by rw[Ap,List.length_append];unfold wb;simp;omega)
  rw[AU];conv=>lhs;whnf
  refine toA ?_
  rw[Ou zaa]
  refine toA ?_
  rw[Ou zaa]
  refine toA ?_
  rw[Ou zaa]
  refine toA ?_
  rw[Ou zaa]
  refine BM ?_
  refine(congrArg (Y E0) zaT).trans (ih.trans (by rw[Rz (j:=j) zaa,Ap,List.append_assoc]))
theorem zu(h:ws.length<=1000):Y E0 (.call 59 [.sl .u32 ws] [])=some (.ret (.sl .u8 (Hu ws)) []):=by
 have e:=WT ws h ws.length 0 [] zaa zan
 refine BM ?_
 (erw[e])
 refine BM ?_
 rfl
end
section
attribute [local irreducible] Bl CS CU CJ Bh Ak CV Du EN E5 EH Be BN CE Bz and' CG CO BC Ag Ar BF BG AY Aa AP AX CW Dv CX DT C9 BJ BD BA BB Au AQ Az Ac Aw Ah CY BL Bi BR BI CB CZ CP fits Cb CQ A8 AA AZ
theorem eF(l:List UInt8):∀(k:Nat) (x:List UInt8),k<64->(x.length+k)%64=56->x.length+k<=8589934592->Y E0 (.loop 212 0 0 1 [(0,.sl .u8 l),(3,.nm 0)] [(0,some (.row 5 .u8 x))])=some (.fin (.exit 0) 1 [(0,.sl .u8 l),(3,.nm 0)] [(0,some (.row 5 .u8 (x++List.replicate k 0)))])
 | 0,x,h,hm,hx=>by
  rw[AU];conv=>lhs;whnf
  refine BM ?_
  simp
 | k+1,x,h,hm,hx=>by
  have ih:=eF l k (BI x [UInt8.ofNat 0]) zaa (by rw[Ap,List.length_append,<-hm];simp;omega) (by rw[Ap,List.length_append];simp;omega)
  rw[AU];conv=>lhs;whnf
  refine BM ?_
  exact ih.trans (by rw[Ap,List.append_assoc];rfl)
theorem zy(x:List UInt8)(n:UInt64)(hx:x.length<=8589934592):Y E0 (.loop 212 1 0 1 [(3,.nm 0),(4,.u64 n),(5,.i 56)] [(0,some (.row 5 .u8 x))])=some (.fin (.exit 2) 0 [(3,.sl .u8 (x++A1j n))] []):=by
 refine BM ?_
 refine BM ?_
 refine BM ?_
 refine BM ?_
 refine BM ?_
 refine BM ?_
 refine BM ?_
 refine BM ?_
 refine BM ?_
 rw[dw n _ 56 zaa,dw n _ 48 zaa,dw n _ 40 zaa,dw n _ 32 zaa,dw n _ 24 zaa,dw n _ 16 zaa,dw n _ 8 zaa,dw n _ 0 zaa];simp only[Ap,List.append_assoc];rfl
theorem A00(h:l.length<=4294967296):Y E0 (.call 212 [.sl .u8 l] [])=some (.ret (.sl .u8 (OL l)) []):=by
 have e:=eF l (zerosN l.length) (BI (BI [] l) [UInt8.ofNat 128]) (by unfold zerosN;omega) zaD zaD
 have f:=fun n=>zy (BI (BI [] l) [UInt8.ofNat 128]++List.replicate (zerosN l.length) 0) n zaD
 refine BM ?_
 rw[e]
 refine BM ?_
 (rw[f])
 refine BM ?_
 simp only[Ap,AC,zx,OL];rfl
theorem YE(l:List UInt8):∀(k:Nat) (x:List UInt8),k<64->(x.length+k)%64=56->x.length+k<=8589934592->Y E0 (.loop 56 0 0 1 [(0,.sl .u8 l),(3,.nm 0)] [(0,some (.row 5 .u8 x))])=some (.fin (.exit 0) 1 [(0,.sl .u8 l),(3,.nm 0)] [(0,some (.row 5 .u8 (x++List.replicate k 0)))])
 | 0,x,h,hm,hx=>by
  rw[AU];conv=>lhs;whnf
  refine BM ?_
  simp
 | k+1,x,h,hm,hx=>by
  have ih:=YE l k (BI x [UInt8.ofNat 0]) zaa (by rw[Ap,List.length_append,<-hm];simp;omega) (by rw[Ap,List.length_append];simp;omega)
  rw[AU];conv=>lhs;whnf
  refine BM ?_
  exact ih.trans (by rw[Ap,List.append_assoc];rfl)
theorem uI(x:List UInt8)(n:UInt64)(hx:x.length<=8589934592):Y E0 (.loop 56 1 0 1 [(3,.nm 0),(4,.u64 n),(5,.i 7)] [(0,some (.row 5 .u8 x))])=some (.fin (.exit 2) 0 [(3,.sl .u8 (x++A1j n))] []):=by
 refine BM ?_
 refine BM ?_
 refine BM ?_
 refine BM ?_
 refine BM ?_
 refine BM ?_
 refine BM ?_
 refine BM ?_
 refine BM ?_
 rw[Ue n _ 56 zaX zac,Ue n _ 48 zaX zac,Ue n _ 40 zaX zac,Ue n _ 32 zaX zac,Ue n _ 24 zaX zac,Ue n _ 16 zaX zac,Ue n _ 8 zaX zac,Ue n _ 0 zaX zac];simp only[Ap,List.append_assoc];rfl
theorem A2p(h:l.length<=4294967296):Y E0 (.call 56 [.sl .u8 l] [])=some (.ret (.sl .u8 (OL l)) []):=by
 have e:=YE l (zerosN l.length) (BI (BI [] l) [UInt8.ofNat 128]) (by unfold zerosN;omega) zaD zaD
 have f:=fun n=>uI (BI (BI [] l) [UInt8.ofNat 128]++List.replicate (zerosN l.length) 0) n zaD
 refine BM ?_
 rw[e]
 refine BM ?_
 (rw[f])
 refine BM ?_
 simp only[Ap,AC,zx,OL];rfl
end
end Go.Proofs.YtanagnimhaemgaaGreatDoor
