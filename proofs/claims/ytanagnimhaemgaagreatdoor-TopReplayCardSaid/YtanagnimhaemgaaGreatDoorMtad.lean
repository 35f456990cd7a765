/-
  Own texts, laid together for this claim: contracts of functions of the program and its references, used by the statements of this seat.
-/
import Derived.Test.YtanagnimhaemgaaGreatDoorProg
import Derived.JoinedCond
import Derived.Test.YtanagnimhaemgaaGreatDoorMtaa
import Derived.Test.YtanagnimhaemgaaGreatDoorMtab
import Derived.Test.YtanagnimhaemgaaGreatDoorMtac
set_option linter.all false
set_option maxHeartbeats 40000000
set_option maxRecDepth 100000
namespace Go.Ax
open Go Go.Eng
theorem wb_eq(x:UInt32):[Aj (AP x 24),Aj (AP x 16),Aj (AP x 8),Aj x]=wb x:=by
 rw[u32shr_eq zh,u32shr_eq zh,u32shr_eq zh];simp only[Yh];rfl
theorem spreadB_drop{ws:List UInt32}{j:Nat}(h:j<ws.length):Jw (ws.drop j)=wb (ws.getD j 0)++Jw (ws.drop (j+1)):=by
 rw[List.drop_eq_getElem_cons h];simp only[Jw,List.flatMap_cons,List.getD,List.getElem?_eq_getElem h,Option.getD_some]
theorem u32get{ws:List UInt32}{j:Nat}(h:j<ws.length):BA ws (j:Int)=some (ws.getD j 0):=by
 rw[lget_i ⟨by omega,by omega⟩];simp[List.getD,h]
theorem sh64(n:UInt64)(i:Int)(c:Nat)(h:(c:Int)=i/\c<64):Ai (AL n (Bf i).toNat)=(n>>>UInt64.ofNat c).toUInt8:=by
 obtain⟨rfl,h⟩:=h
 rw[u64u8_eq,iu64_eq,u64_ofInt zf,u64shr_eq zf];rfl
theorem sh64k(n m:UInt64)(c:Nat)(h:m.toNat=c)(hc:c<64):Ai (AL n m.toNat)=(n>>>UInt64.ofNat c).toUInt8:=by
 subst h;rw[u64u8_eq,u64shr_eq hc]
theorem bitlen(l:List UInt8):Ad .mul (Bf (l.length:Int)) (UInt64.ofNat 8)=UInt64.ofInt (l.length:Int)*8:=by rw[Tt,iu64_eq];rfl
end Go.Ax
namespace Go.Proofs.YtanagnimhaemgaaGreatDoor
open Go Go.RowKit Go.Eng Go.Ax
noncomputable def E0:Env:=⟨dh,FT0,CT0,kU,[180,263]⟩
theorem e0:EnvOK Tryz.prog I0 E0:=⟨kP,kL,ct0.get,by kernel_rfl,dN⟩
theorem Y_ov{f:Nat}{args:List AV}{H:List Rs}{r:Rsp}(h:E0.ov (.call f args H)=some r):Y E0 (.call f args H)=some r:=by
 rw[Y.eq_1];simp only[Ak];rw[h]
theorem ev_clo(l:List (El objT))(hl:l.length<=4294967296):Y E0 (.call 224 [.sl objT l] [])=some (.ret (.nm 0) [some (.row 99 objT l)]) :=
 Y_ov (by show(bif fits l 32768 then _ else _)=_;rw[show fits l 32768=true from Ls zf];rfl)
end Go.Proofs.YtanagnimhaemgaaGreatDoor
namespace Go.Proofs.YtanagnimhaemgaaGreatDoor
open Go
variable (P:Program)(X:List (List Char))
def iniH:List Char:=([104,97,114,110,101,115,115]:List Nat).map Char.ofNat
def iniS:List Char:=([50,54,97,57,97,97,53,101,57,97,57,101,101,97,53,52,97,101,57,48,54,57,56,101,102,49,51,51,54,101,54,51,52,57,101,53,57,102,54,53,49,50,50,57,99,97,52,54,50,56,102,55,51,102,56,50,101,98,52,99,55,100,101,49]:List Nat).map Char.ofNat
def iniC:List Char:=([99,117,116]:List Nat).map Char.ofNat
def iniR:List Char:=([97,116,32,115,101,97,108,119,114,105,103,104,116,47,115,101,97,108,119,114,105,103,104,116,116,111,112,46,84,111,112,76,111,99,107,111,117,116,32,115,101,97,108,119,114,105,103,104,116,47,115,101,97,108,119,114,105,103,104,116,116,111,112,46,84,111,112,82,101,112,108,97,121,32,115,101,97,108,119,114,105,103,104,116,47,115,101,97,108,119,114,105,103,104,116,116,111,112,46,84,111,112,81,117,111,116,101,115,32,115,101,97,108,119,114,105,103,104,116,47,115,101,97,108,119,114,105,103,104,116,116,111,112,46,84,111,112,67,108,101,97,114]:List Nat).map Char.ofNat
def iniB:Char:=Char.ofNat 32
def iniL:List Char:=iniH++iniB::(iniS++iniB::(iniC++iniB::iniR))
theorem kV:Tryz.prog.initOrder=String.ofList iniL:=zi
theorem JY:∀(w r:List Char),(w.all fun c=>c != iniB)=true->wordsSigns (w++iniB::r)=w::wordsSigns r
 | [],r,_=>rfl
 | c::w,r,h=>by
  rw[List.all_cons,Bool.and_eq_true] at h
  have ih:=JY w r h.2
  rw[List.cons_append]
  have hc:c≠iniB:=by intro e;rw[e] at h;exact absurd h.1 zh
  generalize wordsSigns r=g at ih ⊢
  unfold wordsSigns
  split
  ·rename_i h1;cases h1
  ·rename_i h1;cases h1;exact absurd rfl hc
  ·rename_i h1;cases h1;rw[ih]
theorem gU:wordsSigns Tryz.prog.initOrder.toList=iniH::iniS::iniC::wordsSigns iniR:=by
 rw[kV,String.toList_ofList,iniL,JY _ _ zo,JY _ _ zo,JY _ _ zo]
theorem tl{s:String}(l:List Char)(h:s=String.ofList l):s.toList=l:=by rw[h];exact String.toList_ofList
theorem dO: "gc".toList=(([103,99]:List Nat).map Char.ofNat):=tl _ zi
theorem Xr: "spec".toList=(([115,112,101,99]:List Nat).map Char.ofNat):=tl _ zi
theorem Xt: "carried".toList=(([99,97,114,114,105,101,100]:List Nat).map Char.ofNat):=tl _ zi
theorem tlCut: "cut".toList=iniC:=tl _ zi
theorem Zx: "harness".toList=iniH:=tl _ zi
theorem gV: "finals".toList=(([102,105,110,97,108,115]:List Nat).map Char.ofNat):=tl _ zi
theorem kW: "reflectrows".toList=(([114,101,102,108,101,99,116,114,111,119,115]:List Nat).map Char.ofNat):=tl _ zi
theorem kX: "leanrows".toList=(([108,101,97,110,114,111,119,115]:List Nat).map Char.ofNat):=tl _ zi
theorem kY: "onebuild".toList=(([111,110,101,98,117,105,108,100]:List Nat).map Char.ofNat):=tl _ zi
theorem kZ: "publicsums".toList=(([112,117,98,108,105,99,115,117,109,115]:List Nat).map Char.ofNat):=tl _ zi
theorem kw: "eqguard".toList=(([101,113,103,117,97,114,100]:List Nat).map Char.ofNat):=tl _ zi
theorem kz: "ownunsafe".toList=(([111,119,110,117,110,115,97,102,101]:List Nat).map Char.ofNat):=tl _ zi
theorem l7: "libbeside".toList=(([108,105,98,98,101,115,105,100,101]:List Nat).map Char.ofNat):=tl _ zi
theorem l9: "ownbeside".toList=(([111,119,110,98,101,115,105,100,101]:List Nat).map Char.ofNat):=tl _ zi
theorem lC: "reflbeside".toList=(([114,101,102,108,98,101,115,105,100,101]:List Nat).map Char.ofNat):=tl _ zi
theorem gW: "aliases".toList=(([97,108,105,97,115,101,115]:List Nat).map Char.ofNat):=tl _ zi
theorem gX: "afterinit".toList=(([97,102,116,101,114,105,110,105,116]:List Nat).map Char.ofNat):=tl _ zi
theorem gY: "crcplain".toList=(([99,114,99,112,108,97,105,110]:List Nat).map Char.ofNat):=tl _ zi
theorem gZ: "roadunsafe".toList=(([114,111,97,100,117,110,115,97,102,101]:List Nat).map Char.ofNat):=tl _ zi
theorem gm: "fmthandon".toList=(([102,109,116,104,97,110,100,111,110]:List Nat).map Char.ofNat):=tl _ zi
theorem Dy(o:String)(os:List String)(l w:List Char)(ws:List (List Char))(h:o.toList=l)(hw:(w==l)=false):stripLifts (o::os) (w::ws)=stripLifts os (w::ws):=by
 rw[stripLifts,h,hw,if_neg zh]
theorem Zy:stripLifts liftWords (iniC::X)=([],iniC::X):=by
 unfold liftWords
 rw[Dy _ _ _ _ _ gV zo]
 rw[Dy _ _ _ _ _ kW zo]
 rw[Dy _ _ _ _ _ kX zo]
 rw[Dy _ _ _ _ _ kY zo]
 rw[Dy _ _ _ _ _ kZ zo]
 rw[Dy _ _ _ _ _ kw zo]
 rw[Dy _ _ _ _ _ kz zo]
 rw[Dy _ _ _ _ _ l7 zo]
 rw[Dy _ _ _ _ _ l9 zo]
 rw[Dy _ _ _ _ _ lC zo]
 rw[Dy _ _ _ _ _ gW zo]
 rw[Dy _ _ _ _ _ gX zo]
 rw[Dy _ _ _ _ _ gY zo]
 rw[Dy _ _ _ _ _ gZ zo]
 rw[Dy _ _ _ _ _ gm zo]
 rfl
theorem gq:behindMainWord (iniH::iniS::iniC::X)=iniC::X:=by
 unfold behindMainWord;rw[Zx];kernel_rfl
theorem Xu:behindMainWord (wordsSigns Tryz.prog.initOrder.toList)=iniC::wordsSigns iniR:=by rw[gU,gq]
theorem Zz(h:behindMainWord (wordsSigns P.initOrder.toList)=iniC::X):P.headLifts=[]:=by
 unfold Program.headLifts
 simp only[h,Zy,tlCut]
 rfl
theorem gu(h:behindMainWord (wordsSigns P.initOrder.toList)=iniC::X)(h1:P.laysLater=false)(h2:P.bearsReflect=false)(h3:P.doorFits []=true):P.mayEnter=true:=by
 unfold Program.mayEnter
 simp only[h,Zy,tlCut,dO,Xr,Xt,h1,h2,h3]
 rfl
theorem dP(h:behindMainWord (wordsSigns P.initOrder.toList)=iniC::X):P.make=some .cut:=by
 unfold Program.make
 simp only[h,Zz P X h,tlCut,dO,Xr,Xt,gV]
 rw[if_neg zo,if_pos (by rw[show(iniC==iniC)=true from by decide +kernel];rfl)]
theorem gy(h:behindMainWord (wordsSigns P.initOrder.toList)=iniC::X):P.liftsFinal=false:=by
 unfold Program.liftsFinal
 simp only[h,Zz P X h,tlCut,dO,Xt]
 rfl
theorem gz: "26a9aa5e9a9eea54ae90698ef1336e6349e59f651229ca4628f73f82eb4c7de1".toList=iniS:=tl _ zi
theorem dQ(h:wordsSigns P.initOrder.toList=iniH::iniS::X):P.mainIs=some (true,iniS):=by
 unfold Program.mainIs
 simp only[h,Zx]
 rw[if_neg (by rw[show isSumSigns iniS=true from by decide +kernel];decide),if_pos zo]
theorem lD:Tryz.prog.mainIs=some (true, "26a9aa5e9a9eea54ae90698ef1336e6349e59f651229ca4628f73f82eb4c7de1".toList):=by rw[gz];exact dQ _ _ gU
theorem lF:Tryz.prog.mayEnter=true:=gu _ _ Xu zi zi zi
theorem lG:Tryz.prog.liftsFinal=false:=gy _ _ Xu
theorem lH:Tryz.prog.make=some .cut:=dP _ _ Xu
end Go.Proofs.YtanagnimhaemgaaGreatDoor
namespace Go.Proofs.YtanagnimhaemgaaGreatDoor
open Go Go.Ax Go.Eng
variable (b l:List UInt8)(x:UInt32)(ws:List UInt32)
section
attribute [local irreducible] BL BM BN BO BP BJ BQ CX Cm CY CW Ba Bc BF BC and' BG Bd Aa Ac Ad Ae Af AL AO AP AQ BR D8 BU D5 Be Bf Ag Ah Ai Aj AB AZ AU Ar BA BV BH BB Au Aw BI Bg BX fits BZ BK A7 A8 AC
theorem ev_rotg(k:Int)(s:Nat)(h0:0<s/\s<32)(hk:(Ad .and (Bf k) (UInt64.ofNat 31)).toNat=s):Y E0 (.call 279 [.u32 x,.i k] [])=some (.ret (.u32 (jF x s)) []):=by
 refine tqA ?_
 exact congrArg (fun q=>some (Rsp.ret (.u32 q) [])) (rot_eq x s h0 hk)
theorem ev_ror7:Y E0 (.call 279 [.u32 x,.i (-7)] [])=some (.ret (.u32 (YN x 7)) []):=(ev_rotg x (-7) 25 zh (by rw[ak,Tt];rfl)).trans (by rw[rol_ror x 25 7 rfl])
theorem ev_ror18:Y E0 (.call 279 [.u32 x,.i (-18)] [])=some (.ret (.u32 (YN x 18)) []):=(ev_rotg x (-18) 14 zh (by rw[ak,Tt];rfl)).trans (by rw[rol_ror x 14 18 rfl])
theorem ev_ror17:Y E0 (.call 279 [.u32 x,.i (-17)] [])=some (.ret (.u32 (YN x 17)) []):=(ev_rotg x (-17) 15 zh (by rw[ak,Tt];rfl)).trans (by rw[rol_ror x 15 17 rfl])
theorem ev_ror19:Y E0 (.call 279 [.u32 x,.i (-19)] [])=some (.ret (.u32 (YN x 19)) []):=(ev_rotg x (-19) 13 zh (by rw[ak,Tt];rfl)).trans (by rw[rol_ror x 13 19 rfl])
theorem ev_ror6:Y E0 (.call 279 [.u32 x,.i (-6)] [])=some (.ret (.u32 (YN x 6)) []):=(ev_rotg x (-6) 26 zh (by rw[ak,Tt];rfl)).trans (by rw[rol_ror x 26 6 rfl])
theorem ev_ror11:Y E0 (.call 279 [.u32 x,.i (-11)] [])=some (.ret (.u32 (YN x 11)) []):=(ev_rotg x (-11) 21 zh (by rw[ak,Tt];rfl)).trans (by rw[rol_ror x 21 11 rfl])
theorem ev_ror25:Y E0 (.call 279 [.u32 x,.i (-25)] [])=some (.ret (.u32 (YN x 25)) []):=(ev_rotg x (-25) 7 zh (by rw[ak,Tt];rfl)).trans (by rw[rol_ror x 7 25 rfl])
theorem ev_ror2:Y E0 (.call 279 [.u32 x,.i (-2)] [])=some (.ret (.u32 (YN x 2)) []):=(ev_rotg x (-2) 30 zh (by rw[ak,Tt];rfl)).trans (by rw[rol_ror x 30 2 rfl])
theorem ev_ror13:Y E0 (.call 279 [.u32 x,.i (-13)] [])=some (.ret (.u32 (YN x 13)) []):=(ev_rotg x (-13) 19 zh (by rw[ak,Tt];rfl)).trans (by rw[rol_ror x 19 13 rfl])
theorem ev_ror22:Y E0 (.call 279 [.u32 x,.i (-22)] [])=some (.ret (.u32 (YN x 22)) []):=(ev_rotg x (-22) 10 zh (by rw[ak,Tt];rfl)).trans (by rw[rol_ror x 10 22 rfl])
theorem ev_rol1:Y E0 (.call 279 [.u32 x,.i 1] [])=some (.ret (.u32 (jF x 1)) []):=ev_rotg x 1 1 zh (by rw[ak,Tt];rfl)
theorem ev_rol5:Y E0 (.call 279 [.u32 x,.i 5] [])=some (.ret (.u32 (jF x 5)) []):=ev_rotg x 5 5 zh (by rw[ak,Tt];rfl)
theorem ev_rol30:Y E0 (.call 279 [.u32 x,.i 30] [])=some (.ret (.u32 (jF x 30)) []):=ev_rotg x 30 30 zh (by rw[ak,Tt];rfl)
theorem ev_rotr(k:UInt64)(s:Nat)(h0:0<s/\s<32)(hk:k.toNat=s):Y E0 (.call 58 [.u32 x,.u64 k] [])=some (.ret (.u32 (YN x s)) []):=by
 refine tqA ?_
 exact congrArg (fun q=>some (Rsp.ret (.u32 q) [])) (ror_eq x s h0 hk)
theorem ev_rr7:Y E0 (.call 58 [.u32 x,.u64 (UInt64.ofNat 7)] [])=some (.ret (.u32 (YN x 7)) []):=ev_rotr x _ 7 zh rfl
theorem ev_rr18:Y E0 (.call 58 [.u32 x,.u64 (UInt64.ofNat 18)] [])=some (.ret (.u32 (YN x 18)) []):=ev_rotr x _ 18 zh rfl
theorem ev_rr17:Y E0 (.call 58 [.u32 x,.u64 (UInt64.ofNat 17)] [])=some (.ret (.u32 (YN x 17)) []):=ev_rotr x _ 17 zh rfl
theorem ev_rr19:Y E0 (.call 58 [.u32 x,.u64 (UInt64.ofNat 19)] [])=some (.ret (.u32 (YN x 19)) []):=ev_rotr x _ 19 zh rfl
theorem ev_rr6:Y E0 (.call 58 [.u32 x,.u64 (UInt64.ofNat 6)] [])=some (.ret (.u32 (YN x 6)) []):=ev_rotr x _ 6 zh rfl
theorem ev_rr11:Y E0 (.call 58 [.u32 x,.u64 (UInt64.ofNat 11)] [])=some (.ret (.u32 (YN x 11)) []):=ev_rotr x _ 11 zh rfl
theorem ev_rr25:Y E0 (.call 58 [.u32 x,.u64 (UInt64.ofNat 25)] [])=some (.ret (.u32 (YN x 25)) []):=ev_rotr x _ 25 zh rfl
theorem ev_rr2:Y E0 (.call 58 [.u32 x,.u64 (UInt64.ofNat 2)] [])=some (.ret (.u32 (YN x 2)) []):=ev_rotr x _ 2 zh rfl
theorem ev_rr13:Y E0 (.call 58 [.u32 x,.u64 (UInt64.ofNat 13)] [])=some (.ret (.u32 (YN x 13)) []):=ev_rotr x _ 13 zh rfl
theorem ev_rr22:Y E0 (.call 58 [.u32 x,.u64 (UInt64.ofNat 22)] [])=some (.ret (.u32 (YN x 22)) []):=ev_rotr x _ 22 zh rfl
theorem ev_word(i:Nat)(h:4*i+3<l.length)(hl:l.length<=4294967296):Y E0 (.call 278 [.sl .u8 l,.i (i:Int)] [])=some (.ret (.u32 (be32 l (4*i))) []):=by
 refine tqA ?_
 rw[lget_i zf]
 conv=>lhs;whnf
 refine tqA ?_
 rw[lget_i zf]
 conv=>lhs;whnf
 refine tqA ?_
 rw[lget_i zf]
 conv=>lhs;whnf
 refine tqA ?_
 rw[lget_i zf]
 conv=>lhs;whnf
 refine tqA ?_
 exact congrArg (fun q=>some (Rsp.ret (.u32 q) [])) (be32_eq l (4*i) (List.getElem?_eq_some_iff.2 ⟨by omega,getElem_congr_idx zf⟩) (List.getElem?_eq_some_iff.2 ⟨by omega,getElem_congr_idx zf⟩) (List.getElem?_eq_some_iff.2 ⟨by omega,getElem_congr_idx zf⟩) (List.getElem?_eq_some_iff.2 ⟨by omega,getElem_congr_idx zf⟩))
theorem ev_rword(i:Nat)(h:4*i+3<l.length)(hl:l.length<=4294967296):Y E0 (.call 57 [.sl .u8 l,.i (i:Int)] [])=some (.ret (.u32 (be32 l (4*i))) []):=by
 refine tqA ?_
 rw[lget_i zf]
 conv=>lhs;whnf
 refine tqA ?_
 rw[lget_i zf]
 conv=>lhs;whnf
 refine tqA ?_
 rw[lget_i zf]
 conv=>lhs;whnf
 refine tqA ?_
 rw[lget_i zf]
 conv=>lhs;whnf
 refine tqA ?_
 exact congrArg (fun q=>some (Rsp.ret (.u32 q) [])) (be32_eq l (4*i) (List.getElem?_eq_some_iff.2 ⟨by omega,getElem_congr_idx zf⟩) (List.getElem?_eq_some_iff.2 ⟨by omega,getElem_congr_idx zf⟩) (List.getElem?_eq_some_iff.2 ⟨by omega,getElem_congr_idx zf⟩) (List.getElem?_eq_some_iff.2 ⟨by omega,getElem_congr_idx zf⟩))
theorem ev_const:Y E0 (.call 55 [] [])=some (.ret (.agg ((List.range 64).map fun i=>AV.u32 (MZ.getD i 0))) []):=by
 rw[JB];kernel_rfl
end
section
attribute [local irreducible] BL BM BN BO BP BJ BQ CX Cm CY CW Ba Bc BF BC and' BG Bd Aa Ac Ad Ae Af AL AO AP AQ BR D8 BU D5 Be Bf Ag Ah Ai Aj AB AZ AU Ar BA BV BH BB Au Aw BI Bg BX fits BZ BK A7 A8 AC
attribute [local irreducible] OV
theorem take_put{ws s:List UInt32}{t:Nat}{x:UInt32}(h:ws.take t=s)(ht:t<ws.length):(ws.set t x).take (t+1)=s++[x]:=by
 subst h
 rw[List.take_succ_eq_append_getElem (by simpa using ht),List.getElem_set_self,List.take_set_of_le (Nat.le_refl t)]
theorem take_gt{ws s:List UInt32}{t j:Nat}(h:ws.take t=s)(hj:j<t):s.getD j 0=ws.getD j 0:=by
 subst h
 simp only[List.getD,List.getElem?_take,if_pos hj]
theorem nx256(t:Nat)(hs:ws.take t=Pi b t)(h:16<=t):
  Ac .add (Ac .add (Ac .add (Ac .xor (Ac .xor (YN (ws.getD (0+((t:Int)-2).toNat*1) 0) 17) (YN (ws.getD (0+((t:Int)-2).toNat*1) 0) 19)) (AP (ws.getD (0+((t:Int)-2).toNat*1) 0) (UInt64.ofNat 10).toNat)) (ws.getD (0+((t:Int)-7).toNat*1) 0)) (Ac .xor (Ac .xor (YN (ws.getD (0+((t:Int)-15).toNat*1) 0) 7) (YN (ws.getD (0+((t:Int)-15).toNat*1) 0) 18)) (AP (ws.getD (0+((t:Int)-15).toNat*1) 0) (UInt64.ofNat 3).toNat))) (ws.getD (0+((t:Int)-16).toNat*1) 0)=YW b (Pi b t) t:=by
 rw[show 0+((t:Int)-2).toNat*1=t-2 from by omega,show 0+((t:Int)-7).toNat*1=t-7 from by omega,show 0+((t:Int)-15).toNat*1=t-15 from by omega,show 0+((t:Int)-16).toNat*1=t-16 from by omega]
 rw[YW,if_neg zf,take_gt hs (show t-2<t by omega),take_gt hs (show t-7<t by omega),take_gt hs (show t-15<t by omega),take_gt hs (show t-16<t by omega)]
 rw[u32shr_eq zh,u32shr_eq zh]
 simp only[u32add_eq,u32xor_eq]
 rfl
theorem ev_w256(b:List UInt8)(h0 h1 h2 h3 h4 h5 h6 h7:UInt32)(hb:b.length=64):∀(k t:Nat) (ws:List UInt32),t+k=64->ws.length=64->ws.take t=Pi b t ->
  Y E0 (.loop 215 0 1 2 [(0,AV.pa 0 0),(1,AV.sl Ty.u8 b),(4,AV.pa 1 0),(17,AV.i t)] [(0,some (.var [.u32 h0,.u32 h1,.u32 h2,.u32 h3,.u32 h4,.u32 h5,.u32 h6,.u32 h7])),(1,some (Rs.var (OV ws)))])=some (.fin (.exit 0) 2 [(0,AV.pa 0 0),(4,AV.pa 1 0)] [(0,some (.var [.u32 h0,.u32 h1,.u32 h2,.u32 h3,.u32 h4,.u32 h5,.u32 h6,.u32 h7])),(1,some (Rs.var (OV (Pi b 64))))])
 | 0,t,ws,hk,hw,hs=>by
  have e:ws=Pi b 64:=by rw[<-show t=64 from by omega,<-hs,List.take_of_length_le zf]
  rw[<-e]
  rw[JB];conv=>lhs;whnf
  rw[w32l_x hw (show 64<=t by omega)]
  refine tqA ?_
  rfl
 | k+1,t,ws,hk,hw,hs=>by
  have ih:=fun x (hx:x=YW b (Pi b t) t)=>ev_w256 b h0 h1 h2 h3 h4 h5 h6 h7 hb k (t+1) (ws.set t x) zf (by simpa using hw) (by rw[take_put hs zf,hx];rfl)
  rw[JB];conv=>lhs;whnf
  refine tqA ?_
  rcases ilt_c (↑t) 16 with hc0|hc0
  ·
   refine tqA ?_
   rw[ev_word _ _ sdcA sdcA]
   conv=>lhs;whnf
   try dsimp -iota -beta -eta -zeta only
   rw[fK zf]
   conv=>lhs;whnf
   rw[fH zf]
   conv=>lhs;whnf
   try dsimp -iota -beta -eta -zeta only
   rw[w32l_ble1 zf];conv=>lhs;whnf
   rw[w32l_put zf]
   refine tqA ?_
   rw[w32l_s hw]
   refine tqA ?_
   rw[show((t:Int)+1)=((t+1:Nat):Int) from by omega,show 0+((t:Nat):Int).toNat*1=t from by omega];refine(congrArg (Y E0) ?_).trans (ih (be32 b (4*t)) (by rw[YW,if_pos zf]));rw[w32l_s hw];rfl
  refine tqA ?_
  rw[w32l_drop zf]
  refine tqA ?_
  rw[w32l_drop zf]
  refine tqA ?_
  rw[ev_ror7 _]
  refine tqA ?_
  rw[ev_ror18 _]
  refine tqA ?_
  rw[ev_ror17 _]
  refine tqA ?_
  rw[ev_ror19 _]
  refine tqA ?_
  rw[w32l_drop zf]
  refine tqA ?_
  rw[w32l_drop zf]
  conv=>lhs;whnf
  try dsimp -iota -beta -eta -zeta only
  rw[fK zf]
  conv=>lhs;whnf
  rw[fH zf]
  conv=>lhs;whnf
  try dsimp -iota -beta -eta -zeta only
  rw[w32l_ble1 zf];conv=>lhs;whnf
  rw[w32l_put zf]
  conv=>lhs;whnf
  try dsimp -iota -beta -eta -zeta only
  rw[w32l_s hw]
  refine tqA ?_
  rw[show((t:Int)+1)=((t+1:Nat):Int) from by omega,show 0+((t:Nat):Int).toNat*1=t from by omega];refine(congrArg (Y E0) ?_).trans (ih _ (nx256 b ws t hs zf));rw[w32l_s hw];rfl
theorem ev_w256z(h0 h1 h2 h3 h4 h5 h6 h7:UInt32)(hb:b.length=64):Y E0 (.loop 215 0 1 2 [(0,AV.pa 0 0),(1,AV.sl Ty.u8 b),(4,AV.pa 1 0),(17,AV.i 0)] [(0,some (.var [.u32 h0,.u32 h1,.u32 h2,.u32 h3,.u32 h4,.u32 h5,.u32 h6,.u32 h7])),(1,some (Rs.var [.u32 0,.u32 0,.u32 0,.u32 0,.u32 0,.u32 0,.u32 0,.u32 0,.u32 0,.u32 0,.u32 0,.u32 0,.u32 0,.u32 0,.u32 0,.u32 0,.u32 0,.u32 0,.u32 0,.u32 0,.u32 0,.u32 0,.u32 0,.u32 0,.u32 0,.u32 0,.u32 0,.u32 0,.u32 0,.u32 0,.u32 0,.u32 0,.u32 0,.u32 0,.u32 0,.u32 0,.u32 0,.u32 0,.u32 0,.u32 0,.u32 0,.u32 0,.u32 0,.u32 0,.u32 0,.u32 0,.u32 0,.u32 0,.u32 0,.u32 0,.u32 0,.u32 0,.u32 0,.u32 0,.u32 0,.u32 0,.u32 0,.u32 0,.u32 0,.u32 0,.u32 0,.u32 0,.u32 0,.u32 0]))])=some (.fin (.exit 0) 2 [(0,AV.pa 0 0),(4,AV.pa 1 0)] [(0,some (.var [.u32 h0,.u32 h1,.u32 h2,.u32 h3,.u32 h4,.u32 h5,.u32 h6,.u32 h7])),(1,some (Rs.var (OV (Pi b 64))))]):=by
 have e:=ev_w256 b h0 h1 h2 h3 h4 h5 h6 h7 hb 64 0 (List.replicate 64 0) rfl rfl rfl
 rw[w32l_n (ws:=List.replicate 64 0) (n:=64) rfl] at e
 exact e
end
section
attribute [local irreducible] BL BM BN BO BP BJ BQ CX Cm CY CW Ba Bc BF BC and' BG Bd Aa Ac Ad Ae Af AL AO AP AQ BR D8 BU D5 Be Bf Ag Ah Ai Aj AB AZ AU Ar BA BV BH BB Au Aw BI Bg BX fits BZ BK A7 A8 AC
attribute [local irreducible] OV
theorem nx1(t:Nat)(hs:ws.take t=aT b t)(h:16<=t):
  jF (Ac .xor (Ac .xor (Ac .xor (ws.getD (0+((t:Int)-3).toNat*1) 0) (ws.getD (0+((t:Int)-8).toNat*1) 0)) (ws.getD (0+((t:Int)-14).toNat*1) 0)) (ws.getD (0+((t:Int)-16).toNat*1) 0)) 1=dm b (aT b t) t:=by
 rw[show 0+((t:Int)-3).toNat*1=t-3 from by omega,show 0+((t:Int)-8).toNat*1=t-8 from by omega,show 0+((t:Int)-14).toNat*1=t-14 from by omega,show 0+((t:Int)-16).toNat*1=t-16 from by omega]
 rw[dm,if_neg zf,take_gt hs (show t-3<t by omega),take_gt hs (show t-8<t by omega),take_gt hs (show t-14<t by omega),take_gt hs (show t-16<t by omega)]
 simp only[u32xor_eq]
theorem ev_w1(b:List UInt8)(h0 h1 h2 h3 h4:UInt32)(hb:b.length=64):∀(k t:Nat) (ws:List UInt32),t+k=80->ws.length=80->ws.take t=aT b t ->
  Y E0 (.loop 213 0 1 2 [(0,AV.pa 0 0),(1,AV.sl Ty.u8 b),(4,AV.pa 1 0),(14,AV.i t)] [(0,some (.var [.u32 h0,.u32 h1,.u32 h2,.u32 h3,.u32 h4])),(1,some (Rs.var (OV ws)))])=some (.fin (.exit 0) 2 [(0,AV.pa 0 0),(4,AV.pa 1 0)] [(0,some (.var [.u32 h0,.u32 h1,.u32 h2,.u32 h3,.u32 h4])),(1,some (Rs.var (OV (aT b 80))))])
 | 0,t,ws,hk,hw,hs=>by
  have e:ws=aT b 80:=by rw[<-show t=80 from by omega,<-hs,List.take_of_length_le zf]
  rw[<-e]
  rw[JB];conv=>lhs;whnf
  rw[w32l_x hw (show 80<=t by omega)]
  refine tqA ?_
  rfl
 | k+1,t,ws,hk,hw,hs=>by
  have ih:=fun x (hx:x=dm b (aT b t) t)=>ev_w1 b h0 h1 h2 h3 h4 hb k (t+1) (ws.set t x) zf (by simpa using hw) (by rw[take_put hs zf,hx];rfl)
  rw[JB];conv=>lhs;whnf
  refine tqA ?_
  rcases ilt_c (↑t) 16 with hc0|hc0
  ·
   refine tqA ?_
   rw[ev_word _ _ sdcA sdcA]
   conv=>lhs;whnf
   try dsimp -iota -beta -eta -zeta only
   rw[fK zf]
   conv=>lhs;whnf
   rw[fH zf]
   conv=>lhs;whnf
   try dsimp -iota -beta -eta -zeta only
   rw[w32l_ble1 zf];conv=>lhs;whnf
   rw[w32l_put zf]
   refine tqA ?_
   rw[w32l_s hw]
   refine tqA ?_
   rw[show((t:Int)+1)=((t+1:Nat):Int) from by omega,show 0+((t:Nat):Int).toNat*1=t from by omega];refine(congrArg (Y E0) ?_).trans (ih (be32 b (4*t)) (by rw[dm,if_pos zf]));rw[w32l_s hw];rfl
  refine tqA ?_
  rw[w32l_drop zf]
  refine tqA ?_
  rw[w32l_drop zf]
  refine tqA ?_
  rw[w32l_drop zf]
  refine tqA ?_
  rw[w32l_drop zf]
  refine tqA ?_
  rw[ev_rol1 _]
  conv=>lhs;whnf
  try dsimp -iota -beta -eta -zeta only
  rw[fK zf]
  conv=>lhs;whnf
  rw[fH zf]
  conv=>lhs;whnf
  try dsimp -iota -beta -eta -zeta only
  rw[w32l_ble1 zf];conv=>lhs;whnf
  rw[w32l_put zf]
  conv=>lhs;whnf
  try dsimp -iota -beta -eta -zeta only
  rw[w32l_s hw]
  refine tqA ?_
  rw[show((t:Int)+1)=((t+1:Nat):Int) from by omega,show 0+((t:Nat):Int).toNat*1=t from by omega];refine(congrArg (Y E0) ?_).trans (ih _ (nx1 b ws t hs zf));rw[w32l_s hw];rfl
theorem ev_w1z(h0 h1 h2 h3 h4:UInt32)(hb:b.length=64):Y E0 (.loop 213 0 1 2 [(0,AV.pa 0 0),(1,AV.sl Ty.u8 b),(4,AV.pa 1 0),(14,AV.i 0)] [(0,some (.var [.u32 h0,.u32 h1,.u32 h2,.u32 h3,.u32 h4])),(1,some (Rs.var (List.replicate 80 (.u32 0))))])=some (.fin (.exit 0) 2 [(0,AV.pa 0 0),(4,AV.pa 1 0)] [(0,some (.var [.u32 h0,.u32 h1,.u32 h2,.u32 h3,.u32 h4])),(1,some (Rs.var (OV (aT b 80))))]):=by
 have e:=ev_w1 b h0 h1 h2 h3 h4 hb 80 0 (List.replicate 80 0) rfl rfl rfl
 rw[w32l_n (ws:=List.replicate 80 0) (n:=80) rfl] at e
 exact e
end
section
attribute [local irreducible] BL BM BN BO BP BJ BQ CX Cm CY CW Ba Bc BF BC and' BG Bd Aa Ac Ad Ae Af AL AO AP AQ BR D8 BU D5 Be Bf Ag Ah Ai Aj AB AZ AU Ar BA BV BH BB Au Aw BI Bg BX fits BZ BK A7 A8 AC
attribute [local irreducible] wb Jw
theorem ev_spread_l(ws:List UInt32)(h:ws.length<=1000):∀(k j:Nat) (acc:List UInt8),j+k=ws.length->acc.length<=4*j->Y E0 (.loop 214 0 0 1 [(3,.nm 0),(10,.sl .u32 ws),(11,.i (Ar ws)),(12,.i j)] [(0,some (.row 5 .u8 acc))])=some (.fin (.exit 0) 0 [(3,.sl .u8 (acc++Jw (ws.drop j)))] [])
 | 0,j,acc,hj,ha=>by
  rw[JB];conv=>lhs;whnf
  refine tqA ?_
  rw[List.drop_of_length_le zf];unfold Jw;simp
 | k+1,j,acc,hj,ha=>by
  have ih:=ev_spread_l ws h k (j+1) (Aw acc (wb (ws.getD j 0))) zf (by rw[UH,List.length_append];unfold wb;simp;omega)
  rw[JB];conv=>lhs;whnf
  refine toA ?_
  rw[u32get zf]
  refine tqA ?_
  refine(congrArg (Y E0) (by rw[show((j:Int)+1)=((j+1:Nat):Int) from by omega,<-wb_eq];rfl)).trans (ih.trans (by rw[spreadB_drop (j:=j) zf,UH,List.append_assoc]))
theorem ev_spread(h:ws.length<=1000)(h0:0<ws.length):Y E0 (.call 214 [.sl .u32 ws] [])=some (.ret (.sl .u8 (Jw ws)) []):=by
 have e:=ev_spread_l ws h ws.length 0 [] zf zB
 refine tqA ?_
 (erw[e])
 refine tqA ?_
 rfl
theorem ev_bytes_l(ws:List UInt32)(h:ws.length<=1000):∀(k j:Nat) (acc:List UInt8),j+k=ws.length->acc.length<=4*j->Y E0 (.loop 59 0 0 1 [(0,.sl .u32 ws),(3,.nm 0),(4,.i j)] [(0,some (.row 5 .u8 acc))])=some (.fin (.exit 0) 0 [(3,.sl .u8 (acc++Jw (ws.drop j)))] [])
 | 0,j,acc,hj,ha=>by
  rw[JB];conv=>lhs;whnf
  refine tqA ?_
  rw[List.drop_of_length_le zf];unfold Jw;simp
 | k+1,j,acc,hj,ha=>by
  have ih:=ev_bytes_l ws h k (j+1) (Aw acc (wb (ws.getD j 0))) zf (by rw[UH,List.length_append];unfold wb;simp;omega)
  rw[JB];conv=>lhs;whnf
  refine toA ?_
  rw[u32get zf]
  refine toA ?_
  rw[u32get zf]
  refine toA ?_
  rw[u32get zf]
  refine toA ?_
  rw[u32get zf]
  refine tqA ?_
  refine(congrArg (Y E0) (by rw[show((j:Int)+1)=((j+1:Nat):Int) from by omega,<-wb_eq];rfl)).trans (ih.trans (by rw[spreadB_drop (j:=j) zf,UH,List.append_assoc]))
theorem ev_bytes(h:ws.length<=1000):Y E0 (.call 59 [.sl .u32 ws] [])=some (.ret (.sl .u8 (Jw ws)) []):=by
 have e:=ev_bytes_l ws h ws.length 0 [] zf zB
 refine tqA ?_
 (erw[e])
 refine tqA ?_
 rfl
end
section
attribute [local irreducible] BL BM BN BO BP BJ BQ CX Cm CY CW Ba Bc BF BC and' BG Bd Aa Ac Ad Ae Af AL AO AP AQ BR D8 BU D5 Be Bf Ag Ah Ai Aj AB AZ AU Ar BA BV BH BB Au Aw BI Bg BX fits BZ BK A7 A8 AC
theorem ev_pad_l(l:List UInt8):∀(k:Nat) (x:List UInt8),k<64->(x.length+k)%64=56->x.length+k<=8589934592->Y E0 (.loop 212 0 0 1 [(0,.sl .u8 l),(3,.nm 0)] [(0,some (.row 5 .u8 x))])=some (.fin (.exit 0) 1 [(0,.sl .u8 l),(3,.nm 0)] [(0,some (.row 5 .u8 (x++List.replicate k 0)))])
 | 0,x,h,hm,hx=>by
  rw[JB];conv=>lhs;whnf
  refine tqA ?_
  simp
 | k+1,x,h,hm,hx=>by
  have ih:=ev_pad_l l k (Aw x [UInt8.ofNat 0]) zf (by rw[UH,List.length_append,<-hm];simp;omega) (by rw[UH,List.length_append];simp;omega)
  rw[JB];conv=>lhs;whnf
  refine tqA ?_
  exact ih.trans (by rw[UH,List.append_assoc];rfl)
theorem ev_pad_m(x:List UInt8)(n:UInt64)(hx:x.length<=8589934592):Y E0 (.loop 212 1 0 1 [(3,.nm 0),(4,.u64 n),(5,.i 56)] [(0,some (.row 5 .u8 x))])=some (.fin (.exit 2) 0 [(3,.sl .u8 (x++jG n))] []):=by
 refine tqA ?_
 refine tqA ?_
 refine tqA ?_
 refine tqA ?_
 refine tqA ?_
 refine tqA ?_
 refine tqA ?_
 refine tqA ?_
 refine tqA ?_
 rw[sh64 n _ 56 zf,sh64 n _ 48 zf,sh64 n _ 40 zf,sh64 n _ 32 zf,sh64 n _ 24 zf,sh64 n _ 16 zf,sh64 n _ 8 zf,sh64 n _ 0 zf];simp only[UH,List.append_assoc];rfl
theorem ev_pad(h:l.length<=4294967296):Y E0 (.call 212 [.sl .u8 l] [])=some (.ret (.sl .u8 (YV l)) []):=by
 have e:=ev_pad_l l (zerosN l.length) (Aw (Aw [] l) [UInt8.ofNat 128]) (by unfold zerosN;omega) (by simp only[UH];unfold zerosN;simp;omega) (by simp only[UH];unfold zerosN;simp;omega)
 have f:=fun n=>ev_pad_m (Aw (Aw [] l) [UInt8.ofNat 128]++List.replicate (zerosN l.length) 0) n (by simp only[UH];unfold zerosN;simp;omega)
 refine tqA ?_
 rw[e]
 refine tqA ?_
 (rw[f])
 refine tqA ?_
 simp only[UH,QP,bitlen,YV];rfl
theorem ev_rpad_l(l:List UInt8):∀(k:Nat) (x:List UInt8),k<64->(x.length+k)%64=56->x.length+k<=8589934592->Y E0 (.loop 56 0 0 1 [(0,.sl .u8 l),(3,.nm 0)] [(0,some (.row 5 .u8 x))])=some (.fin (.exit 0) 1 [(0,.sl .u8 l),(3,.nm 0)] [(0,some (.row 5 .u8 (x++List.replicate k 0)))])
 | 0,x,h,hm,hx=>by
  rw[JB];conv=>lhs;whnf
  refine tqA ?_
  simp
 | k+1,x,h,hm,hx=>by
  have ih:=ev_rpad_l l k (Aw x [UInt8.ofNat 0]) zf (by rw[UH,List.length_append,<-hm];simp;omega) (by rw[UH,List.length_append];simp;omega)
  rw[JB];conv=>lhs;whnf
  refine tqA ?_
  exact ih.trans (by rw[UH,List.append_assoc];rfl)
theorem ev_rpad_m(x:List UInt8)(n:UInt64)(hx:x.length<=8589934592):Y E0 (.loop 56 1 0 1 [(3,.nm 0),(4,.u64 n),(5,.i 7)] [(0,some (.row 5 .u8 x))])=some (.fin (.exit 2) 0 [(3,.sl .u8 (x++jG n))] []):=by
 refine tqA ?_
 refine tqA ?_
 refine tqA ?_
 refine tqA ?_
 refine tqA ?_
 refine tqA ?_
 refine tqA ?_
 refine tqA ?_
 refine tqA ?_
 rw[sh64k n _ 56 (by rw[Tt,ak];rfl) zh,sh64k n _ 48 (by rw[Tt,ak];rfl) zh,sh64k n _ 40 (by rw[Tt,ak];rfl) zh,sh64k n _ 32 (by rw[Tt,ak];rfl) zh,sh64k n _ 24 (by rw[Tt,ak];rfl) zh,sh64k n _ 16 (by rw[Tt,ak];rfl) zh,sh64k n _ 8 (by rw[Tt,ak];rfl) zh,sh64k n _ 0 (by rw[Tt,ak];rfl) zh];simp only[UH,List.append_assoc];rfl
theorem ev_rpad(h:l.length<=4294967296):Y E0 (.call 56 [.sl .u8 l] [])=some (.ret (.sl .u8 (YV l)) []):=by
 have e:=ev_rpad_l l (zerosN l.length) (Aw (Aw [] l) [UInt8.ofNat 128]) (by unfold zerosN;omega) (by simp only[UH];unfold zerosN;simp;omega) (by simp only[UH];unfold zerosN;simp;omega)
 have f:=fun n=>ev_rpad_m (Aw (Aw [] l) [UInt8.ofNat 128]++List.replicate (zerosN l.length) 0) n (by simp only[UH];unfold zerosN;simp;omega)
 refine tqA ?_
 rw[e]
 refine tqA ?_
 (rw[f])
 refine tqA ?_
 simp only[UH,QP,bitlen,YV];rfl
end
end Go.Proofs.YtanagnimhaemgaaGreatDoor
