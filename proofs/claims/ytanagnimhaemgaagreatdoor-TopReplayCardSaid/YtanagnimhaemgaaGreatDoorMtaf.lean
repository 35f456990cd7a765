/-
  Own texts, laid together for this claim: contracts of functions of the program and its references, used by the statements of this seat.
-/
import Derived.Test.YtanagnimhaemgaaGreatDoorMtac
import Derived.Test.YtanagnimhaemgaaGreatDoorMtad
import Derived.Test.YtanagnimhaemgaaGreatDoorMtae
set_option linter.all false
set_option maxHeartbeats 40000000
set_option maxRecDepth 100000
namespace Go.Ax
open Go Go.Eng
variable (a0 a1 a2 a3 a4 a5 a6 a7:UInt32)
theorem lg8_0:BA [a0,a1,a2,a3,a4,a5,a6,a7] 0=some a0:=lget_s zh rfl
theorem lg8_1:BA [a0,a1,a2,a3,a4,a5,a6,a7] 1=some a1:=lget_s zh rfl
theorem lg8_2:BA [a0,a1,a2,a3,a4,a5,a6,a7] 2=some a2:=lget_s zh rfl
theorem lg8_3:BA [a0,a1,a2,a3,a4,a5,a6,a7] 3=some a3:=lget_s zh rfl
theorem lg8_4:BA [a0,a1,a2,a3,a4,a5,a6,a7] 4=some a4:=lget_s zh rfl
theorem lg8_5:BA [a0,a1,a2,a3,a4,a5,a6,a7] 5=some a5:=lget_s zh rfl
theorem lg8_6:BA [a0,a1,a2,a3,a4,a5,a6,a7] 6=some a6:=lget_s zh rfl
theorem lg8_7:BA [a0,a1,a2,a3,a4,a5,a6,a7] 7=some a7:=lget_s zh rfl
end Go.Ax
namespace Go.Proofs.YtanagnimhaemgaaGreatDoor
open Go Go.Ax Go.Eng
variable (h:List UInt32)(p:List UInt8)
section
attribute [local irreducible] BL BM BN BO BP BJ BQ CX Cm CY CW Ba Bc BF BC and' BG Bd Aa Ac Ad Ae Af AL AO AP AQ BR D8 BU D5 Be Bf Ag Ah Ai Aj AB AZ AU Ar BA BV BH BB Au Aw BI Bg BX fits BZ BK A7 A8 AC
attribute [local irreducible] MH Gm Hr OV MZ PT JC Pm
theorem ev_rwz(b:List UInt8)(a:Nat)(ha:a+64<=p.length)(hp:p.length<=8589934592)(hb:b=List.take ((a:Int)+64-a).toNat (List.drop (a:Int).toNat p)):Y E0 (.loop 29 1 0 3 [(3,.pa 0 0),(4,.nm 1),(5,.sl .u8 p),(6,.i a),(7,.pa 2 0),(8,.i 0)] [(0,some (.var ((List.range 64).map fun i=>AV.u32 (MZ.getD i 0)))),(1,some (.row 128 .u32 h)),(2,some (.var (List.replicate 64 (.u32 0))))])=some (.fin (.exit 2) 3 [(3,.pa 0 0),(4,.nm 1),(5,.sl .u8 p),(6,.i a),(7,.pa 2 0)] [(0,some (.var ((List.range 64).map fun i=>AV.u32 (MZ.getD i 0)))),(1,some (.row 128 .u32 h)),(2,some (.var ((List.range 64).map fun i=>AV.u32 ((Pi b 64).getD i 0))))]):=by
 have e:=ev_rw h p b a ha hp hb 64 0 (List.replicate 64 0) rfl rfl rfl
 rw[w32l_n (ws:=List.replicate 64 0) (n:=64) rfl,w32l_n k256_len,w32l_n (sch256_len b 64)] at e
 exact e
theorem ev_rr(h:List UInt32)(p:List UInt8)(a:Nat)(ws:List UInt32)(hw:ws.length=64):∀(k t:Nat) (a0 a1 a2 a3 a4 a5 a6 a7:UInt32),t+k=64->Y E0 (.loop 29 2 0 3 [(3,.pa 0 0),(4,.nm 1),(5,.sl .u8 p),(6,.i a),(7,.pa 2 0),(11,.sl .u32 [a0,a1,a2,a3,a4,a5,a6,a7]),(12,.i t)] [(0,some (.var (OV MZ))),(1,some (.row 128 .u32 h)),(2,some (.var (OV ws)))])=some (.fin (.exit 4) 2 [(3,.pa 0 0),(4,.nm 1),(5,.sl .u8 p),(6,.i a),(11,.sl .u32 (PT ws k t [a0,a1,a2,a3,a4,a5,a6,a7]))] [(0,some (.var (OV MZ))),(1,some (.row 128 .u32 h))])
 | 0,t,a0,a1,a2,a3,a4,a5,a6,a7,hk=>by
  rw[JB];conv=>lhs;whnf
  refine tqA ?_
  ((conv in(close _ _ _ _)=>skip);conv=>lhs;rw[w32l_n k256_len,w32l_n hw])
  refine tqA ?_
  rw[w32l_n k256_len];unfold PT;rfl
 | k+1,t,a0,a1,a2,a3,a4,a5,a6,a7,hk=>by
  have ih:=fun s0 s1 s2 s3 s4 s5 s6 s7=>ev_rr h p a ws hw k (t+1) s0 s1 s2 s3 s4 s5 s6 s7 zf
  rw[JB];conv=>lhs;whnf
  refine tqA ?_
  rw[lg8_0]
  refine tqA ?_
  rw[lg8_4]
  refine tqA ?_
  rw[lg8_7]
  refine tqA ?_
  rw[ev_rr6 _]
  refine tqA ?_
  rw[ev_rr11 _]
  refine tqA ?_
  rw[ev_rr25 _]
  refine tqA ?_
  rw[lg8_5]
  refine tqA ?_
  rw[lg8_6]
  refine tqA ?_
  rw[w32l_drop (ws:=MZ) (by rw[k256_len];omega)]
  refine tqA ?_
  rw[w32l_drop (ws:=ws) zf]
  refine tqA ?_
  rw[ev_rr2 _]
  refine tqA ?_
  rw[ev_rr13 _]
  refine tqA ?_
  rw[ev_rr22 _]
  refine tqA ?_
  rw[lg8_1]
  refine tqA ?_
  rw[lg8_2]
  refine tqA ?_
  rw[lg8_1]
  refine tqA ?_
  rw[lg8_2]
  refine tqA ?_
  rw[lg8_1]
  refine tqA ?_
  rw[lg8_2]
  refine tqA ?_
  rw[lg8_3]
  refine tqA ?_
  rw[lg8_5]
  refine tqA ?_
  rw[lg8_6]
  refine tqA ?_
  ((conv in(QM _ _)=>skip);conv=>lhs;rw[w32l_n k256_len,w32l_n hw])
  refine tqA ?_
  rw[show((t:Int)+1)=((t+1:Nat):Int) from by omega];refine((congrArg (Y E0) (by rw[w32l_n hw,w32l_n k256_len];rfl)).trans (ih _ _ _ _ _ _ _ _)).trans ?_;simp only[u32add_eq,u32xor_eq,u32and_eq,show 0+(t:Int).toNat*1=t from by omega];rw[show PT ws (k+1) t [a0,a1,a2,a3,a4,a5,a6,a7]=PT ws k (t+1) (Vs (MZ.getD t 0) (ws.getD t 0) [a0,a1,a2,a3,a4,a5,a6,a7]) from by rw[PT]];rfl
end
section
attribute [local irreducible] BL BM BN BO BP BJ BQ CX Cm CY CW Ba Bc BF BC and' BG Bd Aa Ac Ad Ae Af AL AO AP AQ BR D8 BU D5 Be Bf Ag Ah Ai Aj AB AZ AU Ar BA BV BH BB Au Aw BI Bg BX fits BZ BK A7 A8 AC
attribute [local irreducible] MH Gm Hr OV MZ PT JC Pm
theorem ev_rrz(hh:h.length=8)(p:List UInt8)(a:Nat)(ws:List UInt32)(hw:ws.length=64):Y E0 (.loop 29 2 0 3 [(3,.pa 0 0),(4,.nm 1),(5,.sl .u8 p),(6,.i a),(7,.pa 2 0),(11,.sl .u32 (Aw [] h)),(12,.i 0)] [(0,some (.var ((List.range 64).map fun i=>AV.u32 (MZ.getD i 0)))),(1,some (.row 128 .u32 h)),(2,some (.var ((List.range 64).map fun i=>AV.u32 (ws.getD i 0))))])=some (.fin (.exit 4) 2 [(3,.pa 0 0),(4,.nm 1),(5,.sl .u8 p),(6,.i a),(11,.sl .u32 (PT ws 64 0 h))] [(0,some (.var ((List.range 64).map fun i=>AV.u32 (MZ.getD i 0)))),(1,some (.row 128 .u32 h))]):=by
 have e:=ev_rr h p a ws hw 64 0 (h.getD 0 0) (h.getD 1 0) (h.getD 2 0) (h.getD 3 0) (h.getD 4 0) (h.getD 5 0) (h.getD 6 0) (h.getD 7 0) rfl
 rw[eta8 hh,w32l_n k256_len,w32l_n hw] at e
 rw[UH]
 exact e
theorem ev_ra(h s:List UInt32)(hh:h.length=8)(hs:s.length=8)(p:List UInt8)(a:Nat):∀(k i:Nat),i+k=8->Y E0 (.loop 29 3 0 2 [(3,.pa 0 0),(4,.nm 1),(5,.sl .u8 p),(6,.i a),(11,.sl .u32 s),(17,.i i)] [(0,some (.var ((List.range 64).map fun i=>AV.u32 (MZ.getD i 0)))),(1,some (.row 128 .u32 (di h s i)))])=some (.fin (.exit 6) 2 [(3,.pa 0 0),(4,.nm 1),(5,.sl .u8 p),(6,.i a)] [(0,some (.var ((List.range 64).map fun i=>AV.u32 (MZ.getD i 0)))),(1,some (.row 128 .u32 (di h s 8)))])
 | 0,i,hk=>by
  obtain rfl:i=8:=zf
  rw[JB];conv=>lhs;whnf
  refine tqA ?_
  rfl
 | k+1,i,hk=>by
  have ih:=ev_ra h s hh hs p a k (i+1) zf
  have hl:=addl_len h s i zf zf
  rw[JB];conv=>lhs;whnf
  refine toA ?_
  rw[u32get (ws:=di h s i) zf,addl_get h s i zf zf]
  refine toA ?_
  rw[u32get (ws:=s) zf]
  refine toA ?_
  rw[u32get (ws:=di h s i) zf,addl_get h s i zf zf]
  refine tqA ?_
  rw[show((i:Int)+1)=((i+1:Nat):Int) from by omega,UJ,u32add_eq,show((i:Nat):Int).toNat=i from by omega,addl_set h s i zf zf];exact ih
theorem comp256_f(b:List UInt8):di h (PT (Pi b 64) 64 0 h) 8=Gm h b:=by
 rw[Gm,show PT (Pi b 64) 64 0 h=Pj (Pi b 64) h 64 from rndsF_eq _ _ 64 0]
theorem blk_eq(a:Nat):(List.take ((a:Int)+64-a).toNat (List.drop (a:Int).toNat p))=(p.drop a).take 64:=by rw[show((a:Int)+64-a).toNat=64 from by omega,show(a:Int).toNat=a from by omega]
theorem ev_ro(p:List UInt8)(hp:p.length<=8589934592):∀(n a:Nat) (h:List UInt32),h.length=8->a+64*n=p.length->Y E0 (.loop 29 0 0 2 [(3,.pa 0 0),(4,.nm 1),(5,.sl .u8 p),(6,.i a)] [(0,some (.var ((List.range 64).map fun i=>AV.u32 (MZ.getD i 0)))),(1,some (.row 128 .u32 h))])=some (.fin (.exit 0) 0 [(4,.sl .u32 (Hr Gm n h (p.drop a)))] [])
 | 0,a,h,hh,hn=>by
  rw[JB];conv=>lhs;whnf
  refine tqA ?_
  rw[Hr]
 | n+1,a,h,hh,hn=>by
  have ih:=ev_ro p hp n (a+64) (Gm h ((p.drop a).take 64)) (Qe _ _ hh) zf
  have e:=ev_rwz h p _ a zf hp rfl
  have f:=ev_rrz h hh p a (Pi (List.take ((a:Int)+64-a).toNat (List.drop (a:Int).toNat p)) 64) (sch256_len _ _)
  have g:=ev_ra h _ hh (rndsF_len (Pi (List.take ((a:Int)+64-a).toNat (List.drop (a:Int).toNat p)) 64) 64 0 h hh) p a 8 0 rfl
  rw[JB];conv=>lhs;whnf
  refine tqA ?_
  (erw[e])
  refine tqA ?_
  (erw[f])
  refine tqA ?_
  (erw[g])
  refine tqA ?_
  rw[comp256_f,blk_eq,show((a:Int)+64)=((a+64:Nat):Int) from by omega];exact ih.trans (by rw[Hr,List.drop_drop])
theorem ev_sum256(l:List UInt8)(hl:l.length<=4294967296):Y E0 (.call 29 [.sl .u8 l] [])=some (.ret (.sl .u8 (sha256 l)) []):=by
 have hp:=padB_len l
 have e:=ev_ro (YV l) zf ((YV l).length/64) 0 h256 rfl zf
 have hf:=NW (m:=8) Qe ((YV l).length/64) h256 (YV l) rfl
 refine tqA ?_
 rw[ev_const]
 refine tqA ?_
 rw[ev_rpad _ sdcA]
 refine tqA ?_
 (erw[e])
 refine tqA ?_
 rw[ev_bytes _ sdcA]
 refine tqA ?_
 rfl
end
end Go.Proofs.YtanagnimhaemgaaGreatDoor
namespace Go.Proofs.YtanagnimhaemgaaGreatDoor
open Go Go.RowKit Go.Eng Go.Ax
theorem ev_dig_sum1(l:List UInt8)(hl:l.length<=4294967296):Y E0 (.call 176 [.i 1,.sl .u8 l] [])=some (.ret (.sl .u8 (sha256 l)) []):=e_dig_sum 1 l hl
end Go.Proofs.YtanagnimhaemgaaGreatDoor
namespace Go.Proofs.YtanagnimhaemgaaGreatDoor
open Go Go.Ax
section
attribute [local irreducible] BL BM BN BO BP BJ BQ CX Cm CY CW Ba Bc BF BC and' BG Bd Aa Ac Ad Ae Af AL AO AP AQ BR D8 BU D5 Be Bf Ag Ah Ai Aj AB AZ AU Ar BA BV BH BB Au Aw BI Bg BX fits BZ BK A7 A8 AC
theorem take_eq{α:Type}(a b:List α)(i:Nat)(hi:i<a.length)(hj:i<b.length)(h:a.take i=b.take i)(he:a[i]=b[i]):a.take (i+1)=b.take (i+1):=by
 rw[List.take_succ_eq_append_getElem hi,List.take_succ_eq_append_getElem hj,h,he]
theorem ev_same_loop(a b:List UInt8)(hb:a.length<=4294967296)(hl:a.length=b.length):∀(k:Nat) (j:Int),j+k=a.length->0<=j->a.take j.toNat=b.take j.toNat ->
  Y E0 (.loop 21 0 0 0 [(0,.sl .u8 a),(1,.sl .u8 b),(5,.i j)] [])=if a=b then some (.fin (.exit 0) 0 [] []) else some (.fin .ret 0 [(4,.b false)] [])
 | 0,j,hj,h0,ht=>by
  have he:a=b:=by rwa [List.take_of_length_le zf,List.take_of_length_le zf] at ht
  rw[if_pos he]
  rw[JB];conv=>lhs;whnf
  rw[fJ zF]
  conv=>lhs;whnf
 | k+1,j,hj,h0,ht=>by
  by_cases hab:a[j.toNat]'zf=b[j.toNat]'zf
  ·have ih:=ev_same_loop a b hb hl k (j+1) zf zf (by rw[show(j+1).toNat=j.toNat+1 from by omega];exact take_eq a b _ zf zf ht hab)
   have hz:AZ .neq (a[j.toNat]'zf) (b[j.toNat]'zf)=false:=by rw[VK,fG (by rw[hab])]
   rw[<-ih]
   rw[JB];conv=>lhs;whnf
   rw[fH zF]
   conv=>lhs;whnf
   rw[lget_i zf]
   conv=>lhs;whnf
   rw[lget_i zf]
   conv=>lhs;whnf
   try dsimp -iota -beta -eta -zeta only
   rw[hz]
   conv=>lhs;whnf
   rw[drw zi];conv=>lhs;whnf
   try dsimp -iota -beta -eta -zeta only
   rw[ZF zf]
  ·have hne:a≠b:=fun e=>hab (by subst e;rfl)
   have hz:AZ .neq (a[j.toNat]'zf) (b[j.toNat]'zf)=true:=by rw[VK,fF (fun e=>hab (UInt8.toNat_inj.1 zf))]
   rw[if_neg hne]
   rw[JB];conv=>lhs;whnf
   rw[fH zF]
   conv=>lhs;whnf
   rw[lget_i zf]
   conv=>lhs;whnf
   rw[lget_i zf]
   conv=>lhs;whnf
   try dsimp -iota -beta -eta -zeta only
   rw[hz]
   exact tqA rfl
theorem ev_same(a b:List UInt8)(ha:a.length<=4294967296):Y E0 (.call 21 [.sl .u8 a,.sl .u8 b] [])=some (.ret (.b (decide (a=b))) []):=by
 by_cases h:a=b
 ·rw[decide_eq_true h]
  refine tqA ?_
  rcases ine_c (↑a.length) (↑b.length) with hc0|hc0
  ·
   rw[fF zF]
   conv=>lhs;whnf
   exact absurd (congrArg List.length h) zf
  rw[fG zF]
  conv=>lhs;whnf
  try dsimp -iota -beta -eta -zeta only
  rw[TR]
  rw[ev_same_loop a b ha zf a.length 0 zf zf zB,if_pos h]
  exact tqA rfl
 ·rw[decide_eq_false h]
  refine tqA ?_
  rcases ine_c (↑a.length) (↑b.length) with hc0|hc0
  ·
   rw[fF zF]
   conv=>lhs;whnf
  rw[fG zF]
  conv=>lhs;whnf
  try dsimp -iota -beta -eta -zeta only
  rw[TR]
  rw[ev_same_loop a b ha zf a.length 0 zf zf zB,if_neg h]
  exact tqA rfl
end
end Go.Proofs.YtanagnimhaemgaaGreatDoor
namespace Go.Proofs.YtanagnimhaemgaaGreatDoor
open Go Go.Ax Go.Eng
variable (tag:Int)(ls:List (List UInt8))
section
attribute [local irreducible] BL BM BN BO BP BJ BQ CX Cm CY CW Ba Bc BF BC and' BG Bd Aa Ac Ad Ae Af AL AO AP AQ BR D8 BU D5 Be Bf Ag Ah Ai Aj AB AZ AU Ar BA BV BH BB Au Aw BI Bg BX fits BZ BK A7 A8 AC
theorem ev_dig_frame_loop(tag:Int)(ls:List (List UInt8))(hl:(Bh tag ls).length<=4294967296)(hn:ls.length<=4294967296):∀(k i:Nat),i+k=ls.length ->
  Y E0 (.loop 178 0 0 1 [(5,.nm 0),(12,.sl (.sl .u8) ls),(13,.i ls.length),(14,.i i)] [(0,some (.row 5 .u8 (Bh tag (ls.take i))))])=some (.fin (.exit 0) 0 [(5,.sl .u8 (Bh tag ls))] [])
 | 0,i,hi=>by
  have e:ls.take i=ls:=List.take_of_length_le zf
  rw[e]
  rw[JB];conv=>lhs;whnf
  exact tqA rfl
 | k+1,i,hi=>by
  have ih:=ev_dig_frame_loop tag ls hl hn k (i+1) zf
  have hg:ls[i]?=some (ls[i]'zf):=List.getElem?_eq_getElem zf
  have h1:=frameB_snoc tag ls i _ hg
  have h2:=frameB_le tag ls (i+1)
  have h3:=congrArg List.length h1
  simp only[List.length_append,NZ] at h3
  rw[JB];conv=>lhs;whnf
  refine tqA ?_
  refine(congrArg (Y E0) ?_).trans ih;(try simp only[Rq.loop.injEq,Rq.call.injEq,Rq.ops.injEq,List.cons.injEq,Prod.mk.injEq,AV.i.injEq,AV.sl.injEq,AV.st.injEq,AV.b.injEq,AV.u8.injEq,AV.nm.injEq,Option.some.injEq,Rs.row.injEq,Rs.var.injEq,heq_eq_eq,true_and,and_true]);(try(repeat' apply And.intro));all_goals first|(with_reducible rfl)|omega|(rw[ZF zf];omega)|(rw[ZG zf];omega)|(rw[h1,UH,UH,dig4])
theorem ev_dig_frame(hl:(Bh tag ls).length<=4294967296)(hn:ls.length<=4294967296):Y E0 (.call 178 [.i tag,.sl (.sl .u8) ls] [])=some (.ret (.sl .u8 (Bh tag ls)) []):=by
 refine tqA ?_
 rw[show D5 tag=UInt8.ofInt tag from iu8_eq _,show [UInt8.ofInt tag]=Bh tag (ls.take 0) from rfl,QP];rw[show(0:Int)=((0:Nat):Int) from rfl,ev_dig_frame_loop tag ls hl hn ls.length 0 zf]
 exact tqA rfl
theorem ev_ref_frame_loop(tag:Int)(ls:List (List UInt8))(hl:(Bh tag ls).length<=4294967295)(hn:ls.length<=4294967296):∀(k i:Nat),i+k=ls.length ->
  Y E0 (.loop 42 0 0 1 [(1,.sl (.sl .u8) ls),(5,.nm 0),(6,.i i)] [(0,some (.row 5 .u8 (Bh tag (ls.take i))))])=some (.fin (.exit 0) 0 [(5,.sl .u8 (Bh tag ls))] [])
 | 0,i,hi=>by
  have e:ls.take i=ls:=List.take_of_length_le zf
  rw[e]
  rw[JB];conv=>lhs;whnf
  exact tqA rfl
 | k+1,i,hi=>by
  have ih:=ev_ref_frame_loop tag ls hl hn k (i+1) zf
  have hg:ls[i]?=some (ls[i]'zf):=List.getElem?_eq_getElem zf
  have h1:=frameB_snoc tag ls i _ hg
  have h2:=frameB_le tag ls (i+1)
  have h3:=congrArg List.length h1
  simp only[List.length_append,NZ] at h3
  rw[JB];conv=>lhs;whnf
  refine tqA ?_
  refine(congrArg (Y E0) ?_).trans ih;(try simp only[Rq.loop.injEq,Rq.call.injEq,Rq.ops.injEq,List.cons.injEq,Prod.mk.injEq,AV.i.injEq,AV.sl.injEq,AV.st.injEq,AV.b.injEq,AV.u8.injEq,AV.nm.injEq,Option.some.injEq,Rs.row.injEq,Rs.var.injEq,heq_eq_eq,true_and,and_true]);(try(repeat' apply And.intro));all_goals first|(with_reducible rfl)|omega|(rw[ZF zf];omega)|(rw[ZG zf];omega)|(rw[h1,UH,UH,QP,rf4 _ zf])
theorem ev_ref_frame(hl:(Bh tag ls).length<=4294967295)(hn:ls.length<=4294967296):Y E0 (.call 42 [.i tag,.sl (.sl .u8) ls] [])=some (.ret (.sl .u8 (Bh tag ls)) []):=by
 refine tqA ?_
 rw[show D5 tag=UInt8.ofInt tag from iu8_eq _,show [UInt8.ofInt tag]=Bh tag (ls.take 0) from rfl];rw[show(0:Int)=((0:Nat):Int) from rfl,ev_ref_frame_loop tag ls hl hn ls.length 0 zf]
 exact tqA rfl
theorem ev_dig_hash(hl:(Bh tag ls).length<=4294967295)(hn:ls.length<=4294967296):Y E0 (.call 152 [.i tag,.sl (.sl .u8) ls] [])=some (.ret (.sl .u8 (sha256 (Bh tag ls))) []):=by
 refine tqA ?_
 rw[ev_dig_frame _ _ sdcA sdcA]
 refine tqA ?_
 rw[ev_dig_sum1 _ sdcA]
 exact tqA rfl
theorem ev_ref_hash(hl:(Bh tag ls).length<=4294967295)(hn:ls.length<=4294967296):Y E0 (.call 43 [.i tag,.sl (.sl .u8) ls] [])=some (.ret (.sl .u8 (sha256 (Bh tag ls))) []):=by
 refine tqA ?_
 rw[ev_ref_frame _ _ sdcA sdcA]
 refine tqA ?_
 rw[ev_sum256 _ sdcA]
 exact tqA rfl
end
end Go.Proofs.YtanagnimhaemgaaGreatDoor
