/- Own texts of this claim: contracts of functions. -/
import Derived.Test.YtlpkjhhfhannpaaGreatDoorBtbq
set_option linter.all false
set_option maxHeartbeats 40000000
set_option maxRecDepth 100000
namespace Go.Proofs.YtlpkjhhfhannpaaGreatDoor.lTopBytes
open Go Go.RowKit Go.Eng Go.WideShapes Go.ChangeAt Go.ChangeShapes Go.Ax
variable (os:Os)
section
attribute [local irreducible] Calls Value.okWide
theorem ty0:N9 Tryz.prog 20 (.sl .u8) [22]=true:=zaw
theorem ty1:N9 Tryz.prog 20 (.sl .u8) [22]=true:=zaw
theorem ty2:N9 Tryz.prog 20 (.sl .u8) [22]=true:=zaw
theorem ty3:N9 Tryz.prog 20 .i64 [3]=true:=zaw
theorem ty4:N9 Tryz.prog 20 .i64 [3]=true:=zaw
theorem ty5:N9 Tryz.prog 20 .i64 [3]=true:=zaw
theorem ty6:N9 Tryz.prog 20 .i64 [3]=true:=zaw
theorem ty7:N9 Tryz.prog 20 .u8 [5]=true:=zaw
theorem contract(H:Type)(enc:TypeId×Value->H)(W:World)(base:Nat)(args:Array Value)(ds gs:List (DataW H))(before:List MemPlace)
  (hval:∀(j:Nat) t v,Tryz.f3.params[j]?=some t->args[j]?=some v->Value.okWide Tryz.prog W .any base t v)
  (hW:DataW.Whole enc Tryz.prog Tryz.f3.params.toList Rows.topBytesSpec.vars false W args.toList ds gs before) (hL:laidMetH Tryz.prog Rows.topBytesRow.laid W) :
  Calls Tryz.prog 3 args W fun e W'=>∃ v,e=.returned v/\Rows.topBytesSpec.post enc Tryz.prog Tryz.f3 false true false false W args v W':=by
 have hW':=hW
 obtain⟨p,q,hA0,hV,rfl,hfz,hnd⟩:=hW
 have hA:DataW.TrodAll enc Tryz.prog W 0 (fun _=>true) true Tryz.f3.params.toList args.toList ds p:=hA0
 rw[Tryz.params3] at hA hval
 obtain⟨v0,vs0,d0,ds0,p0,q0,hargs,rfl,rfl,h0,r0⟩:=trodAll_cons hA
 obtain⟨v1,vs1,d1,ds1,p1,q1,rfl,rfl,rfl,h1,r1⟩:=trodAll_cons r0
 obtain⟨v2,vs2,d2,ds2,p2,q2,rfl,rfl,rfl,h2,r2⟩:=trodAll_cons r1
 obtain⟨v3,vs3,d3,ds3,p3,q3,rfl,rfl,rfl,h3,r3⟩:=trodAll_cons r2
 obtain⟨v4,vs4,d4,ds4,p4,q4,rfl,rfl,rfl,h4,r4⟩:=trodAll_cons r3
 obtain⟨v5,vs5,d5,ds5,p5,q5,rfl,rfl,rfl,h5,r5⟩:=trodAll_cons r4
 obtain⟨v6,vs6,d6,ds6,p6,q6,rfl,rfl,rfl,h6,r6⟩:=trodAll_cons r5
 obtain⟨v7,vs7,d7,ds7,p7,q7,rfl,rfl,rfl,h7,r7⟩:=trodAll_cons r6
 obtain⟨rfl,rfl,rfl⟩:=trodAll_nil r7
 obtain rfl:args = #[v0,v1,v2,v3,v4,v5,v6,v7]:=by cases args;simp_all
 obtain⟨a0,n0,c0,rfl⟩:=okWide_slice Tryz.underlying22 (hval 0 22 v0 rfl rfl)
 obtain⟨x0,hx0,hw0⟩:=Ik 20 ty0 h0 zbg
 have hr0:=NH (N:=fun k=>k<0) (ν:=fun _=>undef) (x:=x0) rfl rfl hx0
 obtain⟨a1,n1,c1,rfl⟩:=okWide_slice Tryz.underlying22 (hval 1 22 v1 rfl rfl)
 obtain⟨x1,hx1,hw1⟩:=Ik 20 ty1 h1 zbg
 have hr1:=NH (N:=fun k=>k<0) (ν:=fun _=>undef) (x:=x1) rfl rfl hx1
 obtain⟨a2,n2,c2,rfl⟩:=okWide_slice Tryz.underlying22 (hval 2 22 v2 rfl rfl)
 obtain⟨x2,hx2,hw2⟩:=Ik 20 ty2 h2 zbg
 have hr2:=NH (N:=fun k=>k<0) (ν:=fun _=>undef) (x:=x2) rfl rfl hx2
 obtain⟨n3,rfl,-⟩:=open_int Tryz.underlying3 (hval 3 3 v3 rfl rfl) h3
 obtain⟨x3,hx3,hw3⟩:=Ik 20 ty3 h3 za4
 have hr3:=NH (N:=fun k=>k<0) (ν:=fun _=>undef) (x:=x3) rfl rfl hx3
 obtain⟨n4,rfl,-⟩:=open_int Tryz.underlying3 (hval 4 3 v4 rfl rfl) h4
 obtain⟨x4,hx4,hw4⟩:=Ik 20 ty4 h4 za4
 have hr4:=NH (N:=fun k=>k<0) (ν:=fun _=>undef) (x:=x4) rfl rfl hx4
 obtain⟨n5,rfl,-⟩:=open_int Tryz.underlying3 (hval 5 3 v5 rfl rfl) h5
 obtain⟨x5,hx5,hw5⟩:=Ik 20 ty5 h5 za4
 have hr5:=NH (N:=fun k=>k<0) (ν:=fun _=>undef) (x:=x5) rfl rfl hx5
 obtain⟨n6,rfl,-⟩:=open_int Tryz.underlying3 (hval 6 3 v6 rfl rfl) h6
 obtain⟨x6,hx6,hw6⟩:=Ik 20 ty6 h6 za4
 have hr6:=NH (N:=fun k=>k<0) (ν:=fun _=>undef) (x:=x6) rfl rfl hx6
 obtain⟨n7,rfl⟩:=A0S Tryz.underlying5 (hval 7 5 v7 rfl rfl) h7
 obtain⟨x7,hx7,hw7⟩:=Ik 20 ty7 h7 (by rw[show Tryz.prog.cellsOf 5=1 from by kernel_rfl];rfl)
 have hr7:=NH (N:=fun k=>k<0) (ν:=fun _=>undef) (x:=x7) rfl rfl hx7
 refine(A0T (sF x0 x1 x2 x3 x4 x5 x6 x7 ) (w:=W) (args:=[_,_,_,_,_,_,_,_]) (hI0 hL) (hr0.app (hr1.app (hr2.app (hr3.app (hr4.app (hr5.app (hr6.app hr7)))))))).mono fun e W' h=>?_
 cases e with
 | returned v =>
  obtain⟨rfl,he⟩:=h
  exact⟨_,rfl,A0R hW' laidOut zaw rfl zaw Tryz.underlying4 rfl rfl rfl he⟩
 | _=>exact h.elim
theorem laid_met:laidMet Tryz.prog Rows.topBytesRow.laid ((laidWorld os).forCall (fun _ _=>0) ⟨#[],#[.slice none 0 0,.slice none 0 0,.slice none 0 0,Value.int .i64 0,Value.int .i64 0,Value.int .i64 0,Value.int .i64 0,Value.int .u8 0],[]⟩).memory :=
 laidMet_of_run' 8 zaw zaw
theorem reads{H:Type}(enc:TypeId×Value->H):∃ places,DataW.whole enc Tryz.prog ((laidWorld os).forCall (fun _ _=>0) ⟨#[],#[.slice none 0 0,.slice none 0 0,.slice none 0 0,Value.int .i64 0,Value.int .i64 0,Value.int .i64 0,Value.int .i64 0,Value.int .u8 0],[]⟩).memory Tryz.f3.params.toList Rows.topBytesSpec.vars false (#[.slice none 0 0,.slice none 0 0,.slice none 0 0,Value.int .i64 0,Value.int .i64 0,Value.int .i64 0,Value.int .i64 0,Value.int .u8 0]:Array Value).toList 8=some ([.nil,.nil,.nil,.lit (.int .i64 0),.lit (.int .i64 0),.lit (.int .i64 0),.lit (.int .i64 0),.lit (.int .u8 0)],[],places) :=
 ⟨[],by kernel_rfl⟩
set_option maxRecDepth 100000 in
theorem lifted(started:os.Started)(H:Type)(enc:TypeId×Value->H)(F:Stop.Interp):
  ReturnsInHanded {} Tryz.checked os 3 .any ((OpenSpec.ofChange Rows.topBytesSpec).preRow enc Tryz.prog Tryz.f3 Rows.topBytesRow.domain false Rows.topBytesRow.laid) (((OpenSpec.ofChange Rows.topBytesSpec).at F).post enc Tryz.prog Tryz.f3 false true false false):=by
 obtain⟨places,hx⟩:=reads os enc
 refine returnsInHanded_of_row (C:=Tryz.checked) (s:=OpenSpec.ofChange Rows.topBytesSpec) own started zaw Tryz.func3
  (witness_row_at (enc:=enc) (C:=Tryz.checked) false (laidWorld os) #[.slice none 0 0,.slice none 0 0,.slice none 0 0,Value.int .i64 0,Value.int .i64 0,Value.int .i64 0,Value.int .i64 0,Value.int .u8 0] rfl zaw zaw zaw
   (OpenSpec.preRow_of_cond 8 hx zaw (fun k hk=>by cases hk) zaw (laid_met os))) ?_
 intro W base args ds gs before hval hW _ _ _ hL _ _
 exact contract H enc W base args ds gs before hval hW hL
theorem jA:(Rows.topBytesRow.inPlace==Tryz.prog.inPlace 3)=true:=zaw
theorem jB:(Rows.topBytesRow.unfollowed==Tryz.prog.unfollowed 3)=true:=zaw
theorem jC:(Rows.topBytesRow.recurses==Tryz.prog.recurses 3)=true:=zaw
theorem jD:(Rows.topBytesRow.named==Tryz.prog.varsNamed 3)=true:=zaw
theorem joined:joinedFacts Tryz.prog 3 Tryz.f3 (OpenSpec.ofChange Rows.topBytesSpec).bare Rows.topBytesRow=true:=by
 unfold joinedFacts;rw[AEN,AEO,AEP,jA,jB,jC,jD];kernel_rfl
theorem said:Rows.TopBytesSaid :=
 OpenClaim.holds_of_cond 3 Tryz.f3 rfl rfl rfl rfl rfl rfl rfl ⟨rfl,rfl,rfl,rfl,rfl⟩ rfl rfl rfl rfl rfl zaw Tryz.func3 joined
  (of_decide_eq_true zaw) (by unfold Func.isWrapper;first|(rw[if_pos zaQ];kernel_rfl)|(rw[if_neg zaQ];exact⟨rfl,rfl⟩))
  (fun os started H enc _ F=>by rw[OpenClaim.pre_eq_preRow];exact lifted os started H enc F)
theorem plain(f:FuncId)(fn:Func) (hf:Tryz.pinned.checked.prog.funcNamed "sealwright/sealwrighttop.TopBytes" = some f) (hfn:Tryz.pinned.checked.prog.funcs[f]?=some fn) :
  false=Tryz.pinned.checked.prog.looks []/\∀(j:Nat) t,fn.params[j]?=some t->Tryz.pinned.checked.prog.wantsStandIn t=false:=by
 obtain rfl:f=3:=Option.some.inj ((show Tryz.prog.funcNamed "sealwright/sealwrighttop.TopBytes" = some 3 by kernel_rfl).symm.trans hf) |>.symm
 obtain rfl:fn=Tryz.f3:=(Option.some.inj (Tryz.func3.symm.trans hfn)).symm
 refine⟨by kernel_rfl,fun j t ht=>?_⟩
 rw[Tryz.params3] at ht
 have hm:=Array.mem_of_getElem? ht
 simp only[List.mem_toArray,List.mem_cons,List.not_mem_nil,or_false] at hm
 rcases hm with rfl|rfl|rfl|rfl|rfl|rfl|rfl|rfl
 ·exact(show Tryz.prog.wantsStandIn 22=false by kernel_rfl)
 ·exact(show Tryz.prog.wantsStandIn 22=false by kernel_rfl)
 ·exact(show Tryz.prog.wantsStandIn 22=false by kernel_rfl)
 ·exact(show Tryz.prog.wantsStandIn 3=false by kernel_rfl)
 ·exact(show Tryz.prog.wantsStandIn 3=false by kernel_rfl)
 ·exact(show Tryz.prog.wantsStandIn 3=false by kernel_rfl)
 ·exact(show Tryz.prog.wantsStandIn 3=false by kernel_rfl)
 ·exact(show Tryz.prog.wantsStandIn 5=false by kernel_rfl)
end
end Go.Proofs.YtlpkjhhfhannpaaGreatDoor.lTopBytes
