/-
  Own texts, laid together for this claim: contracts of functions of the program and its references, used by the statements of this seat.
-/
import Derived.Test.YtanagnimhaemgaaGreatDoorKtaa
set_option linter.all false
set_option maxHeartbeats 40000000
set_option maxRecDepth 100000
namespace Go.Ax
open Go Go.Eng Go.RowKit
def glB(g0:Nat)(tab:List UInt32):TT->Bool
 | []=>true
 | (_,i)::r=>(match i.gl with|[]=>true|(g,l)::[]=>Nat.beq g g0&&decide (l=tab)|_=>false)&&glB g0 tab r
def A4g:Value->Value->Bool
 | .int .i64 a,.int .i64 b|.int .u8 a,.int .u8 b=>decide (a=b)
 | _,_=>false
def A2Q:List Value->List Value->Bool
 | [],[]=>true
 | a::l,b::m=>A4g a b&&A2Q l m
 | _,_=>false
theorem A2R{a b:Value}(h:A4g a b=true):a=b:=by
 unfold A4g at h
 split at h
 ·rw[of_decide_eq_true h]
 ·rw[of_decide_eq_true h]
 ·cases h
theorem oP:∀ {l m:List Value},A2Q l m=true->l=m
 | [],[],_=>rfl
 | a::l,b::m,h=>by simp only[A2Q,Bool.and_eq_true] at h;rw[A2R h.1,oP h.2]
 | [],_::_,h|_::_,[],h=>zaF
def A2S(g:Nat)(us:List Value):List (Nat×List Value)->Bool
 | []=>false
 | (d,v)::r=>(Nat.beq g d&&A2Q us v)||A2S g us r
theorem oQ{g:Nat}{us:List Value}:∀ {L:List (Nat×List Value)},A2S g us L=true->(g,us)∈L
 | [],h=>zaF
 | (d,v)::r,h=>by
  simp only[A2S,Bool.or_eq_true,Bool.and_eq_true] at h
  rcases h with⟨h1,h2⟩|h
  ·rw[Es h1,oP h2];exact List.mem_cons_self ..
  ·exact List.mem_cons_of_mem _ (oQ h)
def gaB(L:List (Nat×List Value)):TT->Bool
 | []=>true
 | (_,i)::r=>(match i.ga with|[]=>true|(g,us)::[]=>A2S g us L|_=>false)&&gaB L r
theorem zI{L:List (Nat×List Value)}:∀ {T:TT},gaB L T=true->∀ t i,Lr t T=some i->i.ga=[]\/∃ p,p∈L/\i.ga=[p]
 | [],_,t,i,h=>zaF
 | (d,v)::r,h,t,i,h1=>by
  simp only[gaB,Bool.and_eq_true] at h
  simp only[Lr] at h1
  cases hb:Nat.beq t d with
  | false=>rw[hb] at h1;exact zI h.2 t i h1
  | true =>
   rw[hb] at h1
   obtain rfl:=Option.some.inj h1
   have h3:=h.1
   split at h3
   ·rename_i e;exact .inl e
   ·rename_i g us e;exact .inr ⟨_,oQ h3,e⟩
   ·cases h3
theorem zJ{g0:Nat}{tab:List UInt32}:∀ {T:TT},glB g0 tab T=true->∀ t i g l,Lr t T=some i->glk g i.gl=some l->g=g0/\l=tab
 | [],_,t,i,g,l,h,_=>zaF
 | (d,v)::r,h,t,i,g,l,h1,h2=>by
  simp only[glB,Bool.and_eq_true] at h
  simp only[Lr] at h1
  cases hb:Nat.beq t d with
  | false=>rw[hb] at h1;exact zJ h.2 t i g l h1 h2
  | true =>
   rw[hb] at h1
   obtain rfl:=Option.some.inj h1
   have h3:=h.1
   split at h3
   ·rename_i e;rw[e] at h2;cases h2
   ·rename_i g' l' e
    rw[e] at h2
    simp only[Bool.and_eq_true,decide_eq_true_eq] at h3
    simp only[glk] at h2
    cases hg:Nat.beq g g' with
    | false=>rw[hg] at h2;cases h2
    | true=>rw[hg] at h2;exact⟨(Es hg).trans (Es h3.1),(Option.some.inj h2).symm.trans h3.2⟩
   ·cases h3
end Go.Ax
namespace Go.Proofs.YtanagnimhaemgaaGreatDoor
open Go Go.Ax Go.Eng Go.RowKit
section
attribute [local irreducible] Bl CS CU CJ Bh Ak CV Du EN E5 EH Be BN CE Bz and' CG CO BC Ag Ar BF BG AY Aa AP AX CW Dv CX DT C9 BJ BD BA BB Au AQ Az Ac Aw Ah CY BL Bi BR BI CB CZ CP fits Cb CQ A8 AA AZ
theorem Ru{P:Program}{I:World->Prop}{f:FuncId}{t:Ty}{l:List (El t)}{s:AV}{H:List (Option Rs)}(h1:l=[]->XD P I f [.nil] [] s H)(h2:XD P I f [.sn t l] [] s H):XD P I f [.sl t l] [] s H:=by
 intro ν O w args hG hR hP
 simp only[AO,Rep] at hR
 obtain⟨u,_,rfl,hu,rfl⟩:=hR
 obtain⟨cs,hc,a,cap,rfl,h3,h4,h5,h6,h7⟩:=hu w (Stp.refl _ _)
 cases a with
 | none =>
  obtain⟨e1,e2⟩:=h6 rfl
  exact h1 (List.length_eq_zero_iff.1 e1) ν O w _ hG (by simp only[AO,Rep];exact⟨_,_,rfl,by rw[e1,e2],rfl⟩) hP
 | some p=>exact h2 ν O w _ hG (by simp only[AO,Rep];exact⟨_,_,rfl,⟨⟨p,_,_,rfl⟩,hu⟩,rfl⟩) hP
structure KT (w:World):Prop where
 kt:∀ j,j<64->w.cell? ⟨2,0+j,none⟩=some (wordV (J8.getD j 0))
 fm:∀ j u,formsV[j]?=some u->w.cell? ⟨1,j,none⟩=some u
 mg:∀ j u,magicV[j]?=some u->w.cell? ⟨0,j,none⟩=some u
theorem KT.ext{w w':World}(h:KT w)(he:Ext w w'):KT w' where
 kt j hj:=Qk (h.kt j hj) he
 fm j u hu:=Qk (h.fm j u hu) he
 mg j u hu:=Qk (h.mg j u hu) he
abbrev I0:World->Prop:=KT
theorem tg0:TTok Tryz.prog I0 TT0 where
 tok:=tt0
 gl t i g l h1 h2 w hw j x hx:=by
  obtain⟨rfl,rfl⟩:=zJ (g0:=2) (tab:=J8) (T:=TT0) zai _ _ _ _ h1 h2
  have hj:=(List.getElem?_eq_some_iff.1 hx).1
  have h3:=hw.kt j hj
  rw[Nat.zero_add] at h3
  rw[h3,List.getD,hx];rfl
 ga t i g us h1 h2:=by
  rcases zI (L:=[(1,formsV),(0,magicV)]) (T:=TT0) zai _ _ h1 with e|⟨p,hp,e⟩
  ·rw[e] at h2;cases h2
  ·rw[e] at h2
   simp only[List.mem_cons,List.not_mem_nil,or_false] at hp
   rcases hp with rfl|rfl
   ·simp only[ay] at h2
    cases hb:Nat.beq g 1 with
    | false=>rw[hb] at h2;cases h2
    | true =>
     rw[hb] at h2
     obtain rfl:=Es hb
     obtain rfl:=Option.some.inj h2
     exact⟨fun u hu=>List.all_eq_true.1 (show(formsV.all fun u=>u.oneCell')=true from by kernel_rfl) u hu,fun w hw=>hw.fm⟩
   ·simp only[ay] at h2
    cases hb:Nat.beq g 0 with
    | false=>rw[hb] at h2;cases h2
    | true =>
     rw[hb] at h2
     obtain rfl:=Es hb
     obtain rfl:=Option.some.inj h2
     exact⟨fun u hu=>List.all_eq_true.1 (show(magicV.all fun u=>u.oneCell')=true from by kernel_rfl) u hu,fun w hw=>hw.mg⟩
noncomputable def E00:Env:=⟨TT0,FT0,CT0,fun _=>none,[]⟩
theorem A2T:Y E00 (.call 224 [.nil] [])=some (.ret (.nm 0) [some (.row 99 objT [])]):=by
 rw[AU];conv=>lhs;whnf
theorem A4h(l:List (El objT))(h:l.length<=4294967296):Y E00 (.call 224 [.sn objT l] [])=some (.ret (.nm 0) [some (.row 99 objT l)]):=by
 rw[AU];conv=>lhs;whnf
 rw[EF zak]
 conv=>lhs;whnf
 simp only[NO];try with_reducible rfl
theorem A2U:Y E00 (.call 339 [.nil] [])=some (.ret (.nm 0) [some (.row 187 BP [])]):=by
 rw[AU];conv=>lhs;whnf
theorem A4i(l:List (El BP))(h:l.length<=4294967296):Y E00 (.call 339 [.sn BP l] [])=some (.ret (.nm 0) [some (.row 187 BP l)]):=by
 rw[AU];conv=>lhs;whnf
 rw[EF zak]
 conv=>lhs;whnf
 simp only[NO];try with_reducible rfl
theorem A2V:Y E00 (.call 262 [.nil] [])=some (.ret (.nm 0) [some (.row 181 AB [])]):=by
 rw[AU];conv=>lhs;whnf
theorem A4j(l:List (El AB))(h:l.length<=4294967296):Y E00 (.call 262 [.sn AB l] [])=some (.ret (.nm 0) [some (.row 181 AB l)]):=by
 rw[AU];conv=>lhs;whnf
 rw[EF zak]
 conv=>lhs;whnf
 simp only[NO];try with_reducible rfl
theorem A2W:Y E00 (.call 314 [.nil] [])=some (.ret (.nm 0) [some (.row 22 (.sl .u8) [])]):=by
 rw[AU];conv=>lhs;whnf
theorem A4k(l:List (El (.sl .u8)))(h:l.length<=4294967296):Y E00 (.call 314 [.sn (.sl .u8) l] [])=some (.ret (.nm 0) [some (.row 22 (.sl .u8) l)]):=by
 rw[AU];conv=>lhs;whnf
 rw[EF zak]
 conv=>lhs;whnf
 simp only[NO];try with_reducible rfl
theorem A2X:Y E00 (.call 312 [.nil] [])=some (.ret (.nm 0) [some (.row 3 (.i64) [])]):=by
 rw[AU];conv=>lhs;whnf
theorem A4l(l:List (El (.i64)))(h:l.length<=4294967296):Y E00 (.call 312 [.sn (.i64) l] [])=some (.ret (.nm 0) [some (.row 3 (.i64) l)]):=by
 rw[AU];conv=>lhs;whnf
 rw[EF zak]
 conv=>lhs;whnf
 simp only[NO];try with_reducible rfl
theorem Rx{α:Type}{l:List α}(h:fits l 32768=true):l.length<=4294967296:=by
 simp only[VW,fits0,decide_eq_true_eq] at h;omega
noncomputable def ovC:Orc:=fun q=>match q with
 | .call f [.sl t l] [] =>
  bif Nat.beq f 224&&decide (t=objT)&&fits l 32768 then some (.ret (.nm 0) [some (.row 99 t l)]) else
  bif Nat.beq f 339&&decide (t=BP)&&fits l 32768 then some (.ret (.nm 0) [some (.row 187 t l)]) else
  bif Nat.beq f 262&&decide (t=AB)&&fits l 32768 then some (.ret (.nm 0) [some (.row 181 t l)]) else
  bif Nat.beq f 314&&decide (t=(.sl .u8))&&fits l 32768 then some (.ret (.nm 0) [some (.row 22 t l)]) else
  bif Nat.beq f 312&&decide (t=(.i64))&&fits l 32768 then some (.ret (.nm 0) [some (.row 3 t l)]) else
  none
 | _=>none
theorem A4m{E:Env}:∀ q r,ovC q=some r->A2B Tryz.prog I0 E q r:=by
 have e00:EnvOK Tryz.prog I0 E00:=⟨tg0,ft0,ct0.get,by kernel_rfl,fun _ _ h=>by cases h⟩
 intro q r h
 unfold ovC at h
 split at h
 ·rename_i f t l
  cases hb0:(Nat.beq f 224&&decide (t=objT)&&fits l 32768) with
  | true =>
   rw[hb0,cond_true] at h
   simp only[Bool.and_eq_true,decide_eq_true_eq] at hb0
   obtain⟨⟨h1,rfl⟩,h3⟩:=hb0
   obtain rfl:=Nat.eq_of_beq_eq_true h1
   obtain rfl:=Option.some.inj h
   exact Ru (fun e=>by subst e;exact KU e00 A2T) (KU e00 (A4h l (Rx h3)))
  | false =>
  rw[hb0,cond_false] at h
  cases hb1:(Nat.beq f 339&&decide (t=BP)&&fits l 32768) with
  | true =>
   rw[hb1,cond_true] at h
   simp only[Bool.and_eq_true,decide_eq_true_eq] at hb1
   obtain⟨⟨h1,rfl⟩,h3⟩:=hb1
   obtain rfl:=Nat.eq_of_beq_eq_true h1
   obtain rfl:=Option.some.inj h
   exact Ru (fun e=>by subst e;exact KU e00 A2U) (KU e00 (A4i l (Rx h3)))
  | false =>
  rw[hb1,cond_false] at h
  cases hb2:(Nat.beq f 262&&decide (t=AB)&&fits l 32768) with
  | true =>
   rw[hb2,cond_true] at h
   simp only[Bool.and_eq_true,decide_eq_true_eq] at hb2
   obtain⟨⟨h1,rfl⟩,h3⟩:=hb2
   obtain rfl:=Nat.eq_of_beq_eq_true h1
   obtain rfl:=Option.some.inj h
   exact Ru (fun e=>by subst e;exact KU e00 A2V) (KU e00 (A4j l (Rx h3)))
  | false =>
  rw[hb2,cond_false] at h
  cases hb3:(Nat.beq f 314&&decide (t=(.sl .u8))&&fits l 32768) with
  | true =>
   rw[hb3,cond_true] at h
   simp only[Bool.and_eq_true,decide_eq_true_eq] at hb3
   obtain⟨⟨h1,rfl⟩,h3⟩:=hb3
   obtain rfl:=Nat.eq_of_beq_eq_true h1
   obtain rfl:=Option.some.inj h
   exact Ru (fun e=>by subst e;exact KU e00 A2W) (KU e00 (A4k l (Rx h3)))
  | false =>
  rw[hb3,cond_false] at h
  cases hb4:(Nat.beq f 312&&decide (t=(.i64))&&fits l 32768) with
  | true =>
   rw[hb4,cond_true] at h
   simp only[Bool.and_eq_true,decide_eq_true_eq] at hb4
   obtain⟨⟨h1,rfl⟩,h3⟩:=hb4
   obtain rfl:=Nat.eq_of_beq_eq_true h1
   obtain rfl:=Option.some.inj h
   exact Ru (fun e=>by subst e;exact KU e00 A2X) (KU e00 (A4l l (Rx h3)))
  | false =>
  rw[hb4,cond_false] at h
  cases h
 ·cases h
end
end Go.Proofs.YtanagnimhaemgaaGreatDoor
