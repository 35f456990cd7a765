/-
  Own texts, laid together for this claim: contracts of functions of the program and its references, used by the statements of this seat.
-/
import Derived.Test.YtanagnimhaemgaaGreatDoorQtaa
set_option linter.all false
set_option maxHeartbeats 40000000
set_option maxRecDepth 100000
namespace Go.Ax
open Go Go.Eng Go.RowKit
def glB(g0:Nat)(tab:List UInt32):TT->Bool
 | []=>true
 | (_,i)::r=>(match i.gl with|[]=>true|(g,l)::[]=>Nat.beq g g0&&decide (l=tab)|_=>false)&&glB g0 tab r
def A8A:Value->Value->Bool
 | .int .i64 a,.int .i64 b|.int .u8 a,.int .u8 b=>decide (a=b)
 | _,_=>false
def A5Z:List Value->List Value->Bool
 | [],[]=>true
 | a::l,b::m=>A8A a b&&A5Z l m
 | _,_=>false
theorem A5a{a b:Value}(h:A8A a b=true):a=b:=by
 unfold A8A at h
 split at h
 ·rw[of_decide_eq_true h]
 ·rw[of_decide_eq_true h]
 ·cases h
theorem vz:∀ {l m:List Value},A5Z l m=true->l=m
 | [],[],_=>rfl
 | a::l,b::m,h=>by simp only[A5Z,Bool.and_eq_true] at h;rw[A5a h.1,vz h.2]
 | [],_::_,h|_::_,[],h=>zaL
def A5b(g:Nat)(us:List Value):List (Nat×List Value)->Bool
 | []=>false
 | (d,v)::r=>(Nat.beq g d&&A5Z us v)||A5b g us r
theorem wB{g:Nat}{us:List Value}:∀ {L:List (Nat×List Value)},A5b g us L=true->(g,us)∈L
 | [],h=>zaL
 | (d,v)::r,h=>by
  simp only[A5b,Bool.or_eq_true,Bool.and_eq_true] at h
  rcases h with⟨h1,h2⟩|h
  ·rw[F8 h1,vz h2];exact List.mem_cons_self ..
  ·exact List.mem_cons_of_mem _ (wB h)
def gaB(L:List (Nat×List Value)):TT->Bool
 | []=>true
 | (_,i)::r=>(match i.ga with|[]=>true|(g,us)::[]=>A5b g us L|_=>false)&&gaB L r
theorem A2N{L:List (Nat×List Value)}:∀ {T:TT},gaB L T=true->∀ t i,ML t T=some i->i.ga=[]\/∃ p,p∈L/\i.ga=[p]
 | [],_,t,i,h=>zaL
 | (d,v)::r,h,t,i,h1=>by
  simp only[gaB,Bool.and_eq_true] at h
  simp only[ML] at h1
  cases hb:Nat.beq t d with
  | false=>rw[hb] at h1;exact A2N h.2 t i h1
  | true =>
   rw[hb] at h1
   obtain rfl:=Option.some.inj h1
   have h3:=h.1
   split at h3
   ·rename_i e;exact .inl e
   ·rename_i g us e;exact .inr ⟨_,wB h3,e⟩
   ·cases h3
theorem A2O{g0:Nat}{tab:List UInt32}:∀ {T:TT},glB g0 tab T=true->∀ t i g l,ML t T=some i->glk g i.gl=some l->g=g0/\l=tab
 | [],_,t,i,g,l,h,_=>zaL
 | (d,v)::r,h,t,i,g,l,h1,h2=>by
  simp only[glB,Bool.and_eq_true] at h
  simp only[ML] at h1
  cases hb:Nat.beq t d with
  | false=>rw[hb] at h1;exact A2O h.2 t i g l h1 h2
  | true =>
   rw[hb] at h1
   obtain rfl:=Option.some.inj h1
   have h3:=h.1
   split at h3
   ·rename_i e;rw[e] at h2;cases h2
   ·rename_i g' l' e
    rw[e] at h2
    simp only[Bool.and_eq_true,decide_eq_true_eq] at h3
    simp only[glk] at h2
    cases hg:Nat.beq g g' with
    | false=>rw[hg] at h2;cases h2
    | true=>rw[hg] at h2;exact⟨(F8 hg).trans (F8 h3.1),(Option.some.inj h2).symm.trans h3.2⟩
   ·cases h3
end Go.Ax
namespace Go.Proofs.YtanagnimhaemgaaGreatDoor
open Go Go.Ax Go.Eng Go.RowKit
section
attribute [local irreducible] Bl CQ CS Bo Bg Ar CU Dw EN Dy EC Bf BU Bv Bz and' C9 CB BK Au BA BL BN Aa Ad AP AZ CV Dq CW DI CE BP BM BF BG BB AU BC Ae Ap Ai CX BH Bh Ba BO CG CY CJ fits CZ CO A8 AA Ac
theorem TU{P:Program}{I:World->Prop}{f:FuncId}{t:Ty}{l:List (El t)}{s:AV}{H:List (Option Rs)}(h1:l=[]->Yh P I f [.nil] [] s H)(h2:Yh P I f [.sn t l] [] s H):Yh P I f [.sl t l] [] s H:=by
 intro ν O w args hG hR hP
 simp only[AY,Rep] at hR
 obtain⟨u,_,rfl,hu,rfl⟩:=hR
 obtain⟨cs,hc,a,cap,rfl,h3,h4,h5,h6,h7⟩:=hu w (Stp.refl _ _)
 cases a with
 | none =>
  obtain⟨e1,e2⟩:=h6 rfl
  exact h1 (List.length_eq_zero_iff.1 e1) ν O w _ hG (by simp only[AY,Rep];exact⟨_,_,rfl,by rw[e1,e2],rfl⟩) hP
 | some p=>exact h2 ν O w _ hG (by simp only[AY,Rep];exact⟨_,_,rfl,⟨⟨p,_,_,rfl⟩,hu⟩,rfl⟩) hP
structure KT (w:World):Prop where
 kt:∀ j,j<64->w.cell? ⟨2,0+j,none⟩=some (wordV (Iz.getD j 0))
 fm:∀ j u,formsV[j]?=some u->w.cell? ⟨1,j,none⟩=some u
 mg:∀ j u,magicV[j]?=some u->w.cell? ⟨0,j,none⟩=some u
theorem KT.ext{w w':World}(h:KT w)(he:Ext w w'):KT w' where
 kt j hj:=Rz (h.kt j hj) he
 fm j u hu:=Rz (h.fm j u hu) he
 mg j u hu:=Rz (h.mg j u hu) he
abbrev I0:World->Prop:=KT
theorem tg0:TTok Tryz.prog I0 TT0 where
 tok:=tt0
 gl t i g l h1 h2 w hw j x hx:=by
  obtain⟨rfl,rfl⟩:=A2O (g0:=2) (tab:=Iz) (T:=TT0) zaj _ _ _ _ h1 h2
  have hj:=(List.getElem?_eq_some_iff.1 hx).1
  have h3:=hw.kt j hj
  rw[Nat.zero_add] at h3
  rw[h3,List.getD,hx];rfl
 ga t i g us h1 h2:=by
  rcases A2N (L:=[(1,formsV),(0,magicV)]) (T:=TT0) zaj _ _ h1 with e|⟨p,hp,e⟩
  ·rw[e] at h2;cases h2
  ·rw[e] at h2
   simp only[List.mem_cons,List.not_mem_nil,or_false] at hp
   rcases hp with rfl|rfl
   ·simp only[iR] at h2
    cases hb:Nat.beq g 1 with
    | false=>rw[hb] at h2;cases h2
    | true =>
     rw[hb] at h2
     obtain rfl:=F8 hb
     obtain rfl:=Option.some.inj h2
     exact⟨fun u hu=>List.all_eq_true.1 (show(formsV.all fun u=>u.oneCell')=true from by kernel_rfl) u hu,fun w hw=>hw.fm⟩
   ·simp only[iR] at h2
    cases hb:Nat.beq g 0 with
    | false=>rw[hb] at h2;cases h2
    | true =>
     rw[hb] at h2
     obtain rfl:=F8 hb
     obtain rfl:=Option.some.inj h2
     exact⟨fun u hu=>List.all_eq_true.1 (show(magicV.all fun u=>u.oneCell')=true from by kernel_rfl) u hu,fun w hw=>hw.mg⟩
noncomputable def E00:Env:=⟨TT0,FT0,CT0,fun _=>none,[]⟩
theorem A5c:Y E00 (.call 224 [.nil] [])=some (.ret (.nm 0) [some (.row 99 objT [])]):=by
 rw[AO];conv=>lhs;whnf
theorem A8B(l:List (El objT))(h:l.length<=4294967296):Y E00 (.call 224 [.sn objT l] [])=some (.ret (.nm 0) [some (.row 99 objT l)]):=by
 rw[AO];conv=>lhs;whnf
 rw[Dx zai]
 conv=>lhs;whnf
 simp only[NO];try with_reducible rfl
theorem A5d:Y E00 (.call 339 [.nil] [])=some (.ret (.nm 0) [some (.row 187 BR [])]):=by
 rw[AO];conv=>lhs;whnf
theorem A8C(l:List (El BR))(h:l.length<=4294967296):Y E00 (.call 339 [.sn BR l] [])=some (.ret (.nm 0) [some (.row 187 BR l)]):=by
 rw[AO];conv=>lhs;whnf
 rw[Dx zai]
 conv=>lhs;whnf
 simp only[NO];try with_reducible rfl
theorem A5e:Y E00 (.call 262 [.nil] [])=some (.ret (.nm 0) [some (.row 181 AL [])]):=by
 rw[AO];conv=>lhs;whnf
theorem A8D(l:List (El AL))(h:l.length<=4294967296):Y E00 (.call 262 [.sn AL l] [])=some (.ret (.nm 0) [some (.row 181 AL l)]):=by
 rw[AO];conv=>lhs;whnf
 rw[Dx zai]
 conv=>lhs;whnf
 simp only[NO];try with_reducible rfl
theorem A5f:Y E00 (.call 314 [.nil] [])=some (.ret (.nm 0) [some (.row 22 (.sl .u8) [])]):=by
 rw[AO];conv=>lhs;whnf
theorem A8E(l:List (El (.sl .u8)))(h:l.length<=4294967296):Y E00 (.call 314 [.sn (.sl .u8) l] [])=some (.ret (.nm 0) [some (.row 22 (.sl .u8) l)]):=by
 rw[AO];conv=>lhs;whnf
 rw[Dx zai]
 conv=>lhs;whnf
 simp only[NO];try with_reducible rfl
theorem A5g:Y E00 (.call 312 [.nil] [])=some (.ret (.nm 0) [some (.row 3 (.i64) [])]):=by
 rw[AO];conv=>lhs;whnf
theorem A8F(l:List (El (.i64)))(h:l.length<=4294967296):Y E00 (.call 312 [.sn (.i64) l] [])=some (.ret (.nm 0) [some (.row 3 (.i64) l)]):=by
 rw[AO];conv=>lhs;whnf
 rw[Dx zai]
 conv=>lhs;whnf
 simp only[NO];try with_reducible rfl
theorem TV{α:Type}{l:List α}(h:fits l 32768=true):l.length<=4294967296:=by
 simp only[X6,fits0,decide_eq_true_eq] at h;omega
noncomputable def ovC:Orc:=fun q=>match q with
 | .call f [.sl t l] [] =>
  bif Nat.beq f 224&&decide (t=objT)&&fits l 32768 then some (.ret (.nm 0) [some (.row 99 t l)]) else
  bif Nat.beq f 339&&decide (t=BR)&&fits l 32768 then some (.ret (.nm 0) [some (.row 187 t l)]) else
  bif Nat.beq f 262&&decide (t=AL)&&fits l 32768 then some (.ret (.nm 0) [some (.row 181 t l)]) else
  bif Nat.beq f 314&&decide (t=(.sl .u8))&&fits l 32768 then some (.ret (.nm 0) [some (.row 22 t l)]) else
  bif Nat.beq f 312&&decide (t=(.i64))&&fits l 32768 then some (.ret (.nm 0) [some (.row 3 t l)]) else
  none
 | _=>none
theorem A8G{E:Env}:∀ q r,ovC q=some r->A5I Tryz.prog I0 E q r:=by
 have e00:EnvOK Tryz.prog I0 E00:=⟨tg0,ft0,ct0.get,by kernel_rfl,fun _ _ h=>by cases h⟩
 intro q r h
 unfold ovC at h
 split at h
 ·rename_i f t l
  cases hb0:(Nat.beq f 224&&decide (t=objT)&&fits l 32768) with
  | true =>
   rw[hb0,cond_true] at h
   simp only[Bool.and_eq_true,decide_eq_true_eq] at hb0
   obtain⟨⟨h1,rfl⟩,h3⟩:=hb0
   obtain rfl:=Nat.eq_of_beq_eq_true h1
   obtain rfl:=Option.some.inj h
   exact TU (fun e=>by subst e;exact Kv e00 A5c) (Kv e00 (A8B l (TV h3)))
  | false =>
  rw[hb0,cond_false] at h
  cases hb1:(Nat.beq f 339&&decide (t=BR)&&fits l 32768) with
  | true =>
   rw[hb1,cond_true] at h
   simp only[Bool.and_eq_true,decide_eq_true_eq] at hb1
   obtain⟨⟨h1,rfl⟩,h3⟩:=hb1
   obtain rfl:=Nat.eq_of_beq_eq_true h1
   obtain rfl:=Option.some.inj h
   exact TU (fun e=>by subst e;exact Kv e00 A5d) (Kv e00 (A8C l (TV h3)))
  | false =>
  rw[hb1,cond_false] at h
  cases hb2:(Nat.beq f 262&&decide (t=AL)&&fits l 32768) with
  | true =>
   rw[hb2,cond_true] at h
   simp only[Bool.and_eq_true,decide_eq_true_eq] at hb2
   obtain⟨⟨h1,rfl⟩,h3⟩:=hb2
   obtain rfl:=Nat.eq_of_beq_eq_true h1
   obtain rfl:=Option.some.inj h
   exact TU (fun e=>by subst e;exact Kv e00 A5e) (Kv e00 (A8D l (TV h3)))
  | false =>
  rw[hb2,cond_false] at h
  cases hb3:(Nat.beq f 314&&decide (t=(.sl .u8))&&fits l 32768) with
  | true =>
   rw[hb3,cond_true] at h
   simp only[Bool.and_eq_true,decide_eq_true_eq] at hb3
   obtain⟨⟨h1,rfl⟩,h3⟩:=hb3
   obtain rfl:=Nat.eq_of_beq_eq_true h1
   obtain rfl:=Option.some.inj h
   exact TU (fun e=>by subst e;exact Kv e00 A5f) (Kv e00 (A8E l (TV h3)))
  | false =>
  rw[hb3,cond_false] at h
  cases hb4:(Nat.beq f 312&&decide (t=(.i64))&&fits l 32768) with
  | true =>
   rw[hb4,cond_true] at h
   simp only[Bool.and_eq_true,decide_eq_true_eq] at hb4
   obtain⟨⟨h1,rfl⟩,h3⟩:=hb4
   obtain rfl:=Nat.eq_of_beq_eq_true h1
   obtain rfl:=Option.some.inj h
   exact TU (fun e=>by subst e;exact Kv e00 A5g) (Kv e00 (A8F l (TV h3)))
  | false =>
  rw[hb4,cond_false] at h
  cases h
 ·cases h
end
end Go.Proofs.YtanagnimhaemgaaGreatDoor
