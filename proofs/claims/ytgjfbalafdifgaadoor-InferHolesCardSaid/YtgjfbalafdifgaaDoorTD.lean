/-
  A part of InferHoles's proof: an evaluator of translated functions over plain data, what functions of this seat come to, and laws on plain data.
-/
import Derived.Test.YtgjfbalafdifgaaDoorTC
set_option linter.unusedVariables false
set_option linter.unusedSimpArgs false
set_option linter.unusedSectionVars false
set_option linter.unnecessarySimpa false
namespace Sx
open Go
theorem okV_su (c:Ctx) (h:c.su=0) (he:c.st=18∨c.st=19→c.es=false):okV c=true:=by
 unfold okV
 rw [h]
 split
 ·split
  ·rfl
  ·split <;> rfl
 ·split
  ·rename_i h1
   rw [he (by simpa using h1)];rfl
  ·rfl
theorem okV_st (c:Ctx) (h8:c.st≠8) (h18:c.st≠18) (h19:c.st≠19):okV c=true:=by
 unfold okV
 simp [h8,h18,h19]
theorem tagEnd_okV (el:UInt8):okV (tagEnd el)=true:=by
 unfold tagEnd
 split <;> rfl
theorem begun_su (c:Ctx) (b:UInt8) (hs:c.su=0):(begunV c b).1.su=0:=by
 unfold begunV
 repeat' split
 all_goals first | exact hs | rfl
theorem grown_su (c:Ctx) (b:UInt8) (hs:c.su=0):(grown c b).su=0:=by
 unfold grown
 split
 ·rfl
 ·exact hs
theorem named_su (c:Ctx) (b:UInt8) (hs:c.su=0):(named c b).1.su=0:=by
 unfold named
 repeat' split
 all_goals first | exact hs | rfl | exact grown_su c b hs
theorem tag_su (c:Ctx) (b:UInt8) (hs:c.su=0):(tag c b).1.su=0:=by
 unfold tag
 repeat' split
 all_goals first | exact hs | rfl | exact grown_su c b hs | exact begun_su c b hs | exact named_su c b hs | (unfold tagEnd;split <;> rfl)
theorem grown_st (c:Ctx) (b:UInt8):(grown c b).st=20∨(grown c b).st=c.st:=by
 unfold grown
 split
 ·exact .inl rfl
 ·exact .inr rfl
theorem tag_st (c:Ctx) (b:UInt8) (h:isT c.st=true):(tag c b).1.st≠18∧(tag c b).1.st≠19:=by
 have hc:c.st≠18∧c.st≠19:=by
  constructor <;> (intro e;rw [e] at h;cases h)
 have hg:=grown_st c b
 have key:(grown c b).st≠18∧(grown c b).st≠19:=by
  rcases hg with e | e <;> rw [e]
  ·decide
  ·exact hc
 have k4 (s:UInt8) (d:Ctx) (hs:s≠18∧s≠19) (e:d.st=s):d.st≠18∧d.st≠19:=by rw [e];exact hs
 unfold tag begunV named tagEnd
 repeat' split
 all_goals first | exact hc | exact key | exact k4 9 _ (by decide) rfl | exact k4 4 _ (by decide) rfl | exact k4 10 _ (by decide) rfl | exact k4 17 _ (by decide) rfl | exact k4 5 _ (by decide) rfl | exact k4 8 _ (by decide) rfl | exact k4 7 _ (by decide) rfl | exact k4 6 _ (by decide) rfl | exact k4 0 _ (by decide) rfl | exact k4 20 _ (by decide) rfl
theorem tag_okV (c:Ctx) (b:UInt8) (h:isT c.st=true) (hs:c.su=0):okV (tag c b).1=true:=by
 obtain ⟨h1,h2⟩:=tag_st c b h
 exact okV_su _ (tag_su c b hs) (fun h'=>by rcases h' with e | e;exact absurd e h1;exact absurd e h2)
theorem code_str (c:Ctx) (b:UInt8) (s:Bool):((code c b s).su=1→c.su=1∨b=34)∧((code c b s).su=2→c.su=2∨b=39):=by
 have q0 (x:UInt8) (d:Ctx) (e:d.su=x) (h1:x≠1) (h2:x≠2):(d.su=1→c.su=1∨b=34)∧(d.su=2→c.su=2∨b=39):=by
  rw [e];exact ⟨fun h=>absurd h h1,fun h=>absurd h h2⟩
 have q1 (d:Ctx) (e:d.su=1) (h:(b == 34)=true):(d.su=1→c.su=1∨b=34)∧(d.su=2→c.su=2∨b=39):=by
  rw [e];exact ⟨fun _=>.inr (eq_of_beq h),fun h=>absurd h (by decide)⟩
 have q2 (d:Ctx) (e:d.su=2) (h:(b == 39)=true):(d.su=1→c.su=1∨b=34)∧(d.su=2→c.su=2∨b=39):=by
  rw [e];exact ⟨fun h=>absurd h (by decide),fun _=>.inr (eq_of_beq h)⟩
 have k0 (d:Ctx) (hd:d.su=0∨d=c):((code0 d b s).su=1→c.su=1∨b=34)∧((code0 d b s).su=2→c.su=2∨b=39):=by
  have kd:(d.su=1→c.su=1∨b=34)∧(d.su=2→c.su=2∨b=39):=by
   rcases hd with e | e
   ·exact q0 0 d e (by decide) (by decide)
   ·rw [e];exact ⟨.inl, .inl⟩
  unfold code0
  repeat' split
  all_goals first
   | exact kd
   | exact q0 0 _ rfl (by decide) (by decide)
   | exact q0 3 _ rfl (by decide) (by decide)
   | (rename_i h;exact q1 _ rfl h)
   | (rename_i h;exact q2 _ rfl h)
 have kt:((text c b).su=1→c.su=1∨b=34)∧((text c b).su=2→c.su=2∨b=39):=by
  unfold text
  repeat' split
  all_goals first
   | exact ⟨.inl, .inl⟩
   | exact q0 0 _ rfl (by decide) (by decide)
 unfold code
 repeat' split
 all_goals first
  | exact ⟨.inl, .inl⟩
  | exact k0 c (.inr rfl)
  | exact k0 _ (.inl rfl)
  | exact kt
  | exact q0 0 _ rfl (by decide) (by decide)
  | exact q0 4 _ rfl (by decide) (by decide)
  | exact q0 5 _ rfl (by decide) (by decide)
  | exact q0 6 _ rfl (by decide) (by decide)
theorem okV8 (c:Ctx) (h:c.st=8):okV c=(if c.qu == 34 then c.su != 1 else if c.qu == 39 then c.su != 2 else c.su != 1 && c.su != 2):=by
 unfold okV
 rw [h];rfl
theorem value_okV (c:Ctx) (b:UInt8) (h:form c=true) (hv:okV c=true) (e:c.st=8):okV (value c b)=true:=by
 obtain ⟨hq,hc⟩:=form_val c h e
 unfold value
 split
 ·split
  ·rfl
  ·split
   ·rfl
   ·split
    ·exact tagEnd_okV _
    ·rfl
 ·rename_i hne
  split
  ·rfl
  ·rename_i hnq
   split
   ·rename_i ha
    have hs:c.su=0:=by
     rcases hc with ⟨_,hc,_⟩ | ⟨h23,_⟩ | ⟨h04,_⟩
     ·rw [hc]
     ·rw [beq_iff_eq] at ha;rcases h23 with x | x <;> rw [x] at ha <;> exact absurd ha (by decide)
     ·rw [beq_iff_eq] at ha;rcases h04 with x | x <;> rw [x] at ha <;> exact absurd ha (by decide)
    have:(url c b).su=0∧((url c b).st=8∨(url c b).st=20):=by
     unfold url
     repeat' split
     all_goals first | exact ⟨rfl, .inr rfl⟩ | exact ⟨hs, .inl e⟩
    refine okV_su _ this.1 (fun h'=>?_)
    rcases this.2 with x | x <;> rw [x] at h' <;> rcases h' with y | y <;> cases y
   ·split
    ·split
     ·rfl
     ·generalize (c.at' == 2)=s
      obtain ⟨k1,k2⟩:=code_str c b s
      have kf:=code_flat c b s
      rcases kf with x | x
      ·rw [x];rfl
      ·have hst:(code c b s).st=8:=by have:=congrArg Ctx.st x;exact this.trans e
       have hqu:(code c b s).qu=c.qu:=by have:=congrArg Ctx.qu x;exact this
       rw [okV8 _ hst,hqu]
       rw [okV8 _ e] at hv
       have hne':(!(c.qu == 0) && b == c.qu || c.qu == 0 && (blankB b || b == 62))=false:=by simpa using hne
       have hnq':(c.qu == 0 && quoteB b)=false:=by simpa using hnq
       rcases hq with y | y | y <;> rw [y] at hv hne' hnq' ⊢
       ·have hq1:quoteB b=false:=hnq'
        have n34:b≠34:=fun z=>by rw [z] at hq1;cases hq1
        have n39:b≠39:=fun z=>by rw [z] at hq1;cases hq1
        have hv:(c.su != 1 && c.su != 2)=true:=hv
        show ((code c b s).su != 1 && (code c b s).su != 2)=true
        simp only [Bool.and_eq_true,bne_iff_ne] at hv ⊢
        exact ⟨fun z=>(k1 z).elim hv.1 n34,fun z=>(k2 z).elim hv.2 n39⟩
       ·have n34:b≠34:=fun z=>by rw [z] at hne';cases hne'
        have hv:(c.su != 1)=true:=hv
        show ((code c b s).su != 1)=true
        simp only [bne_iff_ne] at hv ⊢
        exact fun z=>(k1 z).elim hv n34
       ·have n39:b≠39:=fun z=>by rw [z] at hne';cases hne'
        have hv:(c.su != 2)=true:=hv
        show ((code c b s).su != 2)=true
        simp only [bne_iff_ne] at hv ⊢
        exact fun z=>(k2 z).elim hv n39
    ·exact hv
theorem code60 (c:Ctx) (s:Bool) (hu:okSu c.su) (hs:subOk c.su c.es s=true):code c 60 s=badC∨(((code c 60 s).su == 0 || (code c 60 s).su == 1 || (code c 60 s).su == 2 || (code c 60 s).su == 4 || (code c 60 s).su == 5) && !(code c 60 s).es)=true:=by
 obtain ⟨st,el,en,at',qu,pa,su,es,da,nm⟩:=c
 simp only at hu hs
 rcases hu with e | e | e | e | e | e | e <;> subst e <;> cases es <;> cases s <;> first | (cases hs;done) | exact .inr rfl | exact .inl rfl
theorem raw2_okV {s:UInt8} {d:Ctx} {nm:List UInt8} (h:RW s d nm∨d=badC) (b:UInt8):okV (raw2 d b true)=true:=by
 rcases h with h | h
 ·have hf:=fed_rw h [b] true
  unfold raw2
  split
  ·rfl
  ·rcases hf with x | x
   ·rw [x];rfl
   ·have h17:(fed d [b] true).st=17:=by obtain ⟨el,su,es,x,_⟩:=x;rw [x]
    split
    ·rename_i hb
     rw [Bool.and_eq_true] at hb
     have hb:=eq_of_beq hb.2
     subst hb
     show (if (18:UInt8) == 8 then _ else if (18:UInt8) == 18 || (18:UInt8) == 19 then ((fed d [60] true).su == 0 || (fed d [60] true).su == 1 || (fed d [60] true).su == 2 || (fed d [60] true).su == 4 || (fed d [60] true).su == 5) && !(fed d [60] true).es else true)=true
     obtain ⟨el,su,es,rfl,hel,hu,hk,h12⟩:=h
     rw [if_neg (by decide),if_pos (by decide)]
     by_cases hc:(el == 3 || el == 4)=true
     ·have hfd:fed ⟨s,el,false,0,0,0,su,es,0,nm⟩ [60] true=if (code ⟨17,el,false,0,0,0,su,es,0,[]⟩ 60 (el == 3)).st == 20 then badC else code ⟨17,el,false,0,0,0,su,es,0,[]⟩ 60 (el == 3):=by
       have:coded 17 el 0=true:=by
        show ((17:UInt8) == 8 && ((0:UInt8) == 2 || (0:UInt8) == 3) || (decide ((17:UInt8)≤17) && decide ((17:UInt8)≤19)) && (el == 3 || el == 4))=true
        rw [hc];rfl
       unfold fed
       simp only [this]
       rfl
      rw [hfd]
      rcases code60 ⟨17,el,false,0,0,0,su,es,0,[]⟩ (el == 3) hu hk with y | y
      ·rw [y];rfl
      ·split
       ·rfl
       ·exact y
     ·have h0:su=0∧es=false:=by
       refine h12 ?_
       simp only [Bool.or_eq_true,beq_iff_eq,not_or] at hc
       rcases hel with y | y | y | y
       ·exact .inl y
       ·exact .inr y
       ·exact absurd y hc.1
       ·exact absurd y hc.2
      obtain ⟨rfl,rfl⟩:=h0
      have hfd:=fed_uncoded ⟨s,el,false,0,0,0,0,false,0,nm⟩ [60] (by simpa using hc)
      rw [← hfd];rfl
    ·exact okV_st _ (by rw [h17];decide) (by rw [h17];decide) (by rw [h17];decide)
 ·rw [h];rfl
theorem rw_of {c:Ctx} (h:form c=true) (e:c.st=17∨c.st=18∨c.st=19):RW c.st c (if (c.st == 19)=true then c.nm else []):=by
 obtain ⟨su,es,hc,hel,hp,hu,hs,h12⟩:=form_raw c h e
 exact ⟨c.el,su,es,hc,hel,hu,hs,h12⟩
theorem raw_okV (c:Ctx) (b:UInt8) (h:form c=true) (hv:okV c=true) (e:c.st=17∨c.st=18∨c.st=19):okV (raw c b true)=true:=by
 have hr:=rw_of h e
 have hv':c.st=18∨c.st=19→((c.su == 0 || c.su == 1 || c.su == 2 || c.su == 4 || c.su == 5) && !c.es)=true:=by
  intro hh
  unfold okV at hv
  rcases hh with x | x <;> rw [x] at hv <;> exact hv
 unfold raw
 split
 ·rename_i h1
  rw [Bool.and_eq_true,beq_iff_eq] at h1
  exact hv' (.inl h1.1)
 ·split
  ·rfl
  ·split
   ·split
    ·rfl
    ·exact tag_okV _ b rfl rfl
   ·split
    ·rename_i h1
     rw [Bool.and_eq_true,beq_iff_eq] at h1
     have:=hv' (.inr h1.1)
     unfold okV
     rw [h1.1]
     exact this
    ·split
     ·rcases fed_rw hr (47 :: c.nm) true with x | x
      ·exact raw2_okV (s:=17) (nm:=[]) (.inr x) b
      ·exact raw2_okV (.inl x) b
     ·exact raw2_okV (.inl hr) b
theorem note_okV (c:Ctx) (b:UInt8) (h:c.st≠8∧c.st≠18∧c.st≠19):okV (note c b)=true:=by
 unfold note
 repeat' split
 all_goals first | rfl | exact okV_st c h.1 h.2.1 h.2.2
theorem opened_okV (b:UInt8):okV (opened b).1=true:=by
 unfold opened
 repeat' split
 all_goals rfl
theorem closed_okV (b:UInt8):okV (closed b)=true:=by
 unfold closed
 repeat' split
 all_goals rfl
theorem isT_su (c:Ctx) (h:form c=true) (hT:isT c.st=true):c.su=0:=by
 unfold isT at hT
 simp only [Bool.or_eq_true,beq_iff_eq] at hT
 rcases hT with (((((e | e) | e) | e) | e) | e) | e
 ·rw [(form_st3 c h e).1]
 ·rw [form_st4 c h (by simp [e])];rfl
 ·rw [(form_st5 c h (by simp [e])).1];rfl
 ·rw [(form_st5 c h (by simp [e])).1];rfl
 ·rw [form_st7 c h e];rfl
 ·rw [form_st4 c h (by simp [e])];rfl
 ·rw [form_st4 c h (by simp [e])];rfl
theorem s7_begun (c:Ctx) (b:UInt8) (h:(begunV c b).2=true):((begunV c b).1.st == 7)=false:=by
 unfold begunV at *
 cases h3:blankB b <;> cases h4:(b == 62) <;> cases h5:(b == 34 || b == 39) <;> rw [h3,h4,h5] at h <;> first | (cases h;done) | rfl
theorem s7_named (c:Ctx) (b:UInt8) (h:(named c b).2=true):((named c b).1.st == 7)=false:=by
 unfold named at *
 cases h1:(b == 61 && c.nm != []) <;> cases h2:(b == 47 || b == 62) <;> cases h3:blankB b <;> cases h4:(c.st == 6) <;> cases h5:(b == 34 || b == 39 || b == 60) <;> rw [h1,h2,h3,h4,h5] at h <;> first | (cases h;done) | rfl
theorem s7_tag (c:Ctx) (b:UInt8) (h:(tag c b).2=true):((tag c b).1.st == 7)=false:=by
 unfold tag at *
 cases h3:(c.st == 3) with
 | true =>
  rw [h3] at h
  cases h1:(!blankB b && b != 47 && b != 62) <;> cases h2:c.en <;> rw [h1,h2] at h <;> first | (cases h;done) | rfl
 | false =>
 cases h9:(c.st == 9) with
 | true =>
  rw [h3,h9] at h
  cases h1:blankB b <;> cases h2:(b == 47) <;> cases h4:(b == 62) <;> rw [h1,h2,h4] at h <;> cases h
 | false =>
 cases h10:(c.st == 10) with
 | true =>
  rw [h3,h9,h10] at h
  cases h1:(b == 62) <;> rw [h1] at h <;> first | (cases h;done) | rfl
 | false =>
 cases h4:(c.st == 4) with
 | true =>
  rw [h3,h9,h10,h4] at h
  cases h1:blankB b <;> cases h2:(b == 47 || b == 62) <;> cases h5:(b == 61) <;> rw [h1,h2,h5] at h <;> first | (cases h;done) | rfl
 | false =>
 cases h7:(c.st == 7) with
 | true =>
  rw [h3,h9,h10,h4,h7] at h
  exact s7_begun c b h
 | false =>
  rw [h3,h9,h10,h4,h7] at h
  exact s7_named c b h
theorem tag_st8 (c:Ctx) (b:UInt8) (h:isT c.st=true) (h7:(c.st == 7)=false):(tag c b).1.st≠8:=by
 have hc:c.st≠8:=by intro e;rw [e] at h;cases h
 have hg:=grown_st c b
 have key:(grown c b).st≠8:=by
  rcases hg with e | e <;> rw [e]
  ·decide
  ·exact hc
 have k4 (s:UInt8) (d:Ctx) (hs:s≠8) (e:d.st=s):d.st≠8:=by rw [e];exact hs
 unfold tag named tagEnd
 rw [h7]
 repeat' split
 all_goals first | exact hc | exact key | exact k4 9 _ (by decide) rfl | exact k4 4 _ (by decide) rfl | exact k4 10 _ (by decide) rfl | exact k4 17 _ (by decide) rfl | exact k4 5 _ (by decide) rfl | exact k4 7 _ (by decide) rfl | exact k4 6 _ (by decide) rfl | exact k4 0 _ (by decide) rfl | exact k4 20 _ (by decide) rfl | contradiction
theorem again_okV (b:UInt8):∀ (n:Nat) (c d:Ctx),okV c=true→(isT c.st=true→c.su=0)→(c.st=7∨c.st=8∨c.st=17∨c.st=18∨c.st=19→form c=true)→again n c b true=some d→okV d=true
 | 0,c,d,hv,ht,hf,h=>by cases h
 | n+1,c,d,hv,ht,hf,h=>by
  unfold again at h
  by_cases h0:(c.st == 0)=true
  ·rw [if_pos h0] at h
   by_cases hb:(b == 60)=true
   ·rw [if_pos hb] at h;cases h;rfl
   ·rw [if_neg hb] at h;cases h;exact hv
  rw [if_neg h0] at h
  by_cases h1:(c.st == 1)=true
  ·rw [if_pos h1] at h
   by_cases hb:(opened b).2=true
   ·rw [if_pos hb] at h;cases h;exact opened_okV b
   ·rw [if_neg hb] at h
    exact again_okV b n _ d rfl (fun h=>by cases h) (fun h=>by rcases h with e | e | e | e | e <;> cases e) h
  rw [if_neg h1] at h
  by_cases h2:(c.st == 2)=true
  ·rw [if_pos h2] at h;cases h;exact closed_okV b
  rw [if_neg h2] at h
  by_cases hT:isT c.st=true
  ·rw [if_pos hT] at h
   by_cases hb:(tag c b).2=true
   ·rw [if_pos hb] at h
    refine again_okV b n _ d (tag_okV c b hT (ht hT)) (fun _=>tag_su c b (ht hT)) (fun hh=>?_) h
    have n7:=s7_tag c b hb
    have nr:=raw_tag c b hb
    rcases hh with e | e | e | e | e
    ·rw [e] at n7;cases n7
    ·cases hc7:(c.st == 7) with
     | false=>exact absurd e (tag_st8 c b hT hc7)
     | true =>
      have e7:=eq_of_beq hc7
      have t1:tag c b=begunV c b:=by unfold tag;rw [e7];rfl
      rw [t1]
      exact begunV_form c b (hf (.inl e7)) e7
    ·rw [e] at nr;cases nr
    ·rw [e] at nr;cases nr
    ·rw [e] at nr;cases nr
   ·rw [if_neg hb] at h;cases h;exact tag_okV c b hT (ht hT)
  rw [if_neg hT] at h
  by_cases h8:(c.st == 8)=true
  ·rw [if_pos h8] at h;cases h
   have e8:=eq_of_beq h8
   exact value_okV c b (hf (.inr (.inl e8))) hv e8
  rw [if_neg h8] at h
  by_cases hr:(c.st == 17 || c.st == 18 || c.st == 19)=true
  ·rw [if_pos hr] at h;cases h
   have er:c.st=17∨c.st=18∨c.st=19:=by simpa [or_assoc] using hr
   exact raw_okV c b (hf (by rcases er with e | e | e <;> simp [e])) hv er
  ·rw [if_neg hr] at h;cases h
   refine note_okV c b ⟨by simpa using h8,?_⟩
   simp only [Bool.or_eq_true,beq_iff_eq,not_or] at hr
   exact ⟨hr.1.2,hr.2⟩
theorem step_okV (c:Ctx) (b:UInt8) (h:form c=true) (hv:okV c=true):okV (stepB c b)=true :=
 again_okV b 4 c _ hv (isT_su c h) (fun _=>h) (mv_some c b true h)
theorem run_okV:∀ (l:List UInt8) (c:Ctx) (i:Int) (d:Ctx),form c=true→okV c=true→c.st≠20→0≤i→runL stepB c l i=(d,-1)→form d=true∧okV d=true∧d.st≠20
 | [],c,i,d,hf,hv,hs,hi,h=>by cases h;exact ⟨hf,hv,hs⟩
 | b :: r,c,i,d,hf,hv,hs,hi,h=>by
  unfold runL at h
  split at h
  ·cases h;omega
  ·rename_i h20
   exact run_okV r _ (i+1) d (step_form c b) (step_okV c b hf hv) (by simpa using h20) (by omega) h
theorem text_okV (p:List UInt8) (d:Ctx) (h:bytesB (st1 0) p=(d,-1)):form d=true∧okV d=true∧d.st≠20:=run_okV p (st1 0) 0 d rfl rfl (by decide) (Int.le_refl _) h
theorem ends_bytes (c:Ctx) (h:form c=true) (hv:okV c=true) (h20:c.st≠20):bytesB c (trail c)=(st1 0,-1)∧(trail c).length≤40:=by
 obtain ⟨h1,h2⟩:=of_endsAll (trail_ends c h hv h20)
 refine ⟨?_,h2⟩
 unfold bytesB inF
 rw [if_pos h];exact h1
end Sx
