/- Texts with more blanks and more ends of lines than were printed: what is read. -/
import Derived.Test.YtbcanmagihejhaaGreatDoorPA
import Derived.Test.YtbcanmagihejhaaGreatDoorRD
import Derived.Test.YtbcanmagihejhaaGreatDoorPC
set_option linter.unusedSimpArgs false
set_option linter.unusedVariables false
namespace Go.Proofs.T
open Go Go.Ab
set_option maxRecDepth 100000
inductive WR:By->By->Prop
 | nil (n:Nat) (h:n<=2):WR [] (List.replicate n 32)
 | blank (n:Nat) (h:n<=2) {s t:By}:WR s t->WR (32::s) (List.replicate (n+1) 32++t)
 | byte {b:UInt8} {s t:By} (h:b≠32):WR s t->WR (b::s) (b::t)
abbrev neB:By->Bool:=fun w=> !decide (w=[])
theorem split_rep (n:Nat) (s:By):splitB 32 (List.replicate n 32++s)=List.replicate n []++splitB 32 s:=by
 induction n with
 | zero=>rfl
 | succ n ih =>
   rw [List.replicate_succ,List.cons_append]
   show (if (32:UInt8)=32 then []::splitB 32 (List.replicate n 32++s) else _)=_
   rw [if_pos rfl,ih,List.replicate_succ,List.cons_append]
theorem filter_rep (n:Nat) (l:List By):(List.replicate n []++l).filter neB=l.filter neB:=by
 rw [List.filter_append,List.filter_replicate];simp [neB]
theorem split_byte {b:UInt8}{s h:By}{tl:List By}(hb:b≠32) (hs:splitB 32 s=h::tl):splitB 32 (b::s)=(b::h)::tl:=by
 show (if b=32 then _ else match splitB 32 s with|h::t=>(b::h)::t|[]=>[[b]])=_
 rw [if_neg hb,hs]
theorem wr_split {s t:By}(h:WR s t):∃ x tl tl',splitB 32 s=x::tl/\splitB 32 t=x::tl'/\tl.filter neB=tl'.filter neB:=by
 induction h with
 | nil n h =>
   have:=split_rep n []
   rw [List.append_nil] at this
   cases n with
   | zero=>exact ⟨[],[],[],rfl,rfl,rfl⟩
   | succ n =>
     refine ⟨[],[],List.replicate n []++splitB 32 [],rfl,by rw [this,List.replicate_succ,List.cons_append],?_⟩
     rw [filter_rep];rfl
 | @blank n h s t _ ih =>
   obtain ⟨x,tl,tl',h1,h2,h3⟩:=ih
   refine ⟨[],splitB 32 s,List.replicate n []++splitB 32 t,?_,?_,?_⟩
   ·show (if (32:UInt8)=32 then []::splitB 32 s else _)=_
    rw [if_pos rfl]
   ·rw [split_rep,List.replicate_succ,List.cons_append]
   ·rw [filter_rep,h1,h2,List.filter_cons,List.filter_cons,h3]
 | byte hb _ ih =>
   obtain ⟨x,tl,tl',h1,h2,h3⟩:=ih
   exact ⟨_,tl,tl',split_byte hb h1,split_byte hb h2,h3⟩
theorem wr_words {s t:By}(h:WR s t):(splitB 32 t).filter neB=(splitB 32 s).filter neB:=by
 obtain ⟨x,tl,tl',h1,h2,h3⟩:=wr_split h
 rw [h1,h2,List.filter_cons,List.filter_cons,h3]
def Bk0 (q:By):Prop:=∀ c t,q=c::t->c=32
theorem blank_b0 (s:By):Bk0 (32::s):=fun c t e=>by cases e;rfl
theorem rep_b0 (n:Nat):Bk0 (List.replicate n 32):=by
 cases n with
 | zero=>intro c t e;cases e
 | succ n=>exact blank_b0 _
theorem takeW_app {p:UInt8->Bool}{X q:By}(h:p 32=false) (hq:Bk0 q):(X++q).takeWhile p=X.takeWhile p:=by
 induction X with
 | nil =>
   cases q with
   | nil=>rfl
   | cons c t=>rw [List.nil_append,List.takeWhile_cons,hq c t rfl,h];rfl
 | cons c X ih=>rw [List.cons_append,List.takeWhile_cons,List.takeWhile_cons,ih]
theorem runs_app {p:Int->Bool}{X q:By}{k:Nat}(h:on p 32=false) (hq:Bk0 q) (hk:k<=X.length):runs p (X++q) k=runs p X k:=by
 unfold runs
 rw [List.drop_append_of_le_length hk,takeW_app h hq]
theorem tokL_app {c:UInt8}{X q:By}(hq:Bk0 q):tokL (c::X++q)=tokL (c::X):=by
 show endT (c::X++q) 0 c=endT (c::X) 0 c
 have hf:on folB 32=false:=by decide
 have hd:on digB 32=false:=by decide
 unfold endT
 rw [runs_app hf hq (Nat.zero_le _),runs_app hd hq (Nat.zero_le _)]
 generalize hR:runs digB (c::X) 0=R
 have hRl:R<=(c::X).length:=by
  have:=runs_le digB (c::X) 0 (Nat.zero_le _)
  omega
 by_cases h1:on letB c=true
 ·rw [if_pos h1,if_pos h1]
 ·rw [if_neg h1,if_neg h1]
  by_cases h2:on digB c=true
  ·rw [if_pos h2,if_pos h2]
   simp only [Nat.zero_add]
   by_cases h3:R<(c::X).length
   ·have e1:(c::X++q)[R]? =(c::X)[R]? :=List.getElem?_append_left h3
    have e2:min (R+1) (c::X++q).length=R+1:=by rw [List.length_append];omega
    have e3:min (R+1) (c::X).length=R+1:=om
    rw [e1,e2,e3,runs_app hd hq om,decide_eq_true h3,decide_eq_true (show R<(c::X++q).length by rw [List.length_append];omega)]
   ·have e1:(c::X++q)[R]? =q[0]? :=by
     rw [List.getElem?_append_right om,show R-(c::X).length=0 by omega]
    have e2:decide ((c::X++q)[R]? =some 46)=false:=by
     rw [e1]
     cases q with
     | nil=>simp
     | cons d t=>rw [hq d t rfl];rfl
    rw [e2,decide_eq_false h3]
    simp
  ·rw [if_neg h2,if_neg h2]
theorem lex_app:∀ (n:Nat) (p q:By),p.length<=n->(32:UInt8)∉p->Bk0 q->lex (p++q)=lex p++lex q:=by
 intro n
 induction n with
 | zero =>
   intro p q hn _ _
   obtain rfl:=List.eq_nil_of_length_eq_zero (Nat.le_zero.1 hn)
   rfl
 | succ n ih =>
   intro p q hn hp hq
   cases p with
   | nil=>rfl
   | cons c X =>
     have hc:c≠32:=fun e=>hp (by rw [e];exact List.mem_cons_self ..)
     obtain ⟨t1,t2⟩:=@tokL_pos c X
     have e1:lex (c::X++q)=(c::X++q).take (tokL (c::X++q))::lex ((c::X++q).drop (tokL (c::X++q))):=lex_tok (r:=X++q) hc
     rw [e1,lex_tok hc,tokL_app hq,List.take_append_of_le_length t2,List.drop_append_of_le_length t2,List.cons_append]
     rw [ih _ q (by rw [List.length_drop];omega) (fun h=>hp (List.mem_of_mem_drop h)) hq]
theorem lex_rep (n:Nat) (s:By):lex (List.replicate n 32++s)=lex s:=by
 induction n with
 | zero=>rfl
 | succ n ih=>rw [List.replicate_succ,List.cons_append,lex_blank,ih]
theorem wr_pre {s t:By}(h:WR s t):∃ p q q',s=p++q/\t=p++q'/\(32:UInt8)∉p/\WR q q'/\Bk0 q/\Bk0 q':=by
 induction h with
 | nil n h=>exact ⟨[],[],List.replicate n 32,rfl,rfl,by simp,.nil n h,fun c t e=>(by cases e),rep_b0 n⟩
 | @blank n h s t hw _=>exact ⟨[],32::s,List.replicate (n+1) 32++t,rfl,rfl,by simp,.blank n h hw,blank_b0 s,blank_b0 _⟩
 | @byte b s t hb _ ih =>
   obtain ⟨p,q,q',h1,h2,h3,h4,h5,h6⟩:=ih
   refine ⟨b::p,q,q',by rw [h1];rfl,by rw [h2];rfl,?_,h4,h5,h6⟩
   intro hm
   rcases List.mem_cons.1 hm with e|hm
   ·exact hb e.symm
   ·exact h3 hm
theorem wr_lex:∀ (n:Nat){s t:By},s.length<=n->WR s t->lex t=lex s:=by
 intro n
 induction n with
 | zero =>
   intro s t hn h
   obtain rfl:=List.eq_nil_of_length_eq_zero (Nat.le_zero.1 hn)
   cases h with
   | nil n h=>have:=lex_rep n [];rwa [List.append_nil] at this
 | succ n ih =>
   intro s t hn h
   obtain ⟨p,q,q',rfl,rfl,h3,h4,h5,h6⟩:=wr_pre h
   rw [lex_app _ p q (Nat.le_refl _) h3 h5,lex_app _ p q' (Nat.le_refl _) h3 h6]
   refine congrArg (lex p++·) ?_
   cases h4 with
   | nil m hm=>have:=lex_rep m [];rwa [List.append_nil] at this
   | @blank m hm s' t' hw =>
     rw [lex_rep,lex_blank]
     refine ih ?_ hw
     rw [List.length_append,List.length_cons] at hn
     omega
   | @byte b s' t' hb hw=>exact absurd (h5 b s' rfl) hb
theorem wr_rep {n:Nat}:∀ {x t:By},WR (List.replicate n 32++x) t->∃ m t',t=List.replicate m 32++t'/\WR x t':=by
 induction n with
 | zero=>intro x t h;exact ⟨0,t,rfl,h⟩
 | succ n ih =>
   intro x t h
   rw [List.replicate_succ,List.cons_append] at h
   generalize hs:(32:UInt8)::(List.replicate n 32++x)=s at h
   cases h with
   | nil=>cases hs
   | @blank k hk s' t' hw =>
     cases hs
     obtain ⟨m,t'',rfl,h2⟩:=ih hw
     exact ⟨k+1+m,t'',by rw [<- List.append_assoc,List.replicate_append_replicate],h2⟩
   | byte hb=>cases hs;exact absurd rfl hb
theorem wr_word {w:By}:∀ {x t:By},(32:UInt8)∉w->WR (w++x) t->∃ t',t=w++t'/\WR x t':=by
 induction w with
 | nil=>intro x t _ h;exact ⟨t,rfl,h⟩
 | cons c w ih =>
   intro x t hw h
   rw [List.cons_append] at h
   generalize hs:c::(w++x)=s at h
   cases h with
   | nil=>cases hs
   | blank=>cases hs;exact absurd (List.mem_cons_self ..) hw
   | byte hb h' =>
     cases hs
     obtain ⟨t',rfl,h2⟩:=ih (fun hm=>hw (List.mem_cons_of_mem _ hm)) h'
     exact ⟨t',rfl,h2⟩
theorem wr_b0 {x t:By}(h:WR x t) (hx:Bk0 x):Bk0 t:=by
 obtain ⟨p,q,q',rfl,rfl,h3,h4,h5,h6⟩:=wr_pre h
 cases p with
 | nil=>exact h6
 | cons c p=>exact absurd (hx c (p++q) rfl) fun e=>h3 (by rw [e];exact List.mem_cons_self ..)
theorem wr_lin {l t:By}{m:LM}(h:WR l t) (hl:Lin l m):Lin t m:=by
 cases m with
 | fml e =>
   obtain ⟨n,r,h1,h2,h3⟩:=hl
   rw [h1] at h
   obtain ⟨m,t',rfl,h4⟩:=wr_rep h
   obtain ⟨r',rfl,h5⟩:=wr_word (LM.fml e).word_wd.2.1 h4
   exact ⟨m,r',rfl,wr_b0 h5 h2,by rw [wr_lex _ (Nat.le_refl _) h5,h3]⟩
 | _=>exact (wr_words h).trans hl
theorem wr_ten {s t:By}(h:WR s t) (hs:(10:UInt8)∉s):(10:UInt8)∉t:=by
 induction h with
 | nil n h=>intro hm;have:=List.eq_of_mem_replicate hm;cases this
 | @blank n h s t _ ih =>
   intro hm
   rcases List.mem_append.1 hm with hm|hm
   ·have:=List.eq_of_mem_replicate hm;cases this
   ·exact ih (fun h=>hs (List.mem_cons_of_mem _ h)) hm
 | @byte b s t hb _ ih =>
   intro hm
   rcases List.mem_cons.1 hm with e|hm
   ·exact hs (by rw [e];exact List.mem_cons_self ..)
   ·exact ih (fun h=>hs (List.mem_cons_of_mem _ h)) hm
theorem runs_rep {n:Nat}{r:By}{c:Nat}(hr:Nd r):runsOk (List.replicate n 32++r) c=runsOk r 0:=by
 induction n generalizing c with
 | zero=>exact runs_nd hr c
 | succ n ih=>rw [List.replicate_succ,List.cons_append,runs_sep (by rfl),ih]
theorem runs_rep1 {n:Nat}{r:By}{c:Nat}:runsOk (List.replicate (n+1) 32++r) c=runsOk r 0:=by
 induction n generalizing c with
 | zero=>exact runs_sep (by rfl)
 | succ n ih=>rw [List.replicate_succ,List.cons_append,runs_sep (by rfl),ih]
theorem wr_runs {s t r:By}(h:WR s t) (hr:Nd r):∀ c,runsOk (s++r) c=true->runsOk (t++r) c=true:=by
 induction h with
 | nil n h=>intro c hc;rw [runs_rep hr,<- runs_nd hr c];exact hc
 | blank n h _ ih =>
   intro c hc
   rw [List.cons_append,runs_sep (by rfl)] at hc
   rw [List.append_assoc,runs_rep1]
   exact ih 0 hc
 | @byte b s t hb _ ih =>
   intro c hc
   rw [List.cons_append,runsOk_cons] at hc ⊢
   cases hd:on digB b with
   | true=>rw [hd,cond_true,Bool.and_eq_true] at hc;rw [cond_true,Bool.and_eq_true];exact ⟨hc.1,ih _ hc.2⟩
   | false=>rw [hd] at hc;exact ih _ hc
theorem wr_rs {s t:By}(h:WR s t) (hs:Rs s):Rs t:=fun r h1 h2=>wr_runs h h1 0 (hs r h1 h2)
def cnt (s:By):Nat:=s.countP (fun b=>decide (b=32))
theorem wr_len {s t:By}(h:WR s t):t.length<=s.length+2*cnt s+2:=by
 induction h with
 | nil n h=>simp [cnt];omega
 | @blank n h s t _ ih =>
   have:cnt (32::s)=cnt s+1:=by simp [cnt]
   rw [List.length_append,List.length_replicate,List.length_cons,this];omega
 | @byte b s t hb _ ih =>
   have:cnt (b::s)=cnt s:=by simp [cnt,hb]
   rw [List.length_cons,List.length_cons,this];omega
inductive WL:List By->List By->Prop
 | nil:WL [] []
 | cons (m:Nat) (h:m<=2) {l t:By} {ls ts:List By}:WR l t->WL ls ts->WL (l::ls) (t::(List.replicate m []++ts))
inductive Inter:List By->List LM->Prop
 | nil:Inter [] []
 | blank {ls:List By} {ms:List LM}:Inter ls ms->Inter ([]::ls) ms
 | line {l:By} {m:LM} {ls:List By} {ms:List LM}:Lin l m->Inter ls ms->Inter (l::ls) (m::ms)
theorem inter_rep {n:Nat}{ls:List By}{ms:List LM}(h:Inter ls ms):Inter (List.replicate n []++ls) ms:=by
 induction n with
 | zero=>exact h
 | succ n ih=>rw [List.replicate_succ,List.cons_append];exact .blank ih
theorem wl_inter {ls ts:List By}(h:WL ls ts):∀ {ms:List LM},All2 Lin ls ms->Inter ts ms:=by
 induction h with
 | nil=>intro ms hl;cases ms with
   | nil=>exact .nil
   | cons=>exact hl.elim
 | cons m hm hw _ ih =>
   intro ms hl
   cases ms with
   | nil=>exact hl.elim
   | cons x ms=>exact .line (wr_lin hw hl.1) (inter_rep (ih hl.2))
theorem inter_lines {ls:List By}{ms:List LM}(h:Inter ls ms):∀ (pre:List LM) (at':Nat) (T:Tn) (seen:List (By×Value)) (more:List By),GoodL (pre++ms)->Made pre T->SeenIs seen pre ->
  ∃ a,linesS (ls++more) at' T seen=linesS more a (appAll ms T) (seenAll ms seen)/\SeenIs (seenAll ms seen) (pre++ms):=by
 induction h with
 | nil=>intro pre at' T seen more hg hm hs;exact ⟨at',rfl,by rw [List.append_nil];exact hs⟩
 | @blank ls ms _ ih =>
   intro pre at' T seen more hg hm hs
   obtain ⟨a,h1,h2⟩:=ih pre (at'+(([]:By).length+1)) T seen more hg hm hs
   refine ⟨a,?_,h2⟩
   rw [List.cons_append,show linesS ([]::(ls++more)) at' T seen=thenR (lineS [] at' T seen) (fun (T',seen')=>linesS (ls++more) (at'+(([]:By).length+1)) T' seen') from rfl,show lineS [] at' T seen=_ from @line_blank at' T seen 0,thenR_ok]
   exact h1
 | @line l m ls ms hl _ ih =>
   intro pre at' T seen more hg hm hs
   have hone:m.once=true->lookKV m.word seen=none:=by
    intro ho
    cases hlk:lookKV m.word seen with
    | none=>rfl
    | some v =>
      obtain ⟨x,hx1,hx2⟩:=(hs m.word).1 (by rw [hlk];rfl)
      have:=(List.pairwise_append.1 hg.once).2.2 x hx1 m (List.mem_cons_self ..) hx2
      rw [word_once hx2,ho] at this;cases this
   have h1:=line_read (at':=at') hl hone (made_ok hg hm)
   obtain ⟨a,h2,h3⟩:=ih (pre++[m]) (at'+(l.length+1)) (m.app T) (setKV m.word tru seen) more (by rw [List.append_assoc];exact hg) hm.snoc (seen_snoc hs)
   refine ⟨a,?_,by rw [List.append_assoc] at h3;exact h3⟩
   rw [List.cons_append,show linesS (l::(ls++more)) at' T seen=thenR (lineS l at' T seen) (fun (T',seen')=>linesS (ls++more) (at'+(l.length+1)) T' seen') from rfl,h1,thenR_ok]
   exact h2
theorem parse_inter {ls:List By}{ms:List LM}(hg:GoodL ms) (hl:Inter ls ms) (h10:∀ l∈ls,(10:UInt8)∉l) (h6:∀ w∈six,∃ m∈ms,m.word=w):parseS (under ls)= .ok (appAll ms T0):=by
 obtain ⟨a,h1,h2⟩:=inter_lines hl [] 0 T0 [] (splitB 10 []) hg made_nil seen_nil
 have hsp:=under_split ls [] h10
 rw [List.append_nil] at hsp
 unfold parseS
 rw [hsp,h1]
 have hb:=@line_blank a (appAll ms T0) (seenAll ms []) 0
 rw [show linesS (splitB 10 []) a (appAll ms T0) (seenAll ms [])=thenR (lineS [] a (appAll ms T0) (seenAll ms [])) (fun (T',seen')=>linesS [] (a+(([]:By).length+1)) T' seen') from rfl]
 rw [show lineS [] a (appAll ms T0) (seenAll ms [])=_ from hb,thenR_ok]
 show thenR (.ok (appAll ms T0,seenAll ms [])) _=_
 rw [thenR_ok]
 dsimp only
 rw [if_pos]
 rw [List.all_eq_true]
 intro w hw
 exact (h2 w).2 (h6 w hw)
end Go.Proofs.T
namespace Go.Proofs.T
open Go Go.Ab
set_option maxRecDepth 100000
theorem made_short {T:Tn}(h:MadeT T):∀ m∈lmOf T,(∀ e,m≠ .fml e)->ShortL m:=by
 intro m hm hne
 have n9:∀ {n:Int},SmN n->(dcN n.toNat).length<=9:=fun h=>sm_len h
 have s:=h.sm
 obtain ⟨t1,t2,t3,t4,t5⟩:=s.tim
 unfold lmOf at hm
 simp only [List.mem_cons,List.mem_append,List.mem_map,List.not_mem_nil,or_false] at hm
 rcases hm with rfl|⟨l,hl,rfl⟩|⟨c,hc,rfl⟩|⟨r,hr,rfl⟩|rfl|rfl|hm|hm|⟨c,hc,rfl⟩|rfl|rfl
 ·exact ⟨by simp [LM.txt],by simp only [LM.txt,List.mem_cons,List.not_mem_nil,or_false];rintro w rfl;exact h.nm⟩
 ·obtain ⟨h1,h2⟩:=s.lot l hl
  exact ⟨by simp [LM.txt],by simp only [LM.txt,List.mem_cons,List.not_mem_nil,or_false];rintro w (rfl|rfl|rfl) <;> first|exact n9 h1|exact n9 h2|decide⟩
 ·obtain ⟨-,h1,h2⟩:=s.crit c hc
  have hn:=h.crit c hc
  refine ⟨?_,?_⟩
  ·cases c.less <;> simp [LM.txt]
  ·intro w hw
   simp only [LM.txt,List.mem_cons,List.mem_append,List.not_mem_nil,or_false] at hw
   rcases hw with (rfl|rfl|rfl|rfl)|hw
   ·exact hn
   ·split <;> decide
   ·exact n9 h1
   ·exact n9 h2
   ·split at hw
    ·rw [List.mem_singleton.1 hw];decide
    ·cases hw
 ·have h1:=s.req r hr
  have hn:=h.req r hr
  have hrel:=(h.right.req r hr).2.1
  have hl:r.rel.length<=9:=by
   simp only [List.contains_cons,List.contains_nil,Bool.or_false,Bool.or_eq_true,beq_iff_eq] at hrel
   rcases hrel with e|e <;> rw [e] <;> decide
  exact ⟨by simp [LM.txt],by simp only [LM.txt,List.mem_cons,List.not_mem_nil,or_false];rintro w (rfl|rfl|rfl) <;> first|exact n9 h1|assumption⟩
 ·exact ⟨by simp [LM.txt],by simp only [LM.txt,List.mem_cons,List.not_mem_nil,or_false];rintro w (rfl|rfl) <;> first|exact n9 s.low|exact n9 s.high⟩
 ·exact absurd rfl (hne _)
 ·split at hm
  ·cases hm
  ·rw [List.mem_singleton.1 hm]
   exact ⟨by have:=h.ties;show T.ties.length<=5;omega,h.tie⟩
 ·split at hm
  ·cases hm
  ·rw [List.mem_singleton.1 hm]
   exact ⟨by simp [LM.txt],by simp only [LM.txt,List.mem_cons,List.not_mem_nil,or_false];rintro w rfl;exact n9 s.most⟩
 ·have h1:=s.combo c hc
  refine ⟨by have:=h.combo c hc;simp [LM.txt];omega,?_⟩
  intro w hw
  simp only [LM.txt,List.mem_map] at hw
  obtain ⟨x,⟨n,hn,rfl⟩,rfl⟩:=hw
  exact n9 (h1 n hn)
 ·exact ⟨by simp [LM.txt],by simp only [LM.txt,List.mem_cons,List.not_mem_nil,or_false];rintro w rfl;exact n9 s.budget⟩
 ·exact ⟨by simp [LM.txt],by simp only [LM.txt,List.mem_cons,List.not_mem_nil,or_false];rintro w (rfl|rfl|rfl|rfl|rfl) <;> first|exact n9 t1|exact n9 t2|exact n9 t3|exact n9 t4|exact n9 t5⟩
def isFml:LM->Bool
 | .fml _=>true
 | _=>false
theorem line_60 {m:LM}(hf:∀ e,m≠ .fml e) (h:ShortL m):(lineP m).length<=60:=by
 have e:lineP m=spJ (m.word::m.txt):=by cases m <;> first|rfl|exact absurd rfl (hf _)
 have hw:∀ w∈m.word::m.txt,w.length<=9:=by
  intro w hw
  rcases List.mem_cons.1 hw with rfl|hw
  ·exact word_le m
  ·exact h.2 w hw
 have h1:=spJ_le _ hw
 have h2:=h.1
 simp only [List.length_cons] at h1
 rw [e];omega
theorem under_fml:∀ ms:List LM,(∀ m∈ms,(lineP m).length<=160)->(∀ m∈ms,(∀ e,m≠ .fml e)->(lineP m).length<=60)->(under (ms.map lineP)).length<=61*ms.length+100*ms.countP isFml:=by
 intro ms
 induction ms with
 | nil=>intro _ _;simp [under]
 | cons m ms ih =>
   intro h1 h2
   have:=ih (fun m hm=>h1 m (List.mem_cons_of_mem _ hm)) (fun m hm=>h2 m (List.mem_cons_of_mem _ hm))
   have a1:=h1 m (List.mem_cons_self ..)
   have a2:=h2 m (List.mem_cons_self ..)
   rw [List.map_cons,under_cons,List.length_append,List.length_cons,List.length_cons]
   cases hm:isFml m with
   | true=>rw [List.countP_cons_of_pos hm];omega
   | false =>
     rw [List.countP_cons_of_neg (by rw [hm];simp)]
     have:=a2 (fun e he=>by rw [he] at hm;cases hm)
     omega
theorem fml_none {α:Type}{g:α->LM}{l:List α}(h:∀ x,isFml (g x)=false):(l.map g).countP isFml=0:=by
 rw [List.countP_eq_zero]
 intro m hm
 obtain ⟨x,-,rfl⟩:=List.mem_map.1 hm
 rw [h];simp
theorem fml_one (T:Tn):(lmOf T).countP isFml<=1:=by
 unfold lmOf
 rw [List.countP_cons_of_neg (by simp [isFml])]
 simp only [List.countP_append]
 rw [fml_none (fun x=>rfl),fml_none (fun x=>rfl),fml_none (fun x=>rfl)]
 rw [List.countP_cons_of_neg (by simp [isFml]),List.countP_cons_of_pos (by rfl)]
 simp only [List.countP_append]
 rw [fml_none (fun x=>rfl)]
 split <;> split <;> simp [isFml]
theorem made_len2 {T:Tn}(h:MadeT T):(printT T).length<=1137:=by
 have h1:=under_fml (lmOf T) (fun m hm=>(made_lines h m hm).1) (fun m hm hf=>line_60 hf (made_short h m hm hf))
 have h2:=fml_one T
 have h3:=made_count h
 unfold printT
 omega
def wideB (m:Nat) (b:UInt8):By:=if b=32 then List.replicate (m+1) 32 else if b=10 then List.replicate m 32++List.replicate (m+1) 10 else [b]
def wideF (bl:Nat->Nat):By->Nat->By
 | [],_=>[]
 | b::s,k=>wideB (bl k) b++wideF bl s (k+1)
theorem wide_snoc {bl:Nat->Nat}{b:UInt8}:∀ (s:By) (k:Nat),wideF bl (s++[b]) k=wideF bl s k++wideB (bl (k+s.length)) b:=by
 intro s
 induction s with
 | nil=>intro k;simp [wideF]
 | cons c s ih =>
   intro k
   show wideB (bl k) c++wideF bl (s++[b]) (k+1)=(wideB (bl k) c++wideF bl s (k+1))++_
   rw [ih,List.append_assoc,List.length_cons,show k+1+s.length=k+(s.length+1) by omega]
theorem wide_line {bl:Nat->Nat}(hb:∀ k,bl k<=2):∀ (l:By) (k:Nat),(10:UInt8)∉l->∃ t m,m<=2/\WR l t/\∀ s,wideF bl (l++10::s) k=t++(List.replicate (m+1) 10++wideF bl s (k+l.length+1)):=by
 intro l
 induction l with
 | nil =>
   intro k _
   refine ⟨List.replicate (bl k) 32,bl k,hb k,.nil _ (hb k),fun s=>?_⟩
   show wideB (bl k) 10++wideF bl s (k+1)=_
   unfold wideB
   rw [if_neg (by decide),if_pos rfl,List.append_assoc];rfl
 | cons c l ih =>
   intro k h
   have hc:c≠10:=fun e=>h (by rw [e];exact List.mem_cons_self ..)
   obtain ⟨t,m,h1,h2,h3⟩:=ih (k+1) (fun hm=>h (List.mem_cons_of_mem _ hm))
   have e:∀ s,wideF bl (c::l++10::s) k=wideB (bl k) c++(t++(List.replicate (m+1) 10++wideF bl s (k+(c::l).length+1))):=fun s=>by
    show wideB (bl k) c++wideF bl (l++10::s) (k+1)=_
    rw [h3,List.length_cons,show k+1+l.length+1=k+(l.length+1)+1 by omega]
   by_cases h32:c=32
   ·subst h32
    refine ⟨List.replicate (bl k+1) 32++t,m,h1,.blank _ (hb k) h2,fun s=>?_⟩
    rw [e s,List.append_assoc]
    unfold wideB
    rw [if_pos rfl]
   ·refine ⟨c::t,m,h1,.byte h32 h2,fun s=>?_⟩
    rw [e s]
    unfold wideB
    rw [if_neg h32,if_neg hc];rfl
theorem under_app (a b:List By):under (a++b)=under a++under b:=by unfold under;rw [List.map_append,List.flatten_append]
theorem under_rep (m:Nat):under (List.replicate m [])=List.replicate m 10:=by
 induction m with
 | zero=>rfl
 | succ m ih=>rw [List.replicate_succ,under_cons,ih,List.replicate_succ];rfl
theorem wide_under {bl:Nat->Nat}(hb:∀ k,bl k<=2):∀ (ls:List By) (k:Nat),(∀ l∈ls,(10:UInt8)∉l)->∃ ts,WL ls ts/\wideF bl (under ls) k=under ts:=by
 intro ls
 induction ls with
 | nil=>intro k _;exact ⟨[],.nil,rfl⟩
 | cons l ls ih =>
   intro k h
   obtain ⟨t,m,h1,h2,h3⟩:=wide_line hb l k (h l (List.mem_cons_self ..))
   obtain ⟨ts,h4,h5⟩:=ih (k+l.length+1) (fun x hx=>h x (List.mem_cons_of_mem _ hx))
   refine ⟨_,.cons m h1 h2 h4,?_⟩
   rw [under_cons,h3,h5,under_cons,under_app,under_rep,List.replicate_succ];rfl
theorem wl_ten {ls ts:List By}(h:WL ls ts):(∀ l∈ls,(10:UInt8)∉l)->∀ t∈ts,(10:UInt8)∉t:=by
 induction h with
 | nil=>intro _ t ht;cases ht
 | cons m hm hw _ ih =>
   intro hl t ht
   rcases List.mem_cons.1 ht with rfl|ht
   ·exact wr_ten hw (hl _ (List.mem_cons_self ..))
   ·rcases List.mem_append.1 ht with ht|ht
    ·rw [List.eq_of_mem_replicate ht];simp
    ·exact ih (fun x hx=>hl x (List.mem_cons_of_mem _ hx)) t ht
theorem wl_rs {ls ts:List By}(h:WL ls ts):(∀ l∈ls,Rs l)->∀ t∈ts,Rs t:=by
 induction h with
 | nil=>intro _ t ht;cases ht
 | cons m hm hw _ ih =>
   intro hl t ht
   rcases List.mem_cons.1 ht with rfl|ht
   ·exact wr_rs hw (hl _ (List.mem_cons_self ..))
   ·rcases List.mem_append.1 ht with ht|ht
    ·rw [List.eq_of_mem_replicate ht];exact rs_nil
    ·exact ih (fun x hx=>hl x (List.mem_cons_of_mem _ hx)) t ht
theorem cnt_le (s:By):cnt s<=s.length:=List.countP_le_length
theorem wl_len {ls ts:List By}(h:WL ls ts):(under ts).length<=3*(under ls).length+2*ls.length:=by
 induction h with
 | nil=>simp [under]
 | @cons m hm l t ls ts hw _ ih =>
   have h1:=wr_len hw
   have h2:=cnt_le l
   rw [under_cons,under_app,under_rep,under_cons,List.length_append,List.length_cons,List.length_append,List.length_replicate,List.length_append,List.length_cons,List.length_cons]
   omega
theorem blanks_wide {T:Tn}(h:MadeT T){bl:Nat->Nat}(hb:∀ k,bl k<=2):parseS (wideF bl (printT T) 0)= .ok T/\Fine (wideF bl (printT T) 0)/\(wideF bl (printT T) 0).length<=4000:=by
 have hg:=good_lm h.right
 obtain ⟨l1,l2⟩:=lin_all hg.each
 obtain ⟨ts,h1,h2⟩:=wide_under hb ((lmOf T).map lineP) 0 l2
 have hlen:=wl_len h1
 have h3:=made_len2 h
 have h4:=made_count h
 have hu:under ((lmOf T).map lineP)=printT T:=rfl
 rw [hu] at hlen h2
 rw [List.length_map] at hlen
 have hp:=parse_inter hg (wl_inter h1 l1) (wl_ten h1 l2) (six_lm h.right)
 rw [app_lm h.right] at hp
 rw [h2]
 refine ⟨hp,fine_of om (rs_runs (under_rs _ (wl_rs h1 (made_sub h (List.Sublist.refl _)).2))) (fun p e he=>by rw [hp] at he;cases he),om⟩
theorem app_field {α:Type}{f:Tn->α}{g:LM->Option α}(hfg:∀ m T,f (LM.app m T)=(g m).getD (f T)){v:α}:∀ {ms:List LM}{T:Tn},(∀ m∈ms,∀ x,g m=some x->x=v)->((∃ m∈ms,g m=some v)\/f T=v)->f (appAll ms T)=v:=by
 intro ms
 induction ms with
 | nil =>
   rintro T _ (⟨m,hm,-⟩|h)
   ·cases hm
   ·exact h
 | cons m ms ih =>
   intro T h1 h2
   show f (appAll ms (m.app T))=v
   refine ih (fun x hx=>h1 x (List.mem_cons_of_mem _ hx)) ?_
   cases hm:g m with
   | some y=>exact .inr (by rw [hfg,hm];exact h1 m (List.mem_cons_self ..) y hm)
   | none =>
     rcases h2 with ⟨x,hx,hv⟩|h2
     ·rcases List.mem_cons.1 hx with rfl|hx
      ·rw [hm] at hv;cases hv
      ·exact .inl ⟨x,hx,hv⟩
     ·exact .inr (by rw [hfg,hm];exact h2)
theorem made_all:∀ (ms:List LM){pre:List LM}{T:Tn},Made pre T->Made (pre++ms) (appAll ms T):=by
 intro ms
 induction ms with
 | nil=>intro pre T h;rw [List.append_nil];exact h
 | cons m ms ih =>
   intro pre T h
   have:=ih (pre:=pre++[m]) h.snoc
   rw [List.append_assoc] at this
   exact this
end Go.Proofs.T
namespace Go.Proofs.T
open Go Go.Ab
set_option maxRecDepth 100000
def rot {α:Type}(n:Nat) (l:List α):List α:=l.drop n++l.take n
theorem rot_perm {α:Type}(n:Nat) (l:List α):(rot n l).Perm l:=by
 unfold rot
 refine List.perm_append_comm.trans ?_
 rw [List.take_append_drop]
theorem rot_at {α:Type}{l:List α}{n k:Nat}(hn:n<l.length) (hk:k<l.length):(rot n l)[k]? =l[(k+n) % l.length]? :=by
 unfold rot
 by_cases h:k<l.length-n
 ·rw [List.getElem?_append_left (by rw [List.length_drop];exact h),List.getElem?_drop,Nat.mod_eq_of_lt om,Nat.add_comm]
 ·rw [List.getElem?_append_right (by rw [List.length_drop];omega),List.length_drop,List.getElem?_take,if_pos om]
  have:(k+n) % l.length=k+n-l.length:=by rw [Nat.mod_eq_sub_mod om,Nat.mod_eq_of_lt om]
  rw [this,show k-(l.length-n)=k+n-l.length by omega]
theorem rot_map {α β:Type}(f:α->β) (n:Nat) (l:List α):(rot n l).map f=rot n (l.map f):=by unfold rot;rw [List.map_append,List.map_drop,List.map_take]
theorem rot_len {α:Type}(n:Nat) (l:List α):(rot n l).length=l.length:=(rot_perm n l).length_eq
theorem under_rot (n:Nat) (ls:List By):(rot n (ls.map fun l=>l++[10])).flatten=under (rot n ls):=by rw [<- rot_map];rfl
theorem under_perm {a b:List By}(h:a.Perm b):(under a).length=(under b).length:=by
 induction h with
 | nil=>rfl
 | cons x _ ih=>rw [under_cons,under_cons,List.length_append,List.length_append,List.length_cons,List.length_cons,ih]
 | swap x y l=>rw [under_cons,under_cons,under_cons,under_cons];simp only [List.length_append,List.length_cons];omega
 | trans _ _ h1 h2=>rw [h1,h2]
section
variable {T:Tn}
theorem mem_tender {w:By}(hm:LM.tender w∈lmOf T):w=T.name:=by
 unfold lmOf at hm
 simp only [List.mem_cons,List.mem_append,List.mem_map,List.not_mem_nil,or_false] at hm
 rcases hm with h|⟨l,hl,h⟩|⟨c,hc,h⟩|⟨r,hr,h⟩|h|h|h|h|⟨c,hc,h⟩|h|h <;> first|(cases h;done)|(cases h;rfl)|(split at h <;> simp at h)
theorem mem_fml {e:Ex}(hm:LM.fml e∈lmOf T):e=T.f:=by
 unfold lmOf at hm
 simp only [List.mem_cons,List.mem_append,List.mem_map,List.not_mem_nil,or_false] at hm
 rcases hm with h|⟨l,hl,h⟩|⟨c,hc,h⟩|⟨r,hr,h⟩|h|h|h|h|⟨c,hc,h⟩|h|h <;> first|(cases h;done)|(cases h;rfl)|(split at h <;> simp at h)
theorem mem_budget {n:Nat}(hm:LM.budget n∈lmOf T):n=T.budget.toNat:=by
 unfold lmOf at hm
 simp only [List.mem_cons,List.mem_append,List.mem_map,List.not_mem_nil,or_false] at hm
 rcases hm with h|⟨l,hl,h⟩|⟨c,hc,h⟩|⟨r,hr,h⟩|h|h|h|h|⟨c,hc,h⟩|h|h <;> first|(cases h;done)|(cases h;rfl)|(split at h <;> simp at h)
theorem mem_times {a b c d e:Nat}(hm:LM.times a b c d e∈lmOf T):a=T.t.q.toNat/\b=T.t.b.toNat/\c=T.t.g.toNat/\d=T.t.p.toNat/\e=T.t.s.toNat:=by
 unfold lmOf at hm
 simp only [List.mem_cons,List.mem_append,List.mem_map,List.not_mem_nil,or_false] at hm
 rcases hm with h|⟨l,hl,h⟩|⟨c,hc,h⟩|⟨r,hr,h⟩|h|h|h|h|⟨c,hc,h⟩|h|h <;> first|(cases h;done)|(cases h;exact ⟨rfl,rfl,rfl,rfl,rfl⟩)|(split at h <;> simp at h)
end
def gName:LM->Option By
 | .tender w=>some w
 | _=>none
def gFml:LM->Option Ex
 | .fml e=>some e
 | _=>none
def gBud:LM->Option Int
 | .budget n=>some (n:Nat)
 | _=>none
def gTim:LM->Option Tim
 | .times a b c d e=>some ⟨(a:Nat),(b:Nat),(c:Nat),(d:Nat),(e:Nat)⟩
 | _=>none
theorem turned_text {T:Tn}(h:MadeT T){n:Nat} :
  ∃ U,parseS (under (rot n ((lmOf T).map lineP)))= .ok U/\Fine (under (rot n ((lmOf T).map lineP)))/\(under (rot n ((lmOf T).map lineP))).length<=4000/\U.lots.length=T.lots.length/\U.crits.length=T.crits.length/\U.name=T.name/\U.t=T.t/\U.budget=T.budget/\U.f=T.f:=by
 have hp:=rot_perm n (lmOf T)
 have hg0:=good_lm h.right
 have hg:=hg0.perm hp.symm
 obtain ⟨l1,l2⟩:=lin_all hg.each
 have h6:∀ w∈six,∃ m∈rot n (lmOf T),m.word=w:=fun w hw=>by
  obtain ⟨m,hm,e⟩:=six_lm h.right w hw
  exact ⟨m,hp.mem_iff.2 hm,e⟩
 have hq:=parse_under hg l1 l2 h6
 rw [rot_map] at hq
 have hM:=made_all (rot n (lmOf T)) made_nil
 have hM0:=made_all (lmOf T) made_nil
 rw [app_lm h.right] at hM0
 rw [List.nil_append] at hM hM0
 have hlen:(under (rot n ((lmOf T).map lineP))).length<=2737:=by
  rw [under_perm (rot_perm n ((lmOf T).map lineP))]
  exact (made_sub h (List.Sublist.refl (lmOf T))).1
 have hrs:∀ l∈rot n ((lmOf T).map lineP),Rs l:=fun l hl=>(made_sub h (List.Sublist.refl (lmOf T))).2 l ((rot_perm n _).mem_iff.1 hl)
 have hin:∀ m,m∈rot n (lmOf T)->m∈lmOf T:=fun m hm=>hp.mem_iff.1 hm
 have hR:=h.right
 refine ⟨_,hq,fine_of om (rs_runs (under_rs _ hrs)) (fun p e he=>by rw [hq] at he;cases he),om,?_,?_,?_,?_,?_,?_⟩
 ·have a:=congrArg List.length hM.lots
  have b:=congrArg List.length hM0.lots
  rw [List.length_map,List.length_map] at a b
  rw [a,b]
  exact (hp.filterMap _).length_eq
 ·have a:=congrArg List.length hM.crits
  have b:=congrArg List.length hM0.crits
  rw [List.length_map] at a b
  rw [a,b]
  exact (hp.filterMap _).length_eq
 ·refine app_field (f:=Tn.name) (g:=gName) (fun m T=>by cases m <;> rfl) (fun m hm x hx=>?_) (.inl ⟨.tender T.name,hp.mem_iff.2 (by unfold lmOf;simp),rfl⟩)
  cases m <;> first|(cases hx;done)|(cases hx;exact mem_tender (hin _ hm))
 ·refine app_field (f:=Tn.t) (g:=gTim) (fun m T=>by cases m <;> rfl) (fun m hm x hx=>?_) (.inl ⟨.times T.t.q.toNat T.t.b.toNat T.t.g.toNat T.t.p.toNat T.t.s.toNat,hp.mem_iff.2 (by unfold lmOf;simp),?_⟩)
  ·obtain ⟨⟨t1,-⟩,⟨t2,-⟩,⟨t3,-⟩,⟨t4,-⟩,⟨t5,-⟩⟩:=hR.t
   cases m <;> first|(cases hx;done)|skip
   cases hx
   obtain ⟨rfl,rfl,rfl,rfl,rfl⟩:=mem_times (hin _ hm)
   rw [Int.toNat_of_nonneg t1,Int.toNat_of_nonneg t2,Int.toNat_of_nonneg t3,Int.toNat_of_nonneg t4,Int.toNat_of_nonneg t5]
  ·obtain ⟨⟨t1,-⟩,⟨t2,-⟩,⟨t3,-⟩,⟨t4,-⟩,⟨t5,-⟩⟩:=hR.t
   show some _=some _
   rw [Int.toNat_of_nonneg t1,Int.toNat_of_nonneg t2,Int.toNat_of_nonneg t3,Int.toNat_of_nonneg t4,Int.toNat_of_nonneg t5]
 ·refine app_field (f:=Tn.budget) (g:=gBud) (fun m T=>by cases m <;> rfl) (fun m hm x hx=>?_) (.inl ⟨.budget T.budget.toNat,hp.mem_iff.2 (by unfold lmOf;simp),by show some _=some _;rw [Int.toNat_of_nonneg hR.budget.1]⟩)
  cases m <;> first|(cases hx;done)|skip
  cases hx
  rw [mem_budget (hin _ hm),Int.toNat_of_nonneg hR.budget.1]
 ·refine app_field (f:=Tn.f) (g:=gFml) (fun m T=>by cases m <;> rfl) (fun m hm x hx=>?_) (.inl ⟨.fml T.f,hp.mem_iff.2 (by unfold lmOf;simp),rfl⟩)
  cases m <;> first|(cases hx;done)|(cases hx;exact mem_fml (hin _ hm))
end Go.Proofs.T
