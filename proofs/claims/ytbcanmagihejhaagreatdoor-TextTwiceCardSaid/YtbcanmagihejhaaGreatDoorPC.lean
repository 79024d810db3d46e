/- The law on second lines and missing ones: the texts that it tries are short, what parses says of them; the loop that leaves lines out. -/
import Derived.Test.YtbcanmagihejhaaGreatDoorRD
import Derived.Test.YtbcanmagihejhaaGreatDoorPA
import Derived.Test.YtbcanmagihejhaaGreatDoorTK
set_option linter.unusedSimpArgs false
set_option linter.unusedVariables false
namespace Go.Proofs.T
open Go Go.Ab
set_option maxRecDepth 100000
theorem made_sub {T:Tn}(h:MadeT T){ms:List LM}(hs:ms.Sublist (lmOf T)):(under (ms.map lineP)).length≤2737∧∀ l∈ms.map lineP,Rs l:=by
 have hl:=made_lines h
 have hc:=made_count h
 have hn:=hs.length_le
 constructor
 ·refine Nat.le_trans (under_le (n:=160) _ fun l hm=>?_) (by rw [List.length_map];omega)
  obtain ⟨m,hm',rfl⟩:=List.mem_map.1 hm
  exact (hl m (hs.subset hm')).1
 ·intro l hm
  obtain ⟨m,hm',rfl⟩:=List.mem_map.1 hm
  exact (hl m (hs.subset hm')).2
theorem under_rs2 {x:By}(hx:Rs x):∀ ls:List By,(∀ l∈ls,Rs l)→Rs (under ls++x):=by
 intro ls
 induction ls with
 | nil=>intro _;exact hx
 | cons l ls ih =>
   intro h
   rw [under_cons,List.append_assoc,List.cons_append]
   exact rs_mid (by rfl) (h l (List.mem_cons_self ..)) (ih fun x hx=>h x (List.mem_cons_of_mem _ hx))
theorem fine_of {s:By}(h1:s.length≤4000) (h2:runsOk s 0=true) (h3:∀ p e,parseS s= .error (p,e)→e≠0):Fine s:=⟨fun _ l a hm _=>line_ok h2 h1 hm,fun _=>h3,by omega⟩
theorem says_of {s:By}{p:Nat}{e:Int}(h1:s.length≤4000) (h:parseS s= .error (p,e)):saysB s (p:Nat) e=true:=by
 unfold saysB parseT
 rw [if_neg (by omega),h]
 simp
theorem again_len {n:Nat}(h:n<5):(againT n).length≤15:=by
 match n,h with
 | 0,_=>decide
 | 1,_=>decide
 | 2,_=>decide
 | 3,_=>decide
 | 4,_=>decide
theorem again_wd {n:Nat}(h:n<5):Wd (againW n):=by
 match n,h with
 | 0,_=>exact ⟨by decide,by decide,by decide⟩
 | 1,_=>exact ⟨by decide,by decide,by decide⟩
 | 2,_=>exact ⟨by decide,by decide,by decide⟩
 | 3,_=>exact ⟨by decide,by decide,by decide⟩
 | 4,_=>exact ⟨by decide,by decide,by decide⟩
theorem twice_again {T:Tn}(h:MadeT T){n:Nat}(hn:n<5):Fine (printT T++againT n)∧saysB (printT T++againT n) ((printT T).length:Nat) 13=true:=by
 obtain ⟨h1,h2⟩:=made_sub h (List.Sublist.refl (lmOf T))
 have h3:=again_len hn
 have hl:(printT T++againT n).length≤4000:=by
  rw [List.length_append]
  have:(printT T).length≤2737:=h1
  omega
 have hp:=parse_again h.right hn
 refine ⟨fine_of hl (rs_runs (under_rs2 (rs_short (by omega)) _ h2)) (fun p e he=>?_),says_of hl hp⟩
 rw [hp] at he
 cases he
 decide
theorem twice_less {T:Tn}(h:MadeT T){n:Nat}(hn:n<5):Fine (under ((lessM (againW n) (lmOf T)).map lineP))∧saysB (under ((lessM (againW n) (lmOf T)).map lineP)) ((under ((lessM (againW n) (lmOf T)).map lineP)).length:Nat) 12=true:=by
 obtain ⟨h1,h2⟩:=made_sub h (show (lessM (againW n) (lmOf T)).Sublist (lmOf T) from List.filter_sublist)
 have hp:=parse_less h.right hn
 refine ⟨fine_of (by omega) (rs_runs (under_rs _ h2)) (fun p e he=>?_),says_of (by omega) hp⟩
 rw [hp] at he
 cases he
 decide
def keepL (w:By) (ls:List By):By:=under (ls.filter fun l=> !(w.isPrefixOf (l++[10])))
theorem keep_lm {T:Tn}(h:MadeT T){n:Nat}(hn:n<5):keepL (againW n++[32]) ((lmOf T).map lineP)=under ((lessM (againW n) (lmOf T)).map lineP):=by
 unfold keepL lessM
 rw [List.filter_map]
 refine congrArg (fun x:List LM=>under (x.map lineP)) ?_
 refine List.filter_congr fun m hm=>?_
 show (!((againW n++[32]).isPrefixOf (lineP m++[10])))=_
 rw [prefix_word ((good_lm h.right).each m hm) (again_wd hn)]
theorem keep_snoc {w cur:By}{ls:List By}:keepL w (ls++[cur])=if w.isPrefixOf (cur++[10]) then keepL w ls else keepL w ls++(cur++[10]):=by
 unfold keepL
 rw [List.filter_append]
 cases hb:w.isPrefixOf (cur++[10]) with
 | true=>simp [hb]
 | false=>simp [hb,under]
def LessAt (w s:By) (k frm:Nat) (less:By):Prop:=∃ done cur,s.take k=under done++cur∧(∀ l∈done,(10:UInt8)∉l)∧(10:UInt8)∉cur∧frm=(under done).length∧less=keepL w done∧k≤s.length
theorem less_zero {w s:By}:LessAt w s 0 0 []:=⟨[],[],by simp [under],(fun l h=>by cases h),by simp,rfl,rfl,by omega⟩
theorem take_snoc {s:By}{k:Nat}{b:UInt8}(h:s[k]? =some b):s.take (k+1)=s.take k++[b]:=by
 rw [List.take_add_one,h];rfl
theorem less_next {w s less:By}{k frm:Nat}{b:UInt8}(h:LessAt w s k frm less) (hb:s[k]? =some b) (hne:b≠10):LessAt w s (k+1) frm less:=by
 obtain ⟨done,cur,h1,h2,h3,h4,h5,h6⟩:=h
 have hk:=(List.getElem?_eq_some_iff.1 hb).1
 refine ⟨done,cur++[b],by rw [take_snoc hb,h1,List.append_assoc],h2,?_,h4,h5,hk⟩
 intro hm
 rcases List.mem_append.1 hm with hm|hm
 ·exact h3 hm
 ·exact hne (List.mem_singleton.1 hm).symm
theorem less_end {w s less:By}{k frm:Nat}(h:LessAt w s k frm less) (hb:s[k]? =some 10) :
  ∃ line:By,frm≤k+1∧k+1≤s.length∧sub s frm (k+1-frm)=some line∧line.length=k+1-frm∧LessAt w s (k+1) (k+1) (if w.isPrefixOf line then less else less++line):=by
 obtain ⟨done,cur,h1,h2,h3,h4,h5,h6⟩:=h
 have hk:=(List.getElem?_eq_some_iff.1 hb).1
 have e1:s.take (k+1)=under done++(cur++[10]):=by rw [take_snoc hb,h1,List.append_assoc]
 have el:(under done).length+(cur.length+1)=k+1:=by
  have:=congrArg List.length e1
  rw [List.length_take,List.length_append,List.length_append] at this
  simp only [List.length_cons,List.length_nil] at this
  omega
 have e2:under (done++[cur])=under done++(cur++[10]):=by unfold under;simp
 refine ⟨cur++[10],by omega,hk,?_,by rw [List.length_append];simp only [List.length_cons,List.length_nil];omega,done++[cur],[],by rw [List.append_nil,e2];exact e1,?_,by simp,?_,?_,hk⟩
 ·rw [sub_of (by omega)]
  refine congrArg some ?_
  have e3:(s.drop frm).take (k+1-frm)=(s.take (k+1)).drop frm:=(List.drop_take ..).symm
  rw [e3,e1,h4,List.drop_left]
 ·intro l hl
  rcases List.mem_append.1 hl with hl|hl
  ·exact h2 l hl
  ·rw [List.mem_singleton.1 hl];exact h3
 ·rw [e2,List.length_append,List.length_append];simp only [List.length_cons,List.length_nil];omega
 ·rw [keep_snoc,← h5]
theorem under_sub {a b:List By}(h:a.Sublist b):(under a).length≤(under b).length:=by
 induction h with
 | slnil=>exact Nat.le_refl _
 | cons x _ ih=>rw [under_cons,List.length_append,List.length_cons];omega
 | cons_cons x _ ih=>rw [under_cons,under_cons,List.length_append,List.length_append,List.length_cons,List.length_cons];omega
theorem less_le {w s less:By}{k frm:Nat}(h:LessAt w s k frm less):less.length≤s.length:=by
 obtain ⟨done,cur,h1,h2,h3,h4,h5,h6⟩:=h
 have a:less.length≤(under done).length:=by rw [h5];exact under_sub List.filter_sublist
 have b:=congrArg List.length h1
 rw [List.length_take,List.length_append] at b
 omega
theorem less_fin {w less:By}{ls:List By}{k frm:Nat}(h:LessAt w (under ls) k frm less) (hk:k=(under ls).length) (hl:∀ l∈ls,(10:UInt8)∉l):less=keepL w ls:=by
 obtain ⟨done,cur,h1,h2,h3,h4,h5,h6⟩:=h
 rw [hk,List.take_length] at h1
 have a:=under_split ls [] hl
 have b:=under_split done cur h2
 rw [List.append_nil,h1,b] at a
 have c:splitB 10 cur=[cur]:=split_one h3
 rw [c,show splitB 10 ([]:By)=[[]] from rfl] at a
 have:=List.append_inj_left' a rfl
 rw [h5,this]
theorem pre_cases (w x:By):(x.length<w.length∧w.isPrefixOf x=false)∨(w.length≤x.length∧x.take w.length=w∧w.isPrefixOf x=true)∨(w.length≤x.length∧x.take w.length≠w∧w.isPrefixOf x=false):=by
 have key:w.isPrefixOf x=true↔x.take w.length=w:=by
  rw [List.isPrefixOf_iff_prefix,List.prefix_iff_eq_take]
  exact eq_comm
 by_cases h:x.length<w.length
 ·refine .inl ⟨h,?_⟩
  rw [Bool.eq_false_iff]
  intro hp
  have:=congrArg List.length (key.1 hp)
  rw [List.length_take] at this
  omega
 ·by_cases hp:x.take w.length=w
  ·exact .inr (.inl ⟨by omega,hp,key.2 hp⟩)
  ·exact .inr (.inr ⟨by omega,hp,by rw [Bool.eq_false_iff];exact fun h=>hp (key.1 h)⟩)
end Go.Proofs.T
