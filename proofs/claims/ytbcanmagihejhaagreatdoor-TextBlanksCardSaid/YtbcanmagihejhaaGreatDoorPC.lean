/- The law on second lines and missing ones: the texts that it tries are short, what parses says of them; the loop that leaves lines out. -/
import Derived.Test.YtbcanmagihejhaaGreatDoorRD
import Derived.Test.YtbcanmagihejhaaGreatDoorPA
import Derived.Test.YtbcanmagihejhaaGreatDoorTK
set_option linter.unusedSimpArgs false
set_option linter.unusedVariables false
namespace Go.Proofs.T
open Go Go.Ab
set_option maxRecDepth 100000
theorem made_sub {T:Tn}(h:MadeT T){ms:List LM}(hs:ms.Sublist (lmOf T)):(under (ms.map lineP)).length<=2737/\∀ l∈ms.map lineP,Rs l:=by
 have hl:=made_lines h
 have hc:=made_count h
 have hn:=hs.length_le
 constructor
 ·refine Nat.le_trans (under_le (n:=160) _ fun l hm=>?_) (by rw [List.length_map];omega)
  obtain ⟨m,hm',rfl⟩:=List.mem_map.1 hm
  exact (hl m (hs.subset hm')).1
 ·intro l hm
  obtain ⟨m,hm',rfl⟩:=List.mem_map.1 hm
  exact (hl m (hs.subset hm')).2
theorem fine_of {s:By}(h1:s.length<=4000) (h2:runsOk s 0=true) (h3:∀ p e,parseS s= .error (p,e)->e≠0):Fine s:=⟨fun _ l a hm _=>line_ok h2 h1 hm,fun _=>h3,om⟩
theorem take_snoc {s:By}{k:Nat}{b:UInt8}(h:s[k]? =some b):s.take (k+1)=s.take k++[b]:=by
 rw [List.take_add_one,h];rfl
end Go.Proofs.T
