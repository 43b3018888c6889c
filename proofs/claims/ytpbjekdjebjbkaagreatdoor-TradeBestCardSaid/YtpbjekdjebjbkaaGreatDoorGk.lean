import Derived.Test.YtpbjekdjebjbkaaGreatDoorFm
set_option linter.unusedSimpArgs false
set_option linter.unusedVariables false
namespace Go.Proofs.YtpbjekdjebjbkaaGreatDoor
open Go.RowKit
open Go.Maps (Keyed)
section
variable {κ α:Type} {ek:κ→Value} {va:α→Value} {ok:κ→Prop} {M:κ→Option α} {es:Array MapEntry} {c:Nat} {kv:List (κ × α)}
def Mi (ek:κ→Value) (va:α→Value) (es:Array MapEntry) (c:Nat) (kv:List (κ × α)) (g r:Nat) (rem:List (κ × α)) (cur:Option (κ × α)):Item:=
 ⟨fun j=>j=r,fun w=>∃ seen since st,w.heap[r]?=some (.mapIter (some g) since seen st)∧(∀ e∈es.toList,e.born<since)∧(since≤st∧since≤c)∧rem=remOf es kv seen∧(cur.isSome=true→st=c)∧CurOk ek va es seen cur,fun h k=>by
   obtain ⟨seen,since,st,h3,h4⟩:=k
   exact ⟨seen,since,st,(h.block r rfl).trans h3,h4⟩⟩
variable {P:Program} {N:Nat} {Q:Exit→Act→World→Prop} {f:Fr} {ds:List Deferred} {w w':World} {o:Oper} {ops:Array Oper} {L:List Item} {K:Act→World→Prop}
end
end Go.Proofs.YtpbjekdjebjbkaaGreatDoor
