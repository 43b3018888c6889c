import Derived.Test.YtpbjekdjebjbkaaGreatDoorFc
set_option linter.unusedSimpArgs false
set_option linter.unusedVariables false
namespace Go.Proofs.YtpbjekdjebjbkaaGreatDoor
open Go.RowKit
def RoundX {α:Type} (b:Nat) (J Jx:List α→List Item→Prop) (base I K:Item) (xs:List α):Exit→Act→World→Prop
 | .normal,_,W=>∃ Lx,J xs Lx∧S W (base :: I :: K :: Lx)
 | .exit b',_,W=>b'=b∧∃ Lx,Jx xs Lx∧S W (base :: I :: K :: Lx)
 | _,_,_=>False
section
variable {P:Program} {N:Nat} {Q:Exit→Act→World→Prop} {f:Fr} {ds:List Deferred} {w:World} {n:Nat} {ops:Array Oper} {rest:List Oper} {o:Oper} {L:List Item}
end
def LeavesW (P:Program) (fn:Func) (tmps:Array Value) (R:Ending→World→Prop):List Deferred→FrameMode→World→Prop
 | [],u,w=>Leaves P fn tmps R [] u w
 | d :: ds,u,w=>u ≠ .run ∧
     ((∃ r w',d.target=.collected r∧(Instr.takeDeferred r).run P w=.ok [] w'∧LeavesW P fn tmps R ds u w') ∨
      (∃ fv cap f args,d.target=.fn fv cap∧(invoke d.target d.args).run P w=.ok (.enter f args) w ∧
       CallsD P f args u w fun
         | .returned _,u',w'=>LeavesW P fn tmps R ds (settle u') w'
         | .panicked chain,u',w'=>LeavesW P fn tmps R ds (raised u' chain) w'
         | .outgrown,_,w'=>R .outgrown w'))
section
variable {P:Program}
def bodyPostW (P:Program) (fn:Func) (R:Ending→World→Prop):Exit→Act→World→Prop
 | .normal,a,w | .ret,a,w=>LeavesW P fn a.tmps R a.defers .returning w
 | .panic chain,a,w=>LeavesW P fn a.tmps R a.defers (.panicking chain) w
 | .outgrown,_,w=>R .outgrown w
 | _,_,_=>False
end
section
variable {P:Program} {N:Nat} {f:Fr} {ds:List Deferred} {w:World} {L:List Item}
def GLW (N:Nat) (P:Program) (fn:Func) (R:Ending→World→Prop) (f:Fr) (ds:List Deferred) (u:FrameMode) (w:World):Prop:=∀ a,Rds N a f a.defers→LeavesW P fn a.tmps R ds u w
end
open Go.Maps (Keyed)
open Go.ChangeMaps (setBlock)
section
variable {κ α:Type} {ek:κ→Value} {va:α→Value} {ok:κ→Prop} {M:κ→Option α} {es:Array MapEntry} {c:Nat} {kv:List (κ × α)}
def zipOf (es:Array MapEntry) (kv:List (κ × α)) (seen:Array Nat):List (MapEntry × (κ × α)):=(es.toList.zip kv).filter (fun z=>!seen.contains z.1.born)
def remOf (es:Array MapEntry) (kv:List (κ × α)) (seen:Array Nat):List (κ × α):=(zipOf es kv seen).map Prod.snd
theorem KV.fst_zip (h:KV ek va ok M es c kv):(es.toList.zip kv).map Prod.fst=es.toList:=List.map_fst_zip (by have:=h.len; simp; omega)
theorem KV.left (h:KV ek va ok M es c kv) (seen:Array Nat):(leftOf es seen).toList=(zipOf es kv seen).map Prod.fst:=by
 unfold leftOf zipOf
 rw [Array.toList_filter]
 conv=>lhs; rw [← h.fst_zip]
 rw [List.filter_map]; rfl
def CurOk (ek:κ→Value) (va:α→Value) (es:Array MapEntry) (seen:Array Nat):Option (κ × α)→Prop
 | none=>True
 | some p=>∃ (seen0:Array Nat) (e:MapEntry),seen=seen0.push e.born∧e∈es.toList∧e.key=ek p.1∧e.val=va p.2
def MpR (ek:κ→Value) (va:α→Value) (ok:κ→Prop) (g r:Nat) (M:κ→Option α) (rem:List (κ × α)) (cur:Option (κ × α)):Item:=
 ⟨fun j=>j=g∨j=r,fun w=>g ≠ r∧∃ es c kv seen since st,w.heap[g]?=some (.map es c)∧KV ek va ok M es c kv∧w.heap[r]?=some (.mapIter (some g) since seen st)∧(∀ e∈es.toList,e.born<since)∧(since≤st∧since≤c)∧rem=remOf es kv seen∧(cur.isSome=true→st=c)∧CurOk ek va es seen cur,fun h k=>by
   obtain ⟨hn,es,c,kv,seen,since,st,h1,h2,h3,h4⟩:=k
   exact ⟨hn,es,c,kv,seen,since,st,(h.block g (.inl rfl)).trans h1,h2,(h.block r (.inr rfl)).trans h3,h4⟩⟩
variable {P:Program} {N:Nat} {Q:Exit→Act→World→Prop} {f:Fr} {ds:List Deferred} {w w':World} {o:Oper} {ops:Array Oper} {L:List Item} {K:Act→World→Prop}
end
end Go.Proofs.YtpbjekdjebjbkaaGreatDoor
