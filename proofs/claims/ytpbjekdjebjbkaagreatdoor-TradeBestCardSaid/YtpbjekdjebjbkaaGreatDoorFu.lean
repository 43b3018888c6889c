import Derived.Test.YtpbjekdjebjbkaaGreatDoorFm
import Derived.Test.YtpbjekdjebjbkaaGreatDoorSp
set_option linter.unusedSimpArgs false
set_option linter.unusedVariables false
namespace Go.Proofs.YtpbjekdjebjbkaaGreatDoor
open Go.RowKit
structure FunC {β:Type} (P:Program) (g:Nat) (fi ca:Array Value) (X:Item) (av:β→List Value) (rv:β→Value) (D:β→Prop):Prop where
 ok:callable P g=true
 does:∀ b,D b→∀ w,S w [X]→Calls P g (fi.toList++av b++ca.toList).toArray w fun e w'=>e=.returned (rv b)∧S w' ([X]++[Old w (fps [X])])
theorem FunC.cmpsZ {α:Type} {P:Program} {g:Nat} {fi ca:Array Value} {X:Item} {ev:α→Value} {c:α→α→Int} {D:α→Prop} (h:FunC P g fi ca X (fun p:α × α=>[ev p.1,ev p.2]) (fun p=>.int .i64 (c p.1 p.2)) (fun p=>D p.1∧D p.2)) {l:List (α × Nat)} (hl:∀ x∈l,D x.1):Cmps P g fi ca X (fun p:α × Nat=>ev p.1) (fun p q=>c p.1 q.1) l:=
 ⟨h.ok,fun x hx y hy w hS=>h.does (x.1,y.1) ⟨hl x hx,hl y hy⟩ w hS⟩
theorem FunC.imp {β:Type} {P:Program} {g:Nat} {fi ca:Array Value} {X:Item} {av:β→List Value} {rv:β→Value} {D D':β→Prop} (h:FunC P g fi ca X av rv D) (hd:∀ b,D' b→D b):FunC P g fi ca X av rv D':=⟨h.ok,fun b hb=>h.does b (hd b hb)⟩
theorem FunC.out {β:Type} {P:Program} {g:Nat} {fi ca:Array Value} {X:Item} {av:β→List Value} {rv rv':β→Value} {D:β→Prop} (h:FunC P g fi ca X av rv D) (hr:∀ b,D b→rv b=rv' b):FunC P g fi ca X av rv' D:=⟨h.ok,fun b hb w hS=>(h.does b hb w hS).mono fun e w' ⟨he,hw⟩=>⟨by rw [he,hr b hb],hw⟩⟩
theorem S.addNil {w:World} {L:List Item} (h:S w L):S w (Big [] :: L):=S.big (L:=[]) h
def Apart (w:World) (X:Item) (p:Option Addr) (n c size:Nat) (xs:List Value):Prop:=∀ w',S w' [X,Old w (fps [X])]→Reads w' p n c size xs
section
variable {w w0 w1:World} {L:List Item} {k i n c size e:Nat} {p:Option Addr} {xs:List Value} {N:Nat→Prop} {X:Item}
theorem fps_one {g:Nat}:fps [X] g ↔ X.fp g:=⟨fun ⟨it,h1,h2⟩=>by rw [List.mem_singleton] at h1; subst h1; exact h2,fun h=>⟨X,List.mem_singleton.2 rfl,h⟩⟩
theorem S.exReads (h:S w L) (hk:L[k]?=some (Old w0 N)) (hr:Reads w0 p n c size xs) (hx:0<n→∀ a,p=some a→¬ N a.block):Reads w p n c size xs:=by
 obtain ⟨k1,k2,k3⟩:=hr
 refine ⟨k1,k2,fun hn=>?_⟩
 obtain ⟨a,rfl,hc⟩:=k3 hn
 refine ⟨a,rfl,fun j u hu=>h.oldCell hk (hc j u hu) ?_⟩
 have:=hx hn a rfl
 unfold Addr.add; split <;> exact this
theorem Apart.nxt (h:Apart w X p n c size xs) (H:S w1 [X,Old w (fps [X])]):Apart w1 X p n c size xs:=fun w' h'=>h w' (H.absorbI (new:=[X]) [0] h')
theorem S.apartOld (h:S w L) (hi:L[i]?=some (Old w0 N)) (hk:L[k]?=some X) (hne:i ≠ k) (hr:Reads w0 p n c size xs) (hs:0<size) (hN:0<n→∀ a,p=some a→¬ N a.block):Apart w X p n c size xs:=fun w' h'=>h'.exReads (k:=1) rfl (h.exReads hi hr hN) fun hn a ha hf=>by
 replace hf:=fps_one.1 hf
 obtain ⟨k1,k2,k3⟩:=hr
 obtain ⟨b,hb,hc⟩:=k3 hn
 have hab:b=a:=by rw [ha] at hb; exact (Option.some.inj hb).symm
 subst hab
 have hlen:0<xs.length:=by rw [k1]; exact Nat.mul_pos hn hs
 have hcell:=hc 0 xs[0] (List.getElem?_eq_getElem hlen)
 have hlt:b.block<w0.heap.size:=by
   have h0:b.add 0=b:=by unfold Addr.add; simp
   rw [h0] at hcell
   refine Decidable.byContradiction fun hn9=>?_
   unfold World.cell? at hcell
   rw [Array.getElem?_eq_none (by omega)] at hcell
   cases hcell
 exact pair_of h.2 hi hk hne b.block ⟨hlt,hN hn b ha⟩ hf
theorem S.apartRw (h:S w L) (hi:L[i]?=some (Rw e size p n c xs)) (hk:L[k]?=some X) (hne:i ≠ k):Apart w X p n c size xs:=fun w' h'=>h'.exReads (k:=1) rfl (h.rwReads hi) fun hn a ha hf=>by
 replace hf:=fps_one.1 hf
 obtain ⟨k1,k2,k3,k4⟩:=h.rw hi
 rcases k4 with ⟨h1,_,_⟩ | ⟨g,o,cur,h1,_,_,_⟩
 · rw [h1] at ha; cases ha
 · rw [h1] at ha; cases ha
   exact pair_of h.2 hi hk hne g ⟨o,h1⟩ hf
end
def ixI {α:Type} (q:α→Bool) (l:List α):Int:=if l.any q then (l.findIdx q:Int) else -1
theorem ixI_at {α:Type} {q:α→Bool} {l:List α} {i:Nat} {x:α} (hx:l[i]?=some x) (hq:q x=true) (hno:∀ y∈l.take i,q y=false):ixI q l=i:=by
 have hi:=(List.getElem?_eq_some_iff.1 hx)
 unfold ixI
 rw [if_pos (List.any_eq_true.2 ⟨x,List.mem_of_getElem? hx,hq⟩)]
 congr 1
 obtain ⟨hil,hie⟩:=hi
 refine (List.findIdx_eq hil).2 ⟨by rw [hie]; exact hq,fun j hj=>?_⟩
 exact hno _ (List.mem_take_iff_getElem.2 ⟨j,by rw [Nat.lt_min]; exact ⟨hj,by omega⟩,rfl⟩)
theorem ixI_no {α:Type} {q:α→Bool} {l:List α} (hno:∀ y∈l,q y=false):ixI q l=-1:=by
 unfold ixI
 rw [if_neg (fun h=>by obtain ⟨x,hx,h2⟩:=List.any_eq_true.1 h; rw [hno x hx] at h2; cases h2)]
theorem ixI_any {α:Type} (q:α→Bool) (l:List α):decide ((0:Int)≤ixI q l)=l.any q:=by
 unfold ixI
 cases h:l.any q with
 | true=>simp
 | false=>simp
theorem ixI_some {α:Type} {q:α→Bool} {l:List α} (h:¬ ixI q l=-1):∃ i x,ixI q l=(i:Nat)∧l[i]?=some x∧q x=true∧∀ y∈l.take i,q y=false:=by
 unfold ixI at h ⊢
 by_cases h1:l.any q=true
 · rw [if_pos h1]
   have hlt:l.findIdx q<l.length:=by
     obtain ⟨x,hx,h2⟩:=List.any_eq_true.1 h1
     exact List.findIdx_lt_length_of_exists ⟨x,hx,h2⟩
   refine ⟨l.findIdx q,l[l.findIdx q],rfl,List.getElem?_eq_getElem hlt,List.findIdx_getElem,fun y hy=>?_⟩
   obtain ⟨j,hj,rfl⟩:=List.mem_take_iff_getElem.1 hy
   have:=List.not_of_lt_findIdx (p:=q) (xs:=l) (i:=j) (by omega)
   simpa using this
 · rw [if_neg h1] at h; exact absurd rfl h
theorem no_take {α:Type} {q:α→Bool} {l:List α} {k:Nat} {x:α} (h:∀ y∈l.take k,q y=false) (hx:l[k]?=some x) (hq:q x=false):∀ y∈l.take (k+1),q y=false:=fun y hy=>by
 rw [List.take_add_one,hx] at hy
 rcases List.mem_append.1 hy with hy | hy
 · exact h y hy
 · rw [Option.mem_toList.1 hy |> fun e=>(Option.some.inj e).symm]; exact hq
def keepS {α:Type} (q:α→Bool) (l:List α):List α:=l.filter fun x=>!q x
theorem keep_all {α:Type} {q:α→Bool} {l:List α} (h:∀ y∈l,q y=false):keepS q l=l:=List.filter_eq_self.2 fun y hy=>by rw [h y hy]; rfl
theorem keep_next {α:Type} {q:α→Bool} {l:List α} {j:Nat} {x:α} (hx:l[j]?=some x):keepS q (l.take (j+1))=keepS q (l.take j)++(if q x=true then [] else [x]):=by
 unfold keepS
 rw [List.take_add_one,hx,List.filter_append]
 cases h:q x <;> simp [h]
theorem keep_first {α:Type} {q:α→Bool} {l:List α} {i:Nat} {x:α} (hx:l[i]?=some x) (hq:q x=true) (hno:∀ y∈l.take i,q y=false):keepS q (l.take (i+1))=l.take i:=by
 rw [keep_next hx,if_pos hq,List.append_nil,keep_all hno]
theorem drop_at {α:Type} {l cur:List α} {j:Nat} (hs:cur.drop j=l.drop j):cur[j]?=l[j]?:=by
 have:=congrArg (fun z=>z[0]?) hs
 simpa [List.getElem?_drop] using this
theorem drop_one {α:Type} {l cur:List α} {j:Nat} (hs:cur.drop j=l.drop j):cur.drop (j+1)=l.drop (j+1):=by
 have:=congrArg (fun z=>z.drop 1) hs
 simpa [List.drop_drop] using this
theorem del_put {α:Type} {q:α→Bool} {l cur:List α} {i j:Nat} {x:α} (hl:cur.length=l.length) (hij:i<j) (hp:cur.take i=keepS q (l.take j)) (hs:cur.drop j=l.drop j) (hx:cur[j]?=some x) (hq:q x=false) :
   (cur.set i x).take (i+1)=keepS q (l.take (j+1))∧(cur.set i x).drop (j+1)=l.drop (j+1):=by
 have hjl:=(List.getElem?_eq_some_iff.1 hx).1
 constructor
 · rw [keep_next (by rw [← drop_at hs]; exact hx),if_neg (by rw [hq]; decide),← hp,List.take_add_one,List.getElem?_set_self (by omega),List.take_set_of_le (Nat.le_refl _)]; rfl
 · rw [List.drop_set_of_lt (by omega)]; exact drop_one hs
theorem del_skip {α:Type} {q:α→Bool} {l cur:List α} {i j:Nat} {x:α} (hp:cur.take i=keepS q (l.take j)) (hs:cur.drop j=l.drop j) (hx:cur[j]?=some x) (hq:q x=true) :
   cur.take i=keepS q (l.take (j+1))∧cur.drop (j+1)=l.drop (j+1):=by
 constructor
 · rw [keep_next (by rw [← drop_at hs]; exact hx),if_pos hq,List.append_nil,hp]
 · exact drop_one hs
end Go.Proofs.YtpbjekdjebjbkaaGreatDoor
