import Derived.Test.YtpbjekdjebjbkaaGreatDoorFj
import Derived.Test.YtpbjekdjebjbkaaGreatDoorSo
set_option linter.unusedSimpArgs false
set_option linter.unusedVariables false
namespace Go.Proofs.YtpbjekdjebjbkaaGreatDoor
open Go.RowKit
theorem S.rwSome {w:World} {L:List Item} {k e size n c:Nat} {p:Option Addr} {xs:List Value} (h:S w L) (hk:L[k]?=some (Rw e size p n c xs)) (hn:0<n):∃ a,p=some a:=by
 obtain ⟨a,h1,_⟩:=(h.rwReads hk).2.2 hn
 exact ⟨a,h1⟩
def mV {β:Type} (ev:β→Value) (l:List β):List Value:=l.flatMap fun x=>(ev x).cells.toList
theorem mV_app {β:Type} (ev:β→Value) (a b:List β):mV ev (a++b)=mV ev a++mV ev b:=by unfold mV; rw [List.flatMap_append]
theorem mV_cons {β:Type} (ev:β→Value) (a:β) (b:List β):mV ev (a :: b)=(ev a).cells.toList++mV ev b:=by unfold mV; rw [List.flatMap_cons]
theorem mV_take {β:Type} {ev:β→Value} {size:Nat} (hs:∀ x,(ev x).cells.size=size):∀ (l:List β) (i:Nat),(mV ev l).take (i * size)=mV ev (l.take i)
 | l,0=>by simp [mV]
 | [],i+1=>by simp [mV]
 | a :: l,i+1=>by
   rw [List.take_succ_cons,mV_cons,mV_cons,show (i+1) * size=(ev a).cells.toList.length+i * size from by rw [Array.length_toList,hs,Nat.succ_mul]; omega,List.take_length_add_append,mV_take hs l i]
theorem mV_drop {β:Type} {ev:β→Value} {size:Nat} (hs:∀ x,(ev x).cells.size=size):∀ (l:List β) (i:Nat),(mV ev l).drop (i * size)=mV ev (l.drop i)
 | l,0=>by simp
 | [],i+1=>by simp [mV]
 | a :: l,i+1=>by
   rw [List.drop_succ_cons,mV_cons,show (i+1) * size=(ev a).cells.toList.length+i * size from by rw [Array.length_toList,hs,Nat.succ_mul]; omega,List.drop_length_add_append,mV_drop hs l i]
theorem mV_set {β:Type} {ev:β→Value} {size:Nat} (hs:∀ x,(ev x).cells.size=size) {l:List β} {i:Nat} (y:β) (h:i<l.length):(mV ev l).take (i * size)++(ev y).cells.toList++(mV ev l).drop (i * size+size)=mV ev (l.set i y):=by
 rw [show i * size+size=(i+1) * size from by rw [Nat.succ_mul],mV_take hs,mV_drop hs,List.set_eq_take_append_cons_drop,if_pos h,mV_app,mV_cons,List.append_assoc]
theorem mV_atR {β:Type} {ev:β→Value} {size:Nat} (hs:∀ x,(ev x).cells.size=size) {l:List β} {j:Nat} {d:β} (h:j<l.length):∀ i u,((ev (l.getD j d)).cells.toList)[i]?=some u→(mV ev l)[j * size+i]?=some u:=by
 intro i u hu
 have h1:l[j]?=some (l.getD j d):=by rw [List.getD_eq_getElem?_getD,List.getElem?_eq_getElem h]; rfl
 exact flat_at (f:=fun x=>(ev x).cells.toList) (size:=size) (fun a _=>by rw [Array.length_toList]; exact hs a) h1 i u hu
theorem mV_at {β:Type} {ev:β→Value} (hs:∀ x,(ev x).cells=#[ev x]) {l:List β} {j:Nat} {d:β} (h:j<l.length):(mV ev l)[j * 1]?=some (ev (l.getD j d)):=by
 have:=mV_atR (ev:=ev) (size:=1) (fun x=>by rw [hs]; rfl) (d:=d) h 0 (ev (l.getD j d)) (by rw [hs]; rfl)
 simpa using this
structure Cmps (P:Program) (g:Nat) (fi ca:Array Value) (X:Item) {β:Type} (ev:β→Value) (c:β→β→Int) (l:List β):Prop where
 ok:callable P g=true
 does:∀ x∈l,∀ y∈l,∀ w,S w [X]→Calls P g (fi.toList++[ev x,ev y]++ca.toList).toArray w fun e w'=>e=.returned (.int .i64 (c x y))∧S w' ([X]++[Old w (fps [X])])
theorem insIn_go {β:Type} {d:β} {c:β→β→Int} {a j:Nat} {l:List β} (h:a<j) (hc:c (l.getD j d) (l.getD (j - 1) d)<0):insIn d c a j l=insIn d c a (j - 1) (swp d l j (j - 1)):=by
 obtain ⟨k,rfl⟩:∃ k,j=k+1:=⟨j - 1,by omega⟩
 rw [show k+1 - 1=k from rfl] at hc ⊢
 conv=>lhs; unfold insIn
 rw [if_pos ⟨h,hc⟩]
theorem insIn_stop {β:Type} {d:β} {c:β→β→Int} {a j:Nat} {l:List β} (h:¬ c (l.getD j d) (l.getD (j - 1) d)<0):insIn d c a j l=l:=by
 cases j with
 | zero=>rfl
 | succ k=>unfold insIn; rw [if_neg (fun q=>h q.2)]
theorem insIn_end {β:Type} {d:β} {c:β→β→Int} {a j:Nat} {l:List β} (h:¬ a<j):insIn d c a j l=l:=by
 cases j with
 | zero=>rfl
 | succ k=>unfold insIn; rw [if_neg (fun q=>h q.1)]
theorem insOut_go {β:Type} {d:β} {c:β→β→Int} {a b i:Nat} {l:List β} (h:i<b):insOut d c a (b - i) i l=insOut d c a (b - (i+1)) (i+1) (insIn d c a i l):=by
 rw [show b - i=(b - (i+1))+1 from by omega]; rfl
theorem insOut_end {β:Type} {d:β} {c:β→β→Int} {a b i:Nat} {l:List β} (h:¬ i<b):insOut d c a (b - i) i l=l:=by
 rw [show b - i=0 from by omega]; rfl
end Go.Proofs.YtpbjekdjebjbkaaGreatDoor
