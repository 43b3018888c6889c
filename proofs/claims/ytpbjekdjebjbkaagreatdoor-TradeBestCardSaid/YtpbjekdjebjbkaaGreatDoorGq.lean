import Derived.Test.YtpbjekdjebjbkaaGreatDoorFm
set_option linter.unusedSimpArgs false
set_option linter.unusedVariables false
namespace Go.Proofs.YtpbjekdjebjbkaaGreatDoor
open Go.RowKit
def Lst {α:Type} (F:α→Item) (l:List α):Item:=Big (l.map F)
section
variable {α:Type} {F:α→Item} {l:List α} {w:World} {L:List Item} {x:α} {j:Nat}
theorem S.lstOut (h:S w (Lst F l :: L)) (hj:l[j]?=some x):S w (F x :: Lst F (l.eraseIdx j) :: L):=by
 have h1:S w (l.map F++L):=h.unbig
 have hp:(l.map F).Perm (F x :: (l.eraseIdx j).map F):=(perm_erase hj).map F
 have h2:=h1.perm (hp.append_right L)
 have h3:S w ((l.eraseIdx j).map F++(F x :: L)):=h2.perm (List.perm_middle.symm)
 exact h3.big.perm (List.Perm.swap ..)
theorem S.lstIn (h:S w (F x :: Lst F (l.eraseIdx j) :: L)) (hj:j<l.length):S w (Lst F (l.set j x) :: L):=by
 have h1:S w (Lst F (l.eraseIdx j) :: (F x :: L)):=h.perm (List.Perm.swap ..)
 have h2:S w ((l.eraseIdx j).map F++(F x :: L)):=h1.unbig
 have hp:((l.set j x).map F).Perm (F x :: (l.eraseIdx j).map F):=by
   have h5:(l.set j x)[j]?=some x:=by rw [List.getElem?_set_self hj]
   have:=(perm_erase h5).map F
   rwa [List.eraseIdx_set_eq] at this
 have h3:S w ((l.set j x).map F++L):=h2.perm (by
   refine List.Perm.trans ?_ (hp.symm.append_right L)
   exact List.perm_middle)
 exact h3.big
theorem S.lstBack (h:S w (F x :: Lst F (l.eraseIdx j) :: L)) (hj:l[j]?=some x):S w (Lst F l :: L):=by
 obtain ⟨h1,h2⟩:=List.getElem?_eq_some_iff.1 hj
 have h3:=S.lstIn h h1
 rwa [← h2,List.set_getElem_self] at h3
theorem S.lstNil (h:S w L) (F:α→Item):S w (Lst F [] :: L):=S.big (L:=[]) h
theorem S.lstSnoc (h:S w (F x :: Lst F l :: L)):S w (Lst F (l++[x]) :: L):=by
 have h1:S w (Lst F l :: (F x :: L)):=h.perm (List.Perm.swap ..)
 have h2:S w (l.map F++(F x :: L)):=h1.unbig
 have h3:S w ((l++[x]).map F++L):=by
   rw [List.map_append,List.append_assoc]; exact h2
 exact h3.big
theorem S.lstAt {k:Nat} (h:S w L) (hk:L[k]?=some (Lst F l)) (hj:l[j]?=some x):S w [F x]:=by
 have h1:S w [Lst F l]:=S.sublist h (by
   refine List.singleton_sublist.2 (List.mem_of_getElem? hk))
 exact (S.lstOut h1 hj).sublist (List.Sublist.cons_cons _ (List.nil_sublist _))
end
def Finds (P:Program) (t:TypeId) (v:Value) (name:String) (g:FuncId) (rv:Value):Prop:=∀ w,(method (P.types.size+Made.depth) t v name).run P w=.ok (g,rv) w
section
variable {P:Program} {N:Nat} {f:Fr} {ds:List Deferred} {w:World} {o:Oper}
theorem x_invoke {x:Operand} {name:String} {args:Array Operand} {ts:Array TypeId} {t:TypeId} {v rv:Value} {g:FuncId} {vs:List Value} (ho:o.op=.call { callee:=.invoke x name,args:=args,argTypes:=ts }) (hx:evo f x=some (.iface t v)) (hv:evs f args.toList=some vs)
   (hm:Finds P t v name g rv) (hg:callable P g=true):ExC P N f ds o w g (rv :: vs) w:=fun a ha=>by
 unfold execOp
 have he:args.map a.eval=vs.toArray:=ha.evalsA hv
 obtain ⟨ra,hra⟩:∃ ra,ra=#[a.eval x]++args.map a.eval:=⟨_,rfl⟩
 have e0:ra[0]?=some (.iface t v):=by rw [hra,he,ha.eval hx,Array.getElem?_append_left (by simp)]; rfl
 have e1:ra.extract 1 ra.size=vs.toArray:=by
   rw [hra,he]; apply Array.ext'; simp
 simp only [ho,resolve,Sem.run_bind,Sem.run_pure,Result.andThen_ok,invoke,← hra,e0,e1,callMethod,run_program,hm w,run_callFunc hg]
 congr 2
 apply Array.ext'
 simp
end
end Go.Proofs.YtpbjekdjebjbkaaGreatDoor
