import Derived.Test.YtpbjekdjebjbkaaGreatDoorFf
import Derived.Laws.Externs
import Derived.LoopN
set_option linter.unusedSimpArgs false
set_option linter.unusedVariables false
namespace Go.Proofs.YtpbjekdjebjbkaaGreatDoor
open Go.RowKit
section
variable {P:Program} {N:Nat} {Q:Exit→Act→World→Prop} {f:Fr} {ds:List Deferred} {w w':World} {o:Oper} {ops:Array Oper} {L:List Item} {K:Act→World→Prop}
theorem x_extern {x:Operand} {g:FuncId} {fn:Func} {e:Array Value→Sem Value} {args:Array Operand} {ts:Array TypeId} {vs:List Value} {v:Value} (ho:o.op=.call { callee:=.value x,args:=args,argTypes:=ts }) (hx:evo f x=some (.func (.func g) #[] #[])) (hv:evs f args.toList=some vs)
   (hf : P.funcs[g]? = some fn) (hname : (fn.name == "runtime.NumGoroutine") = false) (hb : fn.body.isNone = true) (hn : Extern.findNext fn = none) (he : Extern.find fn = some e) (hr : (e vs.toArray).run P w = .ok v w') : Ex P N f ds o w v w' := fun a ha => by
 unfold execOp
 have h0:args.map a.eval=vs.toArray:=ha.evalsA hv
 have h1:(#[]:Array Value)++vs.toArray++#[]=vs.toArray:=by simp
 simp only [ho,resolve,ha.eval hx,Deferred.ofValue,Sem.run_bind,Sem.run_pure,Result.andThen_ok,invoke,h0,h1,run_callFunc_extern hf hname hb hn he,hr]
theorem x_assert1 {x:Operand} {xt t:TypeId} {v:Value} {d:TypeDesc} (ho:o.op=.typeAssert x xt t false) (hx:evo f x=some (.iface t v)) (hu:P.underlying t=some d) (hd:(match d with | .interface _=>true | _=>false)=false):Ex P N f ds o w v w:=
 ex_of (x:=Instr.typeAssert (.iface t v) xt t false) (fun a ha=>by unfold execOp; simp only [ho,ha.eval hx]) (by
   unfold Instr.typeAssert
   simp only [Sem.run_bind,run_underlying hu,Result.andThen_ok]
   cases d <;> simp at hd <;> simp)
theorem b_eqlMap {t k e:TypeId} {xo:Operand} {c:Value} {g:Nat} (h:P.underlying t=some (.map k e)):Bin P .eql t xo (.const c) (.map (some g)) (.map none) w (.bool false):=by
 have h0:(eqGuard .eql t xo (.const c) (.map (some g)) (.map none)).run P w=.ok () w:=by unfold eqGuard; cases xo <;> rfl
 have h1:(Op.equal t (.map (some g)) (.map none)).run P w=.ok false w:=by
   have h2:∀ d,(Op.equalIn (d+1) t (.map (some g)) (.map none)).run P w=.ok false w:=fun d=>by simp [Op.equalIn,run_underlying h]
   exact h2 9999
 unfold Bin; rw [Sem.run_bind,h0]
 simp only [Result.andThen_ok,binOp,Sem.run_bind,h1]
 rfl
variable {κ α:Type} {ek:κ→Value} {va:α→Value} {ok:κ→Prop} {M:κ→Option α}
theorem s_mapsClone {x:Operand} {fi:FuncId} {fn:Func} {args:Array Operand} {ts:Array TypeId} {t:TypeId} {g d:Nat} (H:S w L) (k0:Nat) (hw:Wt ops f o) (hd:o.dst=some d) (hN:Nat.blt d N=true) (hk:L[k0]?=some (Mp ek va ok g M))
   (ho:o.op=.call { callee:=.value x,args:=args,argTypes:=ts }) (hx:evo f x=some (.func (.func fi) #[] #[])) (hv:evs f args.toList=some [.iface t (.map (some g))])
   (hf : P.funcs[fi]? = some fn) (hname : (fn.name == "runtime.NumGoroutine") = false) (hb : fn.body.isNone = true) (hn : Extern.findNext fn = none) (he : Extern.find fn = some Extern.MapsClone.clone)
   (h:∀ g' w',S w' (Mp ek va ok g' M :: L)→G N K ((d,.iface t (.map (some g'))) :: f) ds w'):G N (StepK P ops Q o K) f ds w:=by
 obtain ⟨es,c,kv,hb1,hkv⟩:=H.mp hk
 have hr:(Extern.MapsClone.clone ([.iface t (.map (some g))]:List Value).toArray).run P w=.ok (.iface t (.map (some w.heap.size))) (w.alloc (.map es c)):=by
   have e:Extern.MapsClone.clone ([.iface t (.map (some g))]:List Value).toArray=(getObj g >>= fun o=>match o with
       | .map entries clock=>(newObj (.map entries clock) >>= fun n=>pure (.iface t (.map (some n))))
       | _ => stuck "maps.clone: a map expected") := rfl
   rw [e]
   simp [MapKept.run_getObj_map hb1,newObj,Sem.run,Result.andThen]
 refine s_val hw hd hN (x_extern ho hx hv hf hname hb hn he hr) (h _ _ ?_)
 have h1:=H.alloc (.map es c)
 obtain ⟨a1,a2,a3⟩:=h1.head
 exact h1.tail.cons ⟨es,c,kv,a1,hkv⟩ a2 a3
end
section
variable {P:Program} {N:Nat} {f:Fr} {ds:List Deferred} {w:World} {ops:Array Oper} {Q:Exit→Act→World→Prop} {K:Act→World→Prop} {o:Oper} {L:List Item}
end
theorem Reads.take {w:World} {p:Option Addr} {n c size:Nat} {xs:List Value} (hr:Reads w p n c size xs) (k:Nat) (hk:k≤n):Reads w p k c size (xs.take (k * size)):=by
 obtain ⟨k1,k2,k3⟩:=hr
 have hx:k * size≤n * size:=Nat.mul_le_mul_right _ hk
 refine ⟨by rw [List.length_take,k1]; omega,by omega,fun h0=>?_⟩
 obtain ⟨a,ha,hc⟩:=k3 (by omega)
 refine ⟨a,ha,fun j u hu=>hc j u ?_⟩
 have hj:=(List.getElem?_eq_some_iff.1 hu).1
 rw [List.length_take] at hj
 rwa [List.getElem?_take_of_lt (by omega)] at hu
def clipP (p:Option Addr) (k size:Nat):Option Addr:=if k=0 then p else p.map fun q=>q.add (0 * size)
open Go.ChangeMaps (setBlock)
section
variable {P:Program} {N:Nat} {Q:Exit→Act→World→Prop} {f:Fr} {ds:List Deferred} {w w':World} {o:Oper} {ops:Array Oper} {L:List Item} {K:Act→World→Prop}
theorem g_rounds {c:Code} (n:Nat) (h:G N (Code.rounds P c Q n) f ds w):G N ((Code.loop c).wp P Q) f ds w:=fun a ha=>wp_loop_rounds n (h a ha)
theorem g_roundU {c:Code} {n:Nat} (h:G N (c.wp P (Exit.then (Code.rounds P c Q n) Q)) f ds w):G N (Code.rounds P c Q (n+1)) f ds w:=h
theorem zero_ones {z:Value} {n:Nat} (h1:z.cells.toList.all (·.oneCell')=true) (hs:0<z.cells.size):∀ v∈(Builtin.zeroCells z.cells n).toList,v.oneCell'=true:=fun v hv=>by
 unfold Builtin.zeroCells at hv
 rw [Array.toList_map] at hv
 obtain ⟨i,_,rfl⟩:=List.mem_map.1 hv
 have hi:i % z.cells.size<z.cells.size:=Nat.mod_lt _ hs
 rw [getElem!_pos z.cells _ hi]
 exact List.all_eq_true.1 h1 _ (by simp)
theorem zero_len (cs:Array Value) (n:Nat):(Builtin.zeroCells cs n).toList.length=n * cs.size:=by unfold Builtin.zeroCells; simp
theorem s_clear {t e size n c i:Nat} {x:Operand} {z:Value} {p:Option Addr} {xs:List Value} (H:S w L) (k:Nat) (hw:Wt ops f o) (hd:o.dst=none) (ho:o.op=.call { callee:=.builtin .clear,args:=#[x],argTypes:=#[t] })
   (hx:evo f x=some (.slice (cutP p i c size) (n - i) (c - i))) (hk:L[k]?=some (Rw e size p n c xs)) (ht:P.underlying t=some (.slice e)) (hz:zeO P e=some z) (hzs:z.cells.size=size) (h1:z.cells.toList.all (·.oneCell')=true) (hs:0<size) (hi:i≤n)
   (h:∀ w',S w' (L.set k (Rw e size p i c (xs.take (i * size))))→G N K f ds w'):G N (StepK P ops Q o K) f ds w:=by
 obtain ⟨k1,k2,k3,k4⟩:=H.rw hk
 have his:i * size≤n * size:=Nat.mul_le_mul_right _ hi
 have hic:i * size≤c * size:=Nat.mul_le_mul_right _ (Nat.le_trans hi k2)
 have hns:n * size≤c * size:=Nat.mul_le_mul_right _ k2
 have hl:(xs.take (i * size)).length=i * size:=by rw [List.length_take]; omega
 have hxt:∀ j u,(xs.take (i * size))[j]?=some u→j<i * size∧xs[j]?=some u:=fun j u hu=>by
   rw [List.getElem?_take] at hu
   split at hu
   · rename_i hj; exact ⟨hj,hu⟩
   · cases hu
 rcases Nat.eq_zero_or_pos (n - i) with h0 | h0
 · rw [h0] at hx
   have hr:∀ ty,(Builtin.clear_ #[t] ty #[.slice (cutP p i c size) 0 (c - i)]).run P w=.ok (.tuple #[]) w:=fun ty=>by
     cases cutP p i c size <;> simp [Builtin.clear_,run_underlying ht]
   refine s_val0 hw hd (x_builtin (vs:=[.slice (cutP p i c size) 0 (c - i)]) (v:=.tuple #[]) (w':=w) ho (by simp only [evs,hx]) (fun cs=>by simp [builtin,hr])) (h _ ?_)
   refine H.turn hk ⟨rfl,rfl,rfl,Nat.le_refl _,fun _ _=>rfl⟩ ⟨hl,by omega,k3,?_⟩ (fun g hg=>⟨.inl hg,H.lt hk hg⟩)
   rcases k4 with ⟨q1,q2,q3⟩ | ⟨g,off,cur,q1,q2,q3,q4⟩
   · exact .inl ⟨q1,by omega,q3⟩
   · exact .inr ⟨g,off,cur,q1,q2,q3,fun j u hu=>q4 j u (hxt j u hu).2⟩
 · rcases k4 with ⟨_,q2,_⟩ | ⟨g,off,cur,rfl,q2,q3,q4⟩
   · omega
   · have hc:cutP (some ⟨g,off,none⟩) i c size=some ⟨g,off+i * size,none⟩:=by
       unfold cutP
       rw [if_neg (by omega),Option.map_some,add_lit']
     rw [hc] at hx
     have hnl:(n - i) * size=n * size - i * size:=Nat.sub_mul n i size
     have hst:=run_storeCells_at P g (off+i * size) e (Builtin.zeroCells z.cells (n - i)).toList 0 cur w q2 (by rw [zero_len,hzs,hnl]; omega) (zero_ones h1 (by omega))
     have hr:∀ ty,(Builtin.clear_ #[t] ty #[.slice (some ⟨g,off+i * size,none⟩) (n - i) (c - i)]).run P w=.ok (.tuple #[]) (w.setRow g (cur.toList.take (off+i * size)++(Builtin.zeroCells z.cells (n - i)).toList++cur.toList.drop (off+i * size+(Builtin.zeroCells z.cells (n - i)).toList.length)).toArray):=fun ty=>by
       obtain ⟨m,hm⟩:∃ m,n - i=m+1:=⟨n - i - 1,by omega⟩
       rw [hm] at hst ⊢
       simp only [Nat.add_zero] at hst
       simp [Builtin.clear_,run_underlying ht,run_ze hz,hst]
     refine s_val0 hw hd (x_builtin (vs:=[.slice (some ⟨g,off+i * size,none⟩) (n - i) (c - i)]) (v:=.tuple #[]) (w':=w.setRow g (cur.toList.take (off+i * size)++(Builtin.zeroCells z.cells (n - i)).toList++cur.toList.drop (off+i * size+(Builtin.zeroCells z.cells (n - i)).toList.length)).toArray) ho (by simp only [evs,hx]) (fun cs=>by simp only [builtin,hr,Sem.run_bind,Result.andThen_ok,Sem.run_pure])) (h _ ?_)
     have hlt:g<w.heap.size:=(Array.getElem?_eq_some_iff.1 q2).1
     have hcl:cur.toList.length=cur.size:=by simp
     refine H.turn hk ((same_setRow w g _).less fun b hb he=>hb.2 ⟨off,by rw [he]⟩) ⟨hl,by omega,k3,.inr ⟨g,off,_,rfl,by simp only [World.setRow,Array.getElem?_modify,if_true,q2,Option.map_some]; rfl,?_,fun j u hu=>?_⟩⟩ (fun b hb=>⟨.inl hb,?_⟩)
     · simp only [List.size_toArray,List.length_append,List.length_take,List.length_drop,zero_len,hzs,hnl,hcl]; omega
     · obtain ⟨hj,hu⟩:=hxt j u hu
       simp only [List.getElem?_toArray]
       rw [List.append_assoc,List.getElem?_append,List.length_take,hcl,if_pos (by omega),List.getElem?_take,if_pos (by omega),Array.getElem?_toList]
       exact q4 j u hu
     · obtain ⟨o',ho'⟩:=hb
       have:b=g:=by cases ho'; rfl
       rw [this]
       exact Nat.lt_of_lt_of_le hlt (same_setRow w g _).size
end
section
variable {κ α:Type} {ek:κ→Value} {va:α→Value} {ok:κ→Prop}
def delM {κ α:Type} [DecidableEq κ] (M:κ→Option α) (x:κ):κ→Option α:=fun y=>if y=x then none else M y
variable {P:Program} {N:Nat} {Q:Exit→Act→World→Prop} {f:Fr} {ds:List Deferred} {w w':World} {o:Oper} {ops:Array Oper} {L:List Item} {K:Act→World→Prop} {M:κ→Option α}
end
end Go.Proofs.YtpbjekdjebjbkaaGreatDoor
namespace Go.Proofs.YtpbjekdjebjbkaaGreatDoor
open Go.RowKit Go.Deep
section
variable {P:Program} {N:Nat} {Q:Exit→Act→World→Prop} {f:Fr} {ds:List Deferred} {w w':World} {o:Oper} {ops:Array Oper} {L:List Item} {K:Act→World→Prop}
end
end Go.Proofs.YtpbjekdjebjbkaaGreatDoor
