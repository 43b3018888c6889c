import Derived.Test.YthmmfhdpkddniaaGreatDoorGl
import Derived.Test.YthmmfhdpkddniaaGreatDoorFm
import Derived.Test.YthmmfhdpkddniaaGreatDoorH0
set_option maxRecDepth 20000
set_option maxHeartbeats 4000000
set_option linter.unusedSimpArgs false
set_option linter.unusedVariables false
namespace Go.Proofs.YthmmfhdpkddniaaGreatDoor
open Go.RowKit
structure FunC {β:Type} (P:Program) (g:Nat) (fi ca:Array Value) (X:Item) (av:β→List Value) (rv:β→Value) (D:β→Prop):Prop where
 ok:callable P g=true
 does:∀ b,D b→∀ w,S w [X]→Calls P g (fi.toList++av b++ca.toList).toArray w fun e w'=>e=.returned (rv b)∧S w' ([X]++[Old w (fps [X])])
theorem FunC.imp {β:Type} {P:Program} {g:Nat} {fi ca:Array Value} {X:Item} {av:β→List Value} {rv:β→Value} {D D':β→Prop} (h:FunC P g fi ca X av rv D) (hd:∀ b,D' b→D b):FunC P g fi ca X av rv D':=⟨h.ok,fun b hb=>h.does b (hd b hb)⟩
theorem FunC.out {β:Type} {P:Program} {g:Nat} {fi ca:Array Value} {X:Item} {av:β→List Value} {rv rv':β→Value} {D:β→Prop} (h:FunC P g fi ca X av rv D) (hr:∀ b,D b→rv b=rv' b):FunC P g fi ca X av rv' D:=⟨h.ok,fun b hb w hS=>(h.does b hb w hS).mono fun e w' ⟨he,hw⟩=>⟨by rw [he,hr b hb],hw⟩⟩
def Apart (w:World) (X:Item) (p:Option Addr) (n c size:Nat) (xs:List Value):Prop:=∀ w',S w' [X,Old w (fps [X])]→Reads w' p n c size xs
section
variable {w w0 w1:World} {L:List Item} {k i n c size e:Nat} {p:Option Addr} {xs:List Value} {N:Nat→Prop} {X:Item}
theorem fps_one {g:Nat}:fps [X] g ↔ X.fp g:=⟨fun ⟨it,h1,h2⟩=>by rw [List.mem_singleton] at h1; subst h1; exact h2,fun h=>⟨X,List.mem_singleton.2 rfl,h⟩⟩
theorem S.exReads (h:S w L) (hk:L[k]?=some (Old w0 N)) (hr:Reads w0 p n c size xs) (hx:0<n→∀ a,p=some a→¬ N a.block):Reads w p n c size xs:=by
 obtain ⟨k1,k2,k3⟩:=hr
 refine ⟨k1,k2,fun hn=>?_⟩
 obtain ⟨a,rfl,hc⟩:=k3 hn
 refine ⟨a,rfl,fun j u hu=>h.oldCell hk (hc j u hu) ?_⟩
 have:=hx hn a rfl
 unfold Addr.add; split <;> exact this
theorem Apart.nxt (h:Apart w X p n c size xs) (H:S w1 [X,Old w (fps [X])]):Apart w1 X p n c size xs:=fun w' h'=>h w' (H.absorbI (new:=[X]) [0] h')
theorem S.apartRw (h:S w L) (hi:L[i]?=some (Rw e size p n c xs)) (hk:L[k]?=some X) (hne:i ≠ k):Apart w X p n c size xs:=fun w' h'=>h'.exReads (k:=1) rfl (h.rwReads hi) fun hn a ha hf=>by
 replace hf:=fps_one.1 hf
 obtain ⟨k1,k2,k3,k4⟩:=h.rw hi
 rcases k4 with ⟨h1,_,_⟩ | ⟨g,o,cur,h1,_,_,_⟩
 · rw [h1] at ha; cases ha
 · rw [h1] at ha; cases ha
   exact pair_of h.2 hi hk hne g ⟨o,h1⟩ hf
end
def ixI {α:Type} (q:α→Bool) (l:List α):Int:=if l.any q then (l.findIdx q:Int) else -1
theorem ixI_at {α:Type} {q:α→Bool} {l:List α} {i:Nat} {x:α} (hx:l[i]?=some x) (hq:q x=true) (hno:∀ y∈l.take i,q y=false):ixI q l=i:=by
 have hi:=(List.getElem?_eq_some_iff.1 hx)
 unfold ixI
 rw [if_pos (List.any_eq_true.2 ⟨x,List.mem_of_getElem? hx,hq⟩)]
 congr 1
 obtain ⟨hil,hie⟩:=hi
 refine (List.findIdx_eq hil).2 ⟨by rw [hie]; exact hq,fun j hj=>?_⟩
 exact hno _ (List.mem_take_iff_getElem.2 ⟨j,by rw [Nat.lt_min]; exact ⟨hj,by omega⟩,rfl⟩)
theorem ixI_no {α:Type} {q:α→Bool} {l:List α} (hno:∀ y∈l,q y=false):ixI q l=-1:=by
 unfold ixI
 rw [if_neg (fun h=>by obtain ⟨x,hx,h2⟩:=List.any_eq_true.1 h; rw [hno x hx] at h2; cases h2)]
theorem ixI_some {α:Type} {q:α→Bool} {l:List α} (h:¬ ixI q l=-1):∃ i x,ixI q l=(i:Nat)∧l[i]?=some x∧q x=true∧∀ y∈l.take i,q y=false:=by
 unfold ixI at h ⊢
 by_cases h1:l.any q=true
 · rw [if_pos h1]
   have hlt:l.findIdx q<l.length:=by
     obtain ⟨x,hx,h2⟩:=List.any_eq_true.1 h1
     exact List.findIdx_lt_length_of_exists ⟨x,hx,h2⟩
   refine ⟨l.findIdx q,l[l.findIdx q],rfl,List.getElem?_eq_getElem hlt,List.findIdx_getElem,fun y hy=>?_⟩
   obtain ⟨j,hj,rfl⟩:=List.mem_take_iff_getElem.1 hy
   have:=List.not_of_lt_findIdx (p:=q) (xs:=l) (i:=j) (by omega)
   simpa using this
 · rw [if_neg h1] at h; exact absurd rfl h
theorem no_take {α:Type} {q:α→Bool} {l:List α} {k:Nat} {x:α} (h:∀ y∈l.take k,q y=false) (hx:l[k]?=some x) (hq:q x=false):∀ y∈l.take (k+1),q y=false:=fun y hy=>by
 rw [List.take_add_one,hx] at hy
 rcases List.mem_append.1 hy with hy | hy
 · exact h y hy
 · rw [Option.mem_toList.1 hy |> fun e=>(Option.some.inj e).symm]; exact hq
def keepS {α:Type} (q:α→Bool) (l:List α):List α:=l.filter fun x=>!q x
theorem keep_all {α:Type} {q:α→Bool} {l:List α} (h:∀ y∈l,q y=false):keepS q l=l:=List.filter_eq_self.2 fun y hy=>by rw [h y hy]; rfl
theorem keep_next {α:Type} {q:α→Bool} {l:List α} {j:Nat} {x:α} (hx:l[j]?=some x):keepS q (l.take (j+1))=keepS q (l.take j)++(if q x=true then [] else [x]):=by
 unfold keepS
 rw [List.take_add_one,hx,List.filter_append]
 cases h:q x <;> simp [h]
theorem keep_first {α:Type} {q:α→Bool} {l:List α} {i:Nat} {x:α} (hx:l[i]?=some x) (hq:q x=true) (hno:∀ y∈l.take i,q y=false):keepS q (l.take (i+1))=l.take i:=by
 rw [keep_next hx,if_pos hq,List.append_nil,keep_all hno]
theorem drop_at {α:Type} {l cur:List α} {j:Nat} (hs:cur.drop j=l.drop j):cur[j]?=l[j]?:=by
 have:=congrArg (fun z=>z[0]?) hs
 simpa [List.getElem?_drop] using this
theorem drop_one {α:Type} {l cur:List α} {j:Nat} (hs:cur.drop j=l.drop j):cur.drop (j+1)=l.drop (j+1):=by
 have:=congrArg (fun z=>z.drop 1) hs
 simpa [List.drop_drop] using this
theorem del_put {α:Type} {q:α→Bool} {l cur:List α} {i j:Nat} {x:α} (hl:cur.length=l.length) (hij:i<j) (hp:cur.take i=keepS q (l.take j)) (hs:cur.drop j=l.drop j) (hx:cur[j]?=some x) (hq:q x=false) :
   (cur.set i x).take (i+1)=keepS q (l.take (j+1))∧(cur.set i x).drop (j+1)=l.drop (j+1):=by
 have hjl:=(List.getElem?_eq_some_iff.1 hx).1
 constructor
 · rw [keep_next (by rw [← drop_at hs]; exact hx),if_neg (by rw [hq]; decide),← hp,List.take_add_one,List.getElem?_set_self (by omega),List.take_set_of_le (Nat.le_refl _)]; rfl
 · rw [List.drop_set_of_lt (by omega)]; exact drop_one hs
theorem del_skip {α:Type} {q:α→Bool} {l cur:List α} {i j:Nat} {x:α} (hp:cur.take i=keepS q (l.take j)) (hs:cur.drop j=l.drop j) (hx:cur[j]?=some x) (hq:q x=true) :
   cur.take i=keepS q (l.take (j+1))∧cur.drop (j+1)=l.drop (j+1):=by
 constructor
 · rw [keep_next (by rw [← drop_at hs]; exact hx),if_pos hq,List.append_nil,hp]
 · exact drop_one hs
def Lst {α:Type} (F:α→Item) (l:List α):Item:=Big (l.map F)
section
variable {α:Type} {F:α→Item} {l:List α} {w:World} {L:List Item} {x:α} {j:Nat}
theorem S.lstOut (h:S w (Lst F l :: L)) (hj:l[j]?=some x):S w (F x :: Lst F (l.eraseIdx j) :: L):=by
 have h1:S w (l.map F++L):=h.unbig
 have hp:(l.map F).Perm (F x :: (l.eraseIdx j).map F):=(perm_erase hj).map F
 have h2:=h1.perm (hp.append_right L)
 have h3:S w ((l.eraseIdx j).map F++(F x :: L)):=h2.perm (List.perm_middle.symm)
 exact h3.big.perm (List.Perm.swap ..)
theorem S.lstIn (h:S w (F x :: Lst F (l.eraseIdx j) :: L)) (hj:j<l.length):S w (Lst F (l.set j x) :: L):=by
 have h1:S w (Lst F (l.eraseIdx j) :: (F x :: L)):=h.perm (List.Perm.swap ..)
 have h2:S w ((l.eraseIdx j).map F++(F x :: L)):=h1.unbig
 have hp:((l.set j x).map F).Perm (F x :: (l.eraseIdx j).map F):=by
   have h5:(l.set j x)[j]?=some x:=by rw [List.getElem?_set_self hj]
   have:=(perm_erase h5).map F
   rwa [List.eraseIdx_set_eq] at this
 have h3:S w ((l.set j x).map F++L):=h2.perm (by
   refine List.Perm.trans ?_ (hp.symm.append_right L)
   exact List.perm_middle)
 exact h3.big
theorem S.lstNil (h:S w L) (F:α→Item):S w (Lst F [] :: L):=S.big (L:=[]) h
theorem S.lstSnoc (h:S w (F x :: Lst F l :: L)):S w (Lst F (l++[x]) :: L):=by
 have h1:S w (Lst F l :: (F x :: L)):=h.perm (List.Perm.swap ..)
 have h2:S w (l.map F++(F x :: L)):=h1.unbig
 have h3:S w ((l++[x]).map F++L):=by
   rw [List.map_append,List.append_assoc]; exact h2
 exact h3.big
theorem S.lstAt {k:Nat} (h:S w L) (hk:L[k]?=some (Lst F l)) (hj:l[j]?=some x):S w [F x]:=by
 have h1:S w [Lst F l]:=S.sublist h (by
   refine List.singleton_sublist.2 (List.mem_of_getElem? hk))
 exact (S.lstOut h1 hj).sublist (List.Sublist.cons_cons _ (List.nil_sublist _))
end
theorem FunC.ofBig {β:Type} {P:Program} {g:Nat} {fi ca:Array Value} {L:List Item} {av:β→List Value} {rv:β→Value} {D:β→Prop} (hg:callable P g=true) (h:∀ b,D b→∀ w,S w L→Calls P g (fi.toList++av b++ca.toList).toArray w fun e w'=>e=.returned (rv b)∧S w' (L++[Old w (fps L)])):FunC P g fi ca (Big L) av rv D:=⟨hg,fun b hb w HS=>by
 have h2:S w (L++[]):=S.unbig HS
 rw [List.append_nil] at h2
 refine (h b hb w h2).mono ?_
 rintro e w' ⟨he,hs⟩
 refine ⟨he,?_⟩
 have e2:fps [Big L]=fps L:=by
   funext k
   refine propext ⟨fun ⟨it,h1,h3⟩=>?_,fun h=>⟨Big L,List.mem_singleton.2 rfl,h⟩⟩
   rw [List.mem_singleton] at h1; subst h1; exact h3
 rw [e2]
 exact S.big hs⟩
theorem FunC.pure {β:Type} {P:Program} {g:Nat} {fi ca:Array Value} {av:β→List Value} {rv:β→Value} {D:β→Prop} (hg:callable P g=true) (h:∀ b,D b→∀ w,Calls P g (fi.toList++av b++ca.toList).toArray w fun e w'=>e=.returned (rv b)∧S w' [Old w no]):FunC P g fi ca (Big []) av rv D:=
 FunC.ofBig hg fun b hb w _=>(h b hb w).mono fun e w' ⟨h1,h2⟩=>⟨h1,by
   rw [show fps []=no from funext fun k=>propext ⟨fun ⟨it,h3,_⟩=>(List.not_mem_nil h3).elim,False.elim⟩]; exact h2⟩
theorem inf5:infO Tryz.prog 5=some (some (.int .u8 0),1,1):=by kernel_rfl
theorem sz5:szO Tryz.prog 5=some 1:=by kernel_rfl
def eR (h i:Nat):List Nat:=(List.range 8).map (fun p=>if 8 - i≤p then h / 256 ^ (7 - p) % 256 else 0)
open Go.Maps (Keyed)
section
variable {κ α:Type} {ek:κ→Value} {va:α→Value} {ok:κ→Prop} {M:κ→Option α} {es:Array MapEntry} {c:Nat} {kv:List (κ × α)}
def Mi (ek:κ→Value) (va:α→Value) (es:Array MapEntry) (c:Nat) (kv:List (κ × α)) (g r:Nat) (rem:List (κ × α)) (cur:Option (κ × α)):Item:=
 ⟨fun j=>j=r,fun w=>∃ seen since st,w.heap[r]?=some (.mapIter (some g) since seen st)∧(∀ e∈es.toList,e.born<since)∧(since≤st∧since≤c)∧rem=remOf es kv seen∧(cur.isSome=true→st=c)∧CurOk ek va es seen cur,fun h k=>by
   obtain ⟨seen,since,st,h3,h4⟩:=k
   exact ⟨seen,since,st,(h.block r rfl).trans h3,h4⟩⟩
variable {P:Program} {N:Nat} {Q:Exit→Act→World→Prop} {f:Fr} {ds:List Deferred} {w w':World} {o:Oper} {ops:Array Oper} {L:List Item} {K:Act→World→Prop}
end
end Go.Proofs.YthmmfhdpkddniaaGreatDoor
namespace Go.Proofs.YthmmfhdpkddniaaGreatDoor
open Go.RowKit
theorem cl206:callable Tryz.prog 206=true:=by kernel_rfl
theorem cl208:callable Tryz.prog 208=true:=by kernel_rfl
theorem sz174:szO Tryz.prog 174=some 1:=by kernel_rfl
theorem sz221:szO Tryz.prog 221=some 4:=by kernel_rfl
theorem sz223:szO Tryz.prog 223=some 4:=by kernel_rfl
theorem sz3:szO Tryz.prog 3=some 1:=by kernel_rfl
theorem ze223:zeO Tryz.prog 223=some (.agg #[.int .u64 0,.int .u64 0,.int .u64 0,.int .u64 0]):=by kernel_rfl
theorem begL_lt:∀ x∈[startT 0,startT 1,startT 2,startT 3],x<18446744073709551616:=by decide
def begTo (k:Nat):List Nat:=(List.range 4).map (fun i=>if i<k then startT i else 0)
theorem begTo_len (k:Nat):(begTo k).length=4:=by unfold begTo; simp
theorem begTo_at {k p:Nat} (hp:p<4):(begTo k)[p]?=some (if p<k then startT p else 0):=by
 unfold begTo; rw [List.getElem?_map,List.getElem?_range hp]; rfl
theorem begTo_next {k:Nat} (hk:k<4):(begTo k).set k (startT k)=begTo (k+1):=by
 apply List.ext_getElem?
 intro p
 rw [List.getElem?_set,begTo_len]
 by_cases hp:p<4
 · rw [begTo_at hp,begTo_at hp]
   by_cases e:k=p
   · subst e; rw [if_pos rfl,if_pos hk,if_pos (by omega)]
   · rw [if_neg e]
     by_cases e2:p<k
     · rw [if_pos e2,if_pos (by omega)]
     · rw [if_neg e2,if_neg (by omega)]
 · rw [if_neg (by omega),List.getElem?_eq_none (by rw [begTo_len]; omega),List.getElem?_eq_none (by rw [begTo_len]; omega)]
def begL:List Nat:=begTo 4
theorem begL_len:begL.length=4:=begTo_len 4
theorem lanV_ext {l:List Nat} (hl:l.length=4):(lanV l).extract 0 (0+4)=lanV l:=by
 apply Array.ext'
 have:=uV_len l
 unfold lanV
 simp
 exact List.take_of_length_le (by omega)
theorem begun_h   (w:World):Calls Tryz.prog 206 #[] w fun e w'=>e=.returned (.agg (lanV begL))∧S w' [Old w no]:=by
 have H0:=S.old w
 refine enter 15 Tryz.func206 rfl rfl rfl ?_
 refine g_wk [] ?_
 refine w_s ?_
 refine l_of (s_alloc H0 (wt0 rfl) rfl rfl rfl ze223 ?_)
 intro g1 wq2 H3
 refine w_k2 ?_
 refine l_of (s_alloc H3 (wt0 rfl) rfl rfl rfl ze223 ?_)
 intro g4 wq5 H6
 refine w_k6 ?_
 refine g_loop (ι:=Nat) (fun k=>[(0,.pointer (some ⟨g1,0,none⟩)),(1,.pointer (some ⟨g4,0,none⟩)),(3,.int .i64 ((k:Int)))]) (fun k wx=>(k≤4)∧S wx [Ob g4 (.cells (lanV (begTo k)) 223 (0,0)),Ob g1 (.cells (lanV (begTo 0)) 223 (0,0)),Old w no]) (fun k=>4 - k) (0) ⟨rfl,rfl,rfl,trivial⟩ ⟨Nat.zero_le _,(H6.tk [0,1,2])⟩ ?_
 rintro k wq7 ⟨hk,H8⟩
 refine g_wk [(0,_),(1,_),(3,_)] ?_
 refine w_s ?_
 refine w_k2 ?_
 refine g_seq ?_
 by_cases hb9:((k:Int):Int)<4
 ·
  refine g_ct hb9 ?_
  refine w_k11 ?_
  refine w_v (v:=.int .u64 ((k:Int))) (x_conv rfl rfl Tryz.underlying3 Tryz.underlying174 (wrapU (by omega))) ?_
  refine w_b (v:=.int .u64 (((k * 11400714819323198485 % 18446744073709551616:Nat):Int))) (hb:=(b_mulU k 11400714819323198485)) ?_
  refine w_b (v:=.int .u64 (((startT k:Nat):Int))) (hb:=(b_addU 14695981039346656037 (k * 11400714819323198485 % 18446744073709551616))) ?_
  refine w_0 ?_
  refine w_v (v:=.pointer (some ⟨g4,k,none⟩)) (x_indexAddrA k rfl rfl rfl Tryz.underlying221 sz174 (by omega) (off':=k) (by omega)) ?_
  refine l_of (s_store1 H8 0 (wt0 rfl) rfl rfl rfl rfl rfl sz174 rfl rfl (by rw [lanV_size]; simp [begTo_len]; omega) ?_)
  intro wq10 H11
  rw [lanV_set (l:=(begTo k)) (i:=k) (x:=(startT k)) (by simp [begTo_len]; omega)] at H11
  replace H11:S wq10 [Ob g4 (.cells (lanV ((begTo k).set k (startT k))) 223 (0,0)),Ob g1 (.cells (lanV (begTo 0)) 223 (0,0)),Old w no]:=H11
  refine w_k4 ?_
  refine w_b (v:=.int .i64 ((k:Int)+1)) (hb:=(b_add (w64 (by omega)))) ?_
  refine w_k2 ?_
  refine g_rd (i:=(k)) (k+1) ⟨by omega,(by rw [← begTo_next (by omega)]; exact (H11.tk [0,1,2]))⟩
 ·
  refine g_cf hb9 ?_
  refine w_k6 ?_
  refine w_v (v:=.agg (lanV (begTo k))) (x_loadA H8 0 rfl rfl Tryz.underlying223 rfl sz223 rfl (Nat.ble_eq_true_of_le (by rw [lanV_size,begTo_len]; omega)) (lanV_ext (begTo_len _))) ?_
  refine l_of (s_store H8 1 (wt0 rfl) rfl rfl rfl rfl rfl sz223 rfl rfl (cs':=lanV (begTo k)) (by simp [Value.cells,lanV,uV_len,begTo_len]) ?_)
  intro wq12 H13
  refine w_k2 ?_
  refine fin_ret [.cell 0 223] [.agg (lanV (begTo k))] rfl ⟨⟨_,rfl,run_loadA (H13.ob (k:=1) rfl) Tryz.underlying223 rfl sz223 rfl rfl⟩,trivial⟩ ?_
  have hk4:k=4:=by omega
  subst hk4
  exact ⟨rfl,H13.mask [false,false,true]⟩
theorem newh_h   (w:World):Calls Tryz.prog 194 #[] w fun e w'=>∃ g,e=.returned (.pointer (some ⟨g,0,none⟩))∧S w' ([Ob g (.cells (hashV begL 0) 226 (0,0))]++[Old w no]):=by
 have H0:=S.old w
 refine enter 4 Tryz.func194 rfl rfl rfl ?_
 refine g_wk [] ?_
 refine w_s ?_
 refine w_k3 ?_
 refine l_of (s_call0 H0 (wt0 rfl) (x_call' rfl rfl cl206) (begun_h _) rfl rfl ?_)
 intro wq1 H2
 refine w_v (v:=.agg (hashV begL 0)) (x_build (vs:=[.agg (lanV begL)]) rfl rfl (cells:=hashV begL 0) (by kernel_rfl)) ?_
 refine l_of (s_box H2 (wt0 rfl) rfl rfl rfl rfl ?_)
 intro g3 wq4 H5
 refine w_k3 ?_
 refine fin_r [.tmp 0] [.pointer (some ⟨g3,0,none⟩)] ?_
 exact ⟨_,rfl,H5⟩
theorem getD_u {l:List Nat} (h:∀ x∈l,x<18446744073709551616) (i:Nat):l.getD i 0<18446744073709551616:=by
 rw [List.getD_eq_getElem?_getD]
 cases hq:l[i]? with
 | none=>show (0:Nat)<_; omega
 | some x=>exact h x (List.mem_of_getElem? hq)
abbrev DHb0 (w:World) (gh:Nat) (l:List Nat) (n:Nat):=Old w (fps [Ob gh (.cells (hashV l n) 226 (0,0))])
theorem take_h (gh n:Nat) (l:List Nat) (hl:l.length=4) (hlt:∀ x∈l,x<18446744073709551616) (b:Nat) (hb:b<256) (w:World) (HB:S w [Ob gh (.cells (hashV l n) 226 (0,0))]):Calls Tryz.prog 208 #[.pointer (some ⟨gh,0,none⟩),.int .u8 (b:Int)] w fun e w'=>e=.returned (.tuple #[])∧S w' ([Ob gh (.cells (hashV (l.map (mixT · b)) n) 226 (0,0))]++[DHb0 w gh l n]):=by
 have H0:S _ [_,_]:=HB.beginI
 refine enter 29 Tryz.func208 rfl rfl rfl ?_
 refine g_wk [(0,_),(1,_)] ?_
 refine w_s ?_
 refine w_r3 ?_
 refine w_v (v:=.agg (lanV l)) (x_loadA H0 0 rfl rfl Tryz.underlying221 rfl sz221 rfl (Nat.ble_eq_true_of_le (by rw [hashV_size]; omega)) (hashV_ext hl)) ?_
 refine w_k3 ?_
 refine g_loop (ι:=Nat) (fun k=>[(0,.pointer (some ⟨gh,0,none⟩)),(1,.int .u8 ((b:Int))),(9,.agg (lanV l)),(10,.int .i64 ((k:Int)))]) (fun k wx=>(k≤4)∧S wx [Ob gh (.cells (hashV (takeTo k b l) n) 226 (0,0)),DHb0 w gh l n]) (fun k=>4 - k) (0) ⟨rfl,rfl,rfl,rfl,trivial⟩ ⟨Nat.zero_le _,(by rw [takeTo_zero]; exact H0)⟩ ?_
 rintro k wq1 ⟨hk,H2⟩
 refine g_wk [(0,_),(1,_),(9,_),(10,_)] ?_
 have hgl:l.getD k 0<18446744073709551616:=getD_u hlt k
 have hx:=u64_xor hgl (show b<18446744073709551616 by omega)
 have hX:((l.getD k 0 ^^^ b) * 1099511628211 % 18446744073709551616)<18446744073709551616:=Nat.mod_lt _ (by omega)
 have hX2:((l.getD k 0 ^^^ b) * 1099511628211 % 18446744073709551616) / 536870912≤((l.getD k 0 ^^^ b) * 1099511628211 % 18446744073709551616):=Nat.div_le_self _ _
 refine w_k3 ?_
 refine g_seq ?_
 by_cases hb3:((k:Int):Int)<4
 ·
  refine g_ct hb3 ?_
  refine w_k6 ?_
  refine w_v (v:=.int .u64 (((l.getD k 0:Nat):Int))) (x_indexW k rfl rfl rfl Tryz.underlying221 sz174 Tryz.underlying174 rfl (by omega) (lanV_at (by omega))) ?_
  refine w_k6 ?_
  refine w_v (v:=.int .u64 ((b:Int))) (x_conv rfl rfl Tryz.underlying5 Tryz.underlying174 (wrapU (by omega))) ?_
  refine w_b (v:=.int .u64 (((l.getD k 0 ^^^ b:Nat):Int))) (hb:=(b_xorU (a:=l.getD k 0) (b:=b) (by omega))) ?_
  refine w_b (v:=.int .u64 (((((l.getD k 0 ^^^ b) * 1099511628211 % 18446744073709551616):Nat):Int))) (hb:=(b_mulU (l.getD k 0 ^^^ b) 1099511628211)) ?_
  refine w_k7 ?_
  refine w_b (v:=.int .u64 (((((l.getD k 0 ^^^ b) * 1099511628211 % 18446744073709551616) / 536870912:Nat):Int))) (hb:=(b_shrN (a:=((l.getD k 0 ^^^ b) * 1099511628211 % 18446744073709551616)) (n:=29) (by decide))) ?_
  refine w_b (v:=.int .u64 (((mixT (l.getD k 0) b:Nat):Int))) (hb:=(b_xorU (a:=((l.getD k 0 ^^^ b) * 1099511628211 % 18446744073709551616)) (b:=((l.getD k 0 ^^^ b) * 1099511628211 % 18446744073709551616) / 536870912) (by omega))) ?_
  refine w_r2 ?_
  refine w_v (v:=.pointer (some ⟨gh,k,none⟩)) (x_indexAddrA k rfl rfl rfl Tryz.underlying221 sz174 (by omega) (off':=k) (by omega)) ?_
  refine l_of (s_store1 H2 0 (wt0 rfl) rfl rfl rfl rfl rfl sz174 rfl rfl (by rw [hashV_size,takeTo_len]; omega) ?_)
  intro wq4 H5
  rw [hashV_set (l:=(takeTo k b l)) (i:=k) (x:=(mixT (l.getD k 0) b)) (by rw [takeTo_len]; omega)] at H5
  replace H5:S wq4 [Ob gh (.cells (hashV ((takeTo k b l).set k (mixT (l.getD k 0) b)) n) 226 (0,0)),DHb0 w gh l n]:=H5
  refine w_k3 ?_
  refine g_wk [(0,_),(1,_),(9,_),(10,_)] ?_
  refine g_region ?_
  refine w_b (v:=.int .i64 ((k:Int)+1)) (hb:=(b_add (w64 (by omega)))) ?_
  refine w_k2 ?_
  refine g_rd (i:=(k)) (k+1) ⟨by omega,(by rw [← takeTo_next (by omega)]; exact H5)⟩
 ·
  refine g_cf hb3 ?_
  refine w_k4 ?_
  refine fin_end [] [] rfl trivial ?_
  have hk4:k=l.length:=by omega
  subst hk4
  exact ⟨rfl,by rw [← takeTo_all]; exact H2.mask [true,true]⟩
theorem lanes_lt {s:ByteArray} {l:List Nat} (h:∀ x∈l,x<18446744073709551616) (i:Nat):∀ x∈l.map (laneP s · i),x<18446744073709551616:=fun x hx=>by
 obtain ⟨y,hy,rfl⟩:=List.mem_map.1 hx
 exact laneP_lt (h y hy) i
theorem lanes_next (s:ByteArray) (l:List Nat) (i:Nat):(l.map (laneP s · i)).map (mixT · (bt' s i))=l.map (laneP s · (i+1)):=by rw [List.map_map]; rfl
theorem lanes_zero (s:ByteArray) (l:List Nat):l.map (laneP s · 0)=l:=by
 conv=>rhs; rw [← List.map_id l]
 rfl
theorem each_h (gh n:Nat) (l:List Nat) (hl:l.length=4) (hlt:∀ x∈l,x<18446744073709551616) (s:ByteArray) (hs:s.size≤1099511627776) (w:World) (HB:S w [Ob gh (.cells (hashV l n) 226 (0,0))]):Calls Tryz.prog 207 #[.string s,.func (.func 208) #[.pointer (some ⟨gh,0,none⟩)] #[]] w fun e w'=>e=.returned (.tuple #[])∧S w' ([Ob gh (.cells (hashV (l.map (laneP s · s.size)) n) 226 (0,0))]++[DHb0 w gh l n]):=by
 have H0:S _ [_,_]:=HB.beginI
 refine enter 16 Tryz.func207 rfl rfl rfl ?_
 refine g_wk [(0,_),(1,_)] ?_
 refine w_s ?_
 refine w_m ?_
 refine w_v (x_lens rfl rfl Tryz.underlying9) ?_
 refine w_k3 ?_
 refine g_loop (ι:=Nat) (fun i=>[(0,.string s),(1,.func (.func 208) #[.pointer (some ⟨gh,0,none⟩)] #[]),(6,.int .i64 ((s.size:Int))),(7,.int .i64 ((i:Int)))]) (fun i wx=>(i≤s.size)∧S wx [Ob gh (.cells (hashV (l.map (laneP s · i)) n) 226 (0,0)),DHb0 w gh l n]) (fun i=>s.size - i) (0) ⟨rfl,rfl,rfl,rfl,trivial⟩ ⟨Nat.zero_le _,(by rw [lanes_zero]; exact H0)⟩ ?_
 rintro i wq1 ⟨hi,H2⟩
 refine g_wk [(0,_),(1,_),(6,_),(7,_)] ?_
 refine w_s ?_
 refine w_k2 ?_
 refine g_seq ?_
 by_cases hb3:((i:Int):Int)<(s.size:Int)
 ·
  refine g_ct hb3 ?_
  refine w_k12 ?_
  have hbt4:=bt'_lt s i
  refine w_v (v:=.int .u8 ((bt' s i:Int))) (x_index i rfl rfl rfl Tryz.underlying9 (by omega)) ?_
  refine l_of (s_call (wt0 rfl) (x_call rfl rfl rfl cl208) (take_h gh n (l.map (laneP s · i)) (by simp [hl]) (lanes_lt hlt i) (bt' s i) (bt'_lt s i) _ (H2.tk [0])) ?_)
  rintro _ wq5 ⟨rfl,H6⟩
  rw [lanes_next] at H6
  replace H6:S _ [_,_]:=H2.abI (new:=[_]) [0] H6 rfl
  refine b_ret rfl rfl ?_
  refine w_k4 ?_
  refine w_b (v:=.int .i64 ((i:Int)+1)) (hb:=(b_add (w64 (by omega)))) ?_
  refine w_k2 ?_
  refine g_rd (i:=(i)) (i+1) ⟨by omega,H6⟩
 ·
  refine g_cf hb3 ?_
  refine w_k4 ?_
  refine fin_end [] [] rfl trivial ?_
  have his:i=s.size:=by omega
  exact ⟨rfl,by rw [← his]; exact H2.mask [true,true]⟩
theorem addh_h (gh n:Nat) (l:List Nat) (hl:l.length=4) (hlt:∀ x∈l,x<18446744073709551616) (s:ByteArray) (hs:s.size≤1099511627776) (hn:n≤1099511627776) (w:World) (HB:S w [Ob gh (.cells (hashV l n) 226 (0,0))]):Calls Tryz.prog 195 #[.pointer (some ⟨gh,0,none⟩),.string s] w fun e w'=>e=.returned (.tuple #[])∧S w' ([Ob gh (.cells (hashV (l.map (laneP s · s.size)) (n+s.size)) 226 (0,0))]++[DHb0 w gh l n]):=by
 have H0:S _ [_,_]:=HB.beginI
 refine enter 21 Tryz.func195 rfl rfl rfl ?_
 refine g_wk [(0,_),(1,_)] ?_
 refine g_seq ?_
 refine w_k2 ?_
 refine w_b (v:=.bool false) (hb:=(b_eqN (r:=false) Tryz.underlying213 rfl)) ?_
 refine w_e ?_
 refine g_cond_f rfl rfl ?_
 refine w_k7 ?_
 refine w_v (x_makeFunc rfl rfl rfl) ?_
 refine l_of (s_cl (each_h gh n l hl hlt s hs _ (H0.tk [0])) ?_)
 rintro _ wq1 ⟨rfl,H2⟩
 replace H2:S _ [_,_]:=H0.abI (new:=[_]) [0] H2 rfl
 refine b_ret rfl rfl ?_
 refine w_k5 ?_
 refine w_v (x_load1 H2 0 rfl rfl Tryz.underlying3 rfl rfl (hashV_at (by first | omega | (simp only [List.length_map,takeTo_len]; omega)))) ?_
 refine w_m ?_
 refine w_v (x_lens rfl rfl Tryz.underlying9) ?_
 refine w_b (v:=.int .i64 (((n+s.size:Nat):Int))) (hb:=(b_addN (a:=n) (b:=s.size) (by omega))) ?_
 refine w_r2 ?_
 refine l_of (s_store1 H2 0 (wt0 rfl) rfl rfl rfl rfl rfl sz3 rfl rfl (by rw [hashV_size]; first | omega | (simp only [List.length_map,takeTo_len]; omega)) ?_)
 intro wq3 H4
 rw [hashV_setN (l:=(l.map (laneP s · s.size))) (n:=n) (m:=(n+s.size)) (by first | omega | (simp only [List.length_map,takeTo_len]; omega))] at H4
 replace H4:S wq3 [Ob gh (.cells (hashV (l.map (laneP s · s.size)) (n+s.size)) 226 (0,0)),DHb0 w gh l n]:=H4
 refine w_0 ?_
 refine fin_end [] [] rfl trivial ?_
 exact ⟨rfl,H4.mask [true,true]⟩
end Go.Proofs.YthmmfhdpkddniaaGreatDoor
