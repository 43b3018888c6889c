import Derived.Test.YthmmfhdpkddniaaGreatDoorEd
import Derived.ArgAppend
import Derived.Laws.Slices
import Derived.RangeFuncNested
import Derived.RangeFuncBound
import Derived.RangeFuncCalls
import Derived.RangeFuncLeaves
import Derived.RangeFuncFrom
import Derived.OrdersIn
import Derived.TacticsIn
set_option linter.all false
namespace Go.Proofs.YthmmfhdpkddniaaGreatDoor
open Go.RowKit
def bz (w:World) (p:Option Addr) (n c size:Nat) (xs:List Value):Prop:=xs.length=n * size∧n≤c∧(0<n→∃ a,p=some a∧∀ j u,xs[j]?=some u→w.cell? (a.add j)=some u)
theorem qz (a:Addr) (m i:Nat):(a.add m).add i=a.add (m+i):=by
 unfold Addr.add
 by_cases hm:m=0
 · subst hm; simp
 · by_cases hi:i=0
   · subst hi; simp
   · rw [if_neg hi,if_neg hm,if_neg (by omega)]
     simp [Nat.add_assoc]
theorem qC {α:Type} {f:α→List Value} {size:Nat}:∀ {l:List α},(∀ a∈l,(f a).length=size)→(l.flatMap f).length=l.length * size
 | [],_=>by simp
 | a :: l,h=>by
   rw [List.flatMap_cons,List.length_append,h a (List.mem_cons_self ..),qC (fun b hb=>h b (List.mem_cons_of_mem _ hb)),List.length_cons,Nat.add_mul]; omega
theorem Ae {α:Type} {f:α→List Value} {size:Nat}:∀ {l:List α} {j:Nat} {x:α},(∀ a∈l,(f a).length=size)→l[j]?=some x→∀ i u,(f x)[i]?=some u→(l.flatMap f)[j * size+i]?=some u
 | [],j,x,_,h,_,_,_=>by simp at h
 | a :: l,0,x,hs,h,i,u,hu=>by
   simp only [List.getElem?_cons_zero,Option.some.injEq] at h; subst h
   rw [List.flatMap_cons,Nat.zero_mul,Nat.zero_add,List.getElem?_append_left (List.getElem?_eq_some_iff.1 hu).1]; exact hu
 | a :: l,j+1,x,hs,h,i,u,hu=>by
   rw [List.getElem?_cons_succ] at h
   rw [List.flatMap_cons,List.getElem?_append_right (by rw [hs a (List.mem_cons_self ..),Nat.add_mul]; omega),hs a (List.mem_cons_self ..)]
   have:(j+1) * size+i - size=j * size+i:=by rw [Nat.add_mul]; omega
   rw [this]
   exact Ae (fun b hb=>hs b (List.mem_cons_of_mem _ hb)) h i u hu
theorem r5 (b:Nat) {e:TypeId} {fr:Nat × Nat}:∀ (vs:List Value) (o:Nat) (w:World) (cur:Array Value),w.heap[b]?=some (.cells cur e fr)→o+vs.length≤cur.size →
   ∃ cur':Array Value,(w.setCells b o vs).heap[b]?=some (.cells cur' e fr)∧cur'.size=cur.size∧(∀ j,j<o→cur'[j]?=cur[j]?)∧(∀ j,j<vs.length→cur'[o+j]?=vs[j]?)
 | [],o,w,cur,h,_=>⟨cur,h,rfl,fun _ _=>rfl,fun j hj=>absurd hj (Nat.not_lt_zero _)⟩
 | v :: vs,o,w,cur,h,hl=>by
   simp only [List.length_cons] at hl
   have h1:(w.setCell ⟨b,o,none⟩ v).heap[b]?=some (.cells (cur.setIfInBounds o v) e fr):=by
     simp [World.setCell,Array.getElem?_modify,h]
   obtain ⟨cur',k1,k2,k3,k4⟩:=r5 b vs (o+1) _ _ h1 (by rw [Array.size_setIfInBounds]; omega)
   refine ⟨cur',k1,by rw [k2,Array.size_setIfInBounds],fun j hj=>?_,fun j hj=>?_⟩
   · rw [k3 j (by omega),Array.getElem?_setIfInBounds_ne (by omega)]
   cases j with
   | zero=>rw [Nat.add_zero,k3 o (by omega),Array.getElem?_setIfInBounds_self_of_lt (by omega)]; rfl
   | succ j=>rw [show o+(j+1)=o+1+j from by omega,k4 j (by simp at hj; omega)]; rfl
theorem rY (b:Nat):∀ (vs:List Value) (o:Nat) (w:World),iY (fun k=>k ≠ b) w (w.setCells b o vs)
 | [],_,_=>iY.rfl'
 | v :: vs,o,w=>(o7 w b o v).trans (rY b vs (o+1) _)
def Rw (e size:Nat) (p:Option Addr) (n c:Nat) (xs:List Value):aD:=
 ⟨fun g=>∃ o,p=some ⟨g,o,none⟩,
  fun w=>xs.length=n * size∧n≤c∧c≤maxLen∧((p=none∧n=0∧c=0)∨∃ g o cur,p=some ⟨g,o,none⟩∧w.heap[g]?=some (.cells cur e (0,0))∧o+c * size≤cur.size∧∀ j u,xs[j]?=some u→cur[o+j]?=some u),
  fun h ⟨k1,k2,k3,k4⟩=>⟨k1,k2,k3,by
    rcases k4 with k | ⟨g,o,cur,e1,e2,e3⟩
    · exact .inl k
    · exact .inr ⟨g,o,cur,e1,(h.block g ⟨o,e1⟩).trans e2,e3⟩⟩⟩
section
variable {P:Program} {N:Nat} {Q:Exit→Act→World→Prop} {f:Fr} {ds:List Deferred} {w w':World} {o:Oper} {ops:Array Oper} {L:List aD} {K:Act→World→Prop}
theorem S.rw {k e size n c:Nat} {p:Option Addr} {xs:List Value} (h:S w L) (hk:L[k]?=some (Rw e size p n c xs)):xs.length=n * size∧n≤c∧c≤maxLen∧((p=none∧n=0∧c=0)∨∃ g o cur,p=some ⟨g,o,none⟩∧w.heap[g]?=some (.cells cur e (0,0))∧o+c * size≤cur.size∧∀ j u,xs[j]?=some u→cur[o+j]?=some u):=h.at hk
theorem S.nilRw (h:S w L) (e size:Nat):S w (Rw e size none 0 0 [] :: L):=
 h.cons ⟨by simp,Nat.le_refl _,Nat.zero_le _,.inl ⟨rfl,rfl,rfl⟩⟩ (fun g hg=>by obtain ⟨o,ho⟩:=hg; cases ho) (fun x hx g hg=>by obtain ⟨o,ho⟩:=hg; cases ho)
theorem S.rwReads {k e size n c:Nat} {p:Option Addr} {xs:List Value} (h:S w L) (hk:L[k]?=some (Rw e size p n c xs)):bz w p n c size xs:=by
 obtain ⟨k1,k2,k3,k4⟩:=h.rw hk
 refine ⟨k1,k2,fun hn=>?_⟩
 rcases k4 with ⟨_,h0,_⟩ | ⟨g,o,cur,rfl,hg,hs,hc⟩
 · omega
 exact ⟨_,rfl,fun j u hu=>by rw [iL,cell_of_row w g _ cur e (0,0) hg]; exact hc j u hu⟩
theorem S.oldReads {w0:World} {k size n c:Nat} {p:Option Addr} {xs:List Value} (h:S w L) (hk:L[k]?=some (aB w0 no)) (hr:bz w0 p n c size xs):bz w p n c size xs:=by
 obtain ⟨k1,k2,k3⟩:=hr
 refine ⟨k1,k2,fun hn=>?_⟩
 obtain ⟨a,rfl,hc⟩:=k3 hn
 exact ⟨a,rfl,fun j u hu=>h.oldCell hk (hc j u hu) id⟩
theorem zG {t e size n c:Nat} {x y:Operand} {k:IntKind} {i:Int} {p:Option Addr} (j:Nat) (hp:∃ a,p=some a) (ho:o.op=.indexAddr t x y) (hx:cy f x=some (.slice p n c)) (hy:cy f y=some (.int k i)) (hu:P.underlying t=some (.slice e)) (hz:jW P e=some size) (hb:i=(j:Int)∧j<n) :
   Ex P N f ds o w (.pointer (p.map fun a=>a.add (j * size))) w:=
 fH (x:=Instr.indexAt t (.slice p n c) (.int k i)) (fun a ha=>by unfold execOp; simp only [ho,ha.eval hx,ha.eval hy]) (by
   obtain ⟨rfl,hj⟩:=hb
   obtain ⟨a,rfl⟩:=hp
   unfold Instr.indexAt
   have h1:(0:Int)≤(j:Int)∧(j:Int)<(n:Int):=by omega
   simp only [asIntOf,Sem.run_bind,Sem.run_pure,Result.andThen_ok,run_underlying hu,if_pos h1,Int.toNat_natCast,iZ hz,Option.map_some])
theorem Ch {t e size n c:Nat} {x y:Operand} {k:IntKind} {i:Int} {p:Option Addr} {xs:List Value} (j:Nat) (hr:bz w p n c size xs) (ho:o.op=.indexAddr t x y) (hx:cy f x=some (.slice p n c)) (hy:cy f y=some (.int k i)) (hu:P.underlying t=some (.slice e)) (hz:jW P e=some size) (hb:i=(j:Int)∧j<n) :
   Ex P N f ds o w (.pointer (p.map fun a=>a.add (j * size))) w:=
 zG j (by obtain ⟨a,h,_⟩:=hr.2.2 (by omega); exact ⟨a,h⟩) ho hx hy hu hz hb
theorem bc {t size n c:Nat} {d:TypeDesc} {x:Operand} {p:Option Addr} {xs vs:List Value} (j:Nat) (hr:bz w p n c size xs) (hj:j<n) (ho:o.op=.load t x) (hx:cy f x=some (.pointer (p.map fun a=>a.add (j * size)))) (hu:P.underlying t=some d) (hd:jF d=true) (hn:jW P t=some size) (hl:vs.length=size) (hv:∀ i u,vs[i]?=some u→xs[j * size+i]?=some u) :
   Ex P N f ds o w (.agg vs.toArray) w:=by
 obtain ⟨a,rfl,hc⟩:=hr.2.2 (by omega)
 exact uH (p:=a.add (j * size)) ho hx (Fp hu hd hn hl (fun i u hu=>by rw [qz]; exact hc _ u (hv i u hu)))
theorem wT {t size n c:Nat} {d:TypeDesc} {x:Operand} {p:Option Addr} {xs:List Value} {v:Value} (j:Nat) (hr:bz w p n c size xs) (hj:j<n) (ho:o.op=.load t x) (hx:cy f x=some (.pointer (p.map fun a=>a.add (j * size)))) (hu:P.underlying t=some d) (hd:jF d=false) (hv:xs[j * size]?=some v) :
   Ex P N f ds o w v w:=by
 obtain ⟨a,rfl,hc⟩:=hr.2.2 (by omega)
 exact uH (p:=a.add (j * size)) ho hx (dp hu hd (hc _ v hv))
def kA (p:Option Addr) (l c size:Nat):Option Addr:=if c=l then p else p.map (·.add (l * size))
theorem vd {t e size n c:Nat} {x y:Operand} {k:IntKind} {i:Int} {p:Option Addr} (l:Nat) (ho:o.op=.slice t x (some y) none none) (hx:cy f x=some (.slice p n c)) (hy:cy f y=some (.int k i)) (hu:P.underlying t=some (.slice e)) (hz:jW P e=some size) (hb:i=(l:Int)∧l≤n) :
   Ex P N f ds o w (.slice (kA p l c size) (n - l) (c - l)) w:=
 fH (x:=Instr.sliceAt t (.slice p n c) (some (.int k i)) none none) (fun a ha=>by unfold execOp; simp only [ho,ha.eval hx,ha.eval hy,Option.map_some,Option.map_none]) (by
   obtain ⟨rfl,hl⟩:=hb
   have he:P.elem t=e:=by unfold Program.elem; rw [hu]
   have hu':P.underlying t=some (.slice (P.elem t)):=by rw [he]; exact hu
   rw [run_sliceAt_slice (P:=P) w t _ _ _ _ hu',run_slice_l (P:=P) w t p n c hu' k (l:Int) (by omega) (by omega),he,iZ hz]
   simp only [Result.andThen_ok,sliced,kA,Int.toNat_natCast])
theorem nH {d t e size bytes n m c sc:Nat} {s x:Operand} {z:Value} {xs news:List Value} {p:Option Addr} {ad:Addr} (H:S w L) (k:Nat) (hw:Wt ops f o) (hd:o.dst=some d) (hN:Nat.blt d N=true)
   (ho:o.op=.call { callee:=.builtin .append,args:=#[s,x],argTypes:=#[t,t] }) (hs:cy f s=some (.slice p n sc)) (hx:cy f x=some (.slice (some ad) m c)) (hk:L[k]?=some (Rw e size p n sc xs))
   (ht:P.underlying t=some (.slice e)) (hi:kf P e=some (some z,size,bytes)) (hz:z.cells.size=size) (hsz:0<size) (H4:0<bytes) (hl:news.length=m * size) (hm:0<m) (hnews:∀ j u,news[j]?=some u→w.cell? (ad.add j)=some u) (h1:news.all (·.oneCell')=true)
   (hb:(n+m) * bytes≤140737488355328)
   (h:∀ p' c' w',S w' (L.set k (Rw e size p' (n+m) c' (xs++news)))→G N K ((d,.slice p' (n+m) c') :: f) ds w'):G N (bH P ops Q o K) f ds w:=by
 obtain ⟨i,hi1,hi2,hi3,hi4⟩:=zU hi
 have H2:n+m≤maxLen:=by
   have:n+m≤(n+m) * bytes:=Nat.le_mul_of_pos_right _ H4
   unfold maxLen; omega
 obtain ⟨k1,k2,k3,k4⟩:=H.rw hk
 have hlen:(xs++news).length=(n+m) * size:=by rw [List.length_append,k1,hl,Nat.add_mul]
 have fin:∀ v' w',(Builtin.append_ #[t,t] o.type #[.slice p n sc,.slice (some ad) m c]).run P w=.ok v' w'→w'.ownsRow w.heap.size e size v' (n+m) (xs++news)→w.grownBy w' none→w.drawn≤w'.drawn→G N (bH P ops Q o K) f ds w:=fun v' w' hr hown hg hdr=>by
   rcases hown.2 with ⟨_,h0⟩ | ⟨g,cap,cur,rfl,hge,hgg,hle,hmx,hcs,htk⟩
   · omega
   · have hS:S w' (L.set k (Rw e size (some ⟨g,0,none⟩) (n+m) cap (xs++news))):=by
       refine H.turn hk ⟨hg.os,hg.tape,hg.output,hg.size,fun b hb=>hg.block b hb.1 (by simp),hdr⟩ ⟨hlen,hle,hmx,.inr ⟨g,0,cur,rfl,hgg,by omega,fun j u hu=>?_⟩⟩ (fun b hb=>?_)
       · rw [Nat.zero_add,← Array.getElem?_toList]
         rw [← htk,List.getElem?_take] at hu
         split at hu
         · exact hu
         cases hu
       · obtain ⟨q,hq⟩:=hb; cases hq
         exact ⟨.inr hge,(Array.getElem?_eq_some_iff.1 hgg).1⟩
     exact aJ hw hd hN (fW (vs:=[.slice p n sc,.slice (some ad) m c]) ho (by simp only [Array.toList,rj,hs,hx]) (fun cs=>by
       simp only [builtin,Sem.run_bind,hr,Result.andThen_ok,Sem.run_pure])) (h _ _ w' hS)
 rcases k4 with ⟨rfl,rfl,rfl⟩ | ⟨g,off,cur,rfl,hg,hcs,hc⟩
 · have H3:xs=[]:=List.eq_nil_of_length_eq_zero (by rw [k1,Nat.zero_mul])
   subst H3
   obtain ⟨v',w',hr,hown,hgw,_,hv⟩:=run_append_own_at (P:=P) w w.heap.size t o.type e i z size bytes ht hi1 hi2 hi3 hi4 hz hsz _ 0 [] (World.ownsRow_nil w w.heap.size e size) ad m c news hl hnews (List.all_eq_true.1 h1) H2 hb (Nat.le_refl _)
   exact fin v' w' hr hown hgw (O1 w.heap.size ht hi1 hi2 hi3 hi4 (World.ownsRow_nil w w.heap.size e size) hl hnews (List.all_eq_true.1 h1) H2 hb hr)
 by_cases hroom:n+m≤sc
 · have hfit:off+n * size+news.length≤cur.size:=by
     have:n * size+m * size≤sc * size:=by rw [← Nat.add_mul]; exact Nat.mul_le_mul_right _ hroom
     rw [hl]; omega
   have hcell:∀ j,j<news.length→(w.cell? ⟨g,off+n * i.size+j,none⟩).isSome=true:=fun j hj=>by
     rw [hi3,cell_of_row w g _ cur e (0,0) hg,Array.getElem?_eq_getElem (by omega)]; rfl
   have hfz:∀ j,j<news.length→w.frozen? ⟨g,off+n * i.size+j,none⟩=false:=fun j hj=>by
     simp [World.frozen?,hg]
   have hr:=run_append_room_cells (P:=P) w t o.type e i ht hi1 g off n sc ad m c news (by rw [hi3]; exact hl) hnews (List.all_eq_true.1 h1) hroom hcell hfz
   rw [hi3] at hr
   obtain ⟨cur',q1,q2,q3,q4⟩:=r5 g news (off+n * size) w cur hg hfit
   have hsame:=rY g news (off+n * size) w
   have hS:S (w.setCells g (off+n * size) news) (L.set k (Rw e size (some ⟨g,off,none⟩) (n+m) sc (xs++news))):=by
     refine H.turn hk (hsame.less fun b hb he=>hb.2 ⟨off,by rw [he]⟩) ⟨hlen,hroom,k3,.inr ⟨g,off,cur',rfl,q1,by rw [q2]; exact hcs,fun j u hu=>?_⟩⟩ (fun b hb=>⟨.inl hb,?_⟩)
     · rw [List.getElem?_append] at hu
       split at hu
       · rename_i hj
         rw [q3 _ (by rw [k1] at hj; omega)]; exact hc j u hu
       rename_i hj
       have hj2:=(List.getElem?_eq_some_iff.1 hu).1
       have:=q4 (j - xs.length) hj2
       rw [show off+n * size+(j - xs.length)=off+j from by rw [k1] at hj ⊢; omega] at this
       rw [this]; exact hu
     · exact Nat.lt_of_lt_of_le (H.lt hk hb) hsame.size
   exact aJ hw hd hN (fW (vs:=[.slice (some ⟨g,off,none⟩) n sc,.slice (some ad) m c]) ho (by simp only [Array.toList,rj,hs,hx]) (fun cs=>by
     simp only [builtin,Sem.run_bind,hr,Result.andThen_ok,Sem.run_pure])) (h _ _ _ hS)
 have hold:∀ j u,xs[j]?=some u→w.cell? ((⟨g,off,none⟩:Addr).add j)=some u:=fun j u hu=>by rw [iL,cell_of_row w g _ cur e (0,0) hg]; exact hc j u hu
 obtain ⟨v',w',hr,hown,hgw⟩:=run_append_arg_grows (P:=P) w t o.type e i z size bytes ht hi1 hi2 hi3 hi4 hz hsz ⟨g,off,none⟩ n sc xs k1 hold ad m c news hl hnews (by omega) H2 hb
 exact fin v' w' hr hown hgw (BE ht hi1 hi2 hi3 hi4 k1 hold hl hnews (by omega) H2 hb hr)
end
def aT (L:List aD):Nat→Prop:=fun g=>∃ it∈L,it.fp g
def Au (ks:List Nat) (L:List aD):List aD:=ks.filterMap (fun k=>L[k]?)
theorem S.beginI {w:World} {L:List aD} (h:S w L):S w (L++[aB w (aT L)]):=by
 refine ⟨fun it hit=>?_,List.pairwise_append.2 ⟨h.2,List.pairwise_singleton _ _,fun a ha b hb g hg hg'=>?_⟩⟩
 · rcases List.mem_append.1 hit with hit | hit
   · exact h.1 it hit
   rw [List.mem_singleton] at hit; subst hit
   exact ⟨iY.rfl',fun g hg=>hg.1⟩
 rw [List.mem_singleton] at hb; subst hb
 exact hg'.2 ⟨a,ha,hg⟩
theorem S.takes {w:World} {L:List aD} (h:S w L) (ks:List Nat) (hn:ks.Nodup):S w (Au ks L):=by
 refine ⟨fun it hit=>?_,?_⟩
 · obtain ⟨k,_,hk⟩:=List.mem_filterMap.1 hit
   exact h.1 it (List.mem_of_getElem? hk)
 unfold Au
 rw [List.pairwise_filterMap]
 refine hn.imp fun {i j} hij a ha b hb g hg=>ua h.2 ha hb hij g hg
theorem S.absorbI {w w1:World} {L new:List aD} (h:S w L) (ks:List Nat) (h1:S w1 (new++[aB w (aT (Au ks L))])):S w1 (new++jZ ks 0 L):=
 h.absorbK ks (fun g hg=>by
   obtain ⟨it,hit,hf⟩:=hg
   obtain ⟨k,hk,hL⟩:=List.mem_filterMap.1 hit
   exact ⟨k,List.contains_iff_mem.2 hk,it,hL,hf⟩) h1
section
variable {P:Program} {N:Nat} {ops:Array Oper} {Q:Exit→Act→World→Prop} {md:Region.Mode} {C S':World→Prop} {T:List Nat} {f:Fr} {ds:List Deferred} {w:World} {listed:Array Bool} {fuel:Nat} {K:Act→World→Prop}
def DI (md:Region.Mode) (i:Nat):List Oper→List Bool→List Bool
 | [],acc=>acc
 | o :: r,acc=>DI md i r (acc++[o.after.any fun e=>Region.binds md e && (Nat.beq e.on i || acc.getD e.on false)])
def sQ (md:Region.Mode) (ops:Array Oper) (listed:Array Bool):Prop:=∀ j oj,ops[j]?=some oj→listed.getD j true=true→∀ e∈oj.after,Region.binds md e=true→listed.getD e.on false=true
def jR (md:Region.Mode) (ops:Array Oper) (listed:Array Bool):Bool:=
 (List.range ops.size).all fun j=>match ops[j]? with | some oj=>!listed.getD j true || oj.after.all (fun e=>!Region.binds md e || listed.getD e.on false) | none=>true
theorem lh (h:jR md ops listed=true):sQ md ops listed:=fun j oj hj hl e he hb=>by
 have h1:=List.all_eq_true.1 h j (List.mem_range.2 (Array.getElem?_eq_some_iff.1 hj).1)
 simp only [hj,hl,Bool.not_true,Bool.false_or] at h1
 have h2:=Array.all_eq_true'.1 h1 e he
 simpa [hb] using h2
theorem tu (listed:Array Bool) (j:Nat):(listed.setIfInBounds j true).getD j true=true:=by
 by_cases h:j<listed.size
 · simp [h]
 · simp [h]
theorem sQ.set {j:Nat} (h:sQ md ops listed) (hj:j∈Region.ready md ops listed):sQ md ops (listed.setIfInBounds j true):=fun k ok hk hl e he hb=>by
 refine getD_set_true ?_
 by_cases hkj:j=k
 · subst hkj
   obtain ⟨_,oj,hoj,hall⟩:=mem_ready.1 hj
   rw [hoj] at hk; cases hk
   exact hall e he hb
 rw [getD_set_ne true hkj] at hl
 exact h k ok hk hl e he hb
theorem yh {i:Nat} (hcl:sQ md ops listed) (hi:listed.getD i false=false):∀ (l:List Oper) (acc:List Bool),(∀ j,l[j]?=ops[acc.length+j]?)→(∀ j,acc.getD j false=true→listed.getD j true=false) →
   ∀ j,(DI md i l acc).getD j false=true→listed.getD j true=false
 | [],acc,_,ha=>ha
 | o :: r,acc,hl,ha=>by
   unfold DI
   refine yh hcl hi r _ (fun j=>?_) (fun j hj=>?_)
   · have:=hl (j+1)
     rw [List.getElem?_cons_succ] at this
     rw [this,List.length_append,List.length_singleton]
     congr 1; omega
   by_cases h1:j<acc.length
   · refine ha j ?_
     rw [List.getD_eq_getElem?_getD,List.getElem?_append_left h1] at hj
     rw [List.getD_eq_getElem?_getD]; exact hj
   by_cases h2:j=acc.length
   · subst h2
     have h0:ops[acc.length]?=some o:=by have:=hl 0; simpa using this.symm
     rw [List.getD_eq_getElem?_getD,List.getElem?_append_right (Nat.le_refl _),Nat.sub_self] at hj
     simp only [List.getElem?_cons_zero,Option.getD_some] at hj
     cases hq:listed.getD acc.length true with
     | false=>rfl
     | true =>
       obtain ⟨e,he,hb⟩:=Array.any_eq_true'.1 hj
       simp only [Bool.and_eq_true,Bool.or_eq_true] at hb
       have h3:=hcl _ o h0 hq e he hb.1
       rcases hb.2 with h4 | h4
       · rw [Nat.eq_of_beq_eq_true h4] at h3
         rw [h3] at hi; cases hi
       have h5:=ha _ h4
       have h6:listed.getD e.on true=true:=by
         rw [Array.getD_eq_getD_getElem?] at h3 ⊢
         cases hx:listed[e.on]? with
         | none=>rw [hx] at h3; cases h3
         | some b=>rw [hx] at h3; exact h3
       rw [h6] at h5; cases h5
   rw [List.getD_eq_getElem?_getD,List.getElem?_eq_none (by simp; omega)] at hj
   cases hj
def wt (md:Region.Mode) (ops:Array Oper) (T:List Nat) (i:Nat):Bool:=let d:=DI md i ops.toList []; T.all fun j=>d.getD j false
def db (P:Program) (md:Region.Mode) (ops:Array Oper) (Q:Exit→Act→World→Prop) (C C0:World→Prop) (T:List Nat):Nat→Array Bool→Act→World→Prop
 | 0,listed,a,w=>Region.ready md ops listed=[]∧Q .normal a w
 | fuel+1,listed,a,w =>
   (Region.ready md ops listed=[]→Q .normal a w) ∧
   ∀ i∈Region.ready md ops listed,wpOp P ops Q i (fun a' w'=>((T.contains i=false→C w→C w')∧(C0 w→C0 w'))∧db P md ops Q C C0 T fuel (listed.setIfInBounds i true) a' w') a w
theorem sU {C0:World→Prop}:∀ (fuel:Nat) (listed:Array Bool) (a:Act) (w:World),db P md ops Q C C0 T fuel listed a w→wpAny P md ops Q fuel listed a w
 | 0,_,_,_,h=>h
 | fuel+1,_,_,_,h=>⟨h.1,fun i hi=>wpOp_mono (fun a' w' h'=>sU fuel _ a' w' h'.2) (h.2 i hi)⟩
theorem lg {C0:World→Prop} {i:Nat} {oi:Oper} {v:Value} (hi:ops[i]?=some oi) (hsel:∀ (j:Nat) (o:Oper) cs b,ops[j]?=some o→o.op ≠ .select cs b)
   (hQ:∀ c a w,Q (.panic c) (a.put oi.dst v) w→Q (.panic c) a w) (hT:(S'=C∧wt md ops T i=true)∨S'=C0∨∀ w,S' w) :
   ∀ (fuel:Nat) (listed:Array Bool) (a:Act) (w:World),sQ md ops listed →
     (∀ j oj,ops[j]?=some oj→j ≠ i→listed.getD j true=false→(∀ e∈oj.after,Region.binds md e=true→e.on ≠ i)→oi.apart ops oj=true) →
     i∈Region.ready md ops listed→YieldsIf P ops S' oi v a→S' w →
     db P md ops Q C C0 T fuel (listed.setIfInBounds i true) (a.put oi.dst v) w→db P md ops Q C C0 T (fuel+1) listed a w:=by
 intro fuel
 induction fuel with
 | zero =>
   intro listed a w hcl _ hr hy hS H
   refine ⟨fun h=>(by rw [h] at hr; cases hr),fun j hj=>?_⟩
   by_cases hji:j=i
   · subst hji; exact hy.wpOp hi hS ⟨⟨fun _ h=>h,fun h=>h⟩,H⟩
   · have:=ready_mono hj hji
     rw [H.1] at this
     cases this
 | succ fuel ih =>
   intro listed a w hcl hfree hr hy hS H
   refine ⟨fun h=>(by rw [h] at hr; cases hr),fun j hj=>?_⟩
   by_cases hji:j=i
   · subst hji; exact hy.wpOp hi hS ⟨⟨fun _ h=>h,fun h=>h⟩,H⟩
   have h1:=H.2 j (ready_mono hj hji)
   obtain ⟨hjun,oj,hoj,hall⟩:=mem_ready.1 hj
   have hi0:listed.getD i false=false:=by
     have h0:=(mem_ready.1 hr).1
     rw [Array.getD_eq_getD_getElem?] at h0 ⊢
     cases hx:listed[i]? with
     | none=>rfl
     | some b=>rw [hx] at h0; exact h0
   have hnot:∀ e∈oj.after,Region.binds md e=true→e.on ≠ i:=fun e he hb heq=>by
     have h1:=hall e he hb
     rw [heq,hi0] at h1; cases h1
   have hTj:wt md ops T i=true→T.contains j=false:=fun hT=>by
     cases hc:T.contains j with
     | false=>rfl
     | true =>
       have hd:=List.all_eq_true.1 hT j (by simpa using hc)
       have hcl2:sQ md ops (listed.setIfInBounds j true):=hcl.set hj
       have hi2:(listed.setIfInBounds j true).getD i false=false:=by rw [getD_set_ne false hji]; exact hi0
       have:=yh hcl2 hi2 ops.toList [] (fun k=>by simp) (fun k hk=>by simp at hk) j hd
       rw [tu] at this; cases this
   have h2:=wpOp_putIf hoj (hfree j oj hoj hji hjun hnot) (fun cs b=>hsel i oi cs b hi) (fun cs b=>hsel j oj cs b hoj) hQ hy h1
   have hfree':∀ k ok,ops[k]?=some ok→k ≠ i→(listed.setIfInBounds j true).getD k true=false →
       (∀ e∈ok.after,Region.binds md e=true→e.on ≠ i)→oi.apart ops ok=true:=fun k ok hk hki hun hno=>by
     refine hfree k ok hk hki ?_ hno
     by_cases hjk:j=k
     · subst hjk; exact hjun
     · rw [getD_set_ne true hjk] at hun; exact hun
   refine wpOp_mono (fun a' w' h3=>⟨h3.2.1,ih (listed.setIfInBounds j true) a' w' (hcl.set hj) hfree' (ready_mono hr (Ne.symm hji)) h3.1 ?_ ?_⟩) h2
   · rcases hT with ⟨rfl,hT⟩ | rfl | hT
     · exact h3.2.1.1 (hTj hT) hS
     · exact h3.2.1.2 hS
     exact hT w'
   rw [Array.setIfInBounds_comm _ _ hji]
   exact h3.2.2
theorem uG {C0:World→Prop} {f0:Fr} {d:Nat} {o:Oper} {v:Value} (i:Nat) (hi:ops[i]?=some o) (hw:Wt ops f o) (hd:o.dst=some d) (hN:Nat.blt d N=true) (h0:gt f0 d=none) (hs:Region.noSelect ops=true) (hf:Region.free md ops listed i=true) (hr:(Region.ready md ops listed).contains i=true)
   (hT:wt md ops T i=true) (hcl:jR md ops listed=true) (hC:C w) (hx:∀ w,C w→Ex P N f ds o w v w)
   (h:G N (db P md ops (cR N f0 ds Q) C C0 T fuel (listed.setIfInBounds i true)) ((d,v) :: f) ds w):G N (db P md ops (cR N f0 ds Q) C C0 T (fuel+1) listed) f ds w:=fun a ha =>
 lg hi (Region.noSelect_spec hs) (fun c a w h=>⟨oH h0 (by rw [← hd]; exact h.1),h.2⟩) (.inl ⟨rfl,hT⟩) fuel listed a w (lh hcl) (Region.free_spec hi hf) (by simpa using hr) (nU ha hw hx) hC
   (by rw [hd]; exact h _ (ha.put d hN v))
theorem JD {C0:World→Prop} {f0:Fr} {d:Nat} {o:Oper} {v:Value} (i:Nat) (hi:ops[i]?=some o) (hw:Wt ops f o) (hd:o.dst=some d) (hN:Nat.blt d N=true) (h0:gt f0 d=none) (hs:Region.noSelect ops=true) (hf:Region.free md ops listed i=true) (hr:(Region.ready md ops listed).contains i=true)
   (hcl:jR md ops listed=true) (hC:C0 w) (hx:∀ w,C0 w→Ex P N f ds o w v w)
   (h:G N (db P md ops (cR N f0 ds Q) C C0 T fuel (listed.setIfInBounds i true)) ((d,v) :: f) ds w):G N (db P md ops (cR N f0 ds Q) C C0 T (fuel+1) listed) f ds w:=fun a ha =>
 lg hi (Region.noSelect_spec hs) (fun c a w h=>⟨oH h0 (by rw [← hd]; exact h.1),h.2⟩) (.inr (.inl rfl)) fuel listed a w (lh hcl) (Region.free_spec hi hf) (by simpa using hr) (nU ha hw hx) hC
   (by rw [hd]; exact h _ (ha.put d hN v))
theorem jI {C0:World→Prop} {f0:Fr} {d:Nat} {o:Oper} {v:Value} (i:Nat) (hi:ops[i]?=some o) (hw:Wt ops f o) (hd:o.dst=some d) (hN:Nat.blt d N=true) (h0:gt f0 d=none) (hs:Region.noSelect ops=true) (hf:Region.free md ops listed i=true) (hr:(Region.ready md ops listed).contains i=true)
   (hcl:jR md ops listed=true) (hx:∀ w,Ex P N f ds o w v w)
   (h:G N (db P md ops (cR N f0 ds Q) C C0 T fuel (listed.setIfInBounds i true)) ((d,v) :: f) ds w):G N (db P md ops (cR N f0 ds Q) C C0 T (fuel+1) listed) f ds w:=fun a ha =>
 lg (S':=fun _=>True) hi (Region.noSelect_spec hs) (fun c a w h=>⟨oH h0 (by rw [← hd]; exact h.1),h.2⟩) (.inr (.inr fun _=>trivial)) fuel listed a w (lh hcl) (Region.free_spec hi hf) (by simpa using hr) (nU ha hw fun w _=>hx w) trivial
   (by rw [hd]; exact h _ (ha.put d hN v))
theorem iV {C0:World→Prop} {f0:Fr} {d:Nat} {o:Oper} (i:Nat) (hi:ops[i]?=some o) (hw:Wn ops f o) (hd:o.dst=some d) (hN:Nat.blt d N=true) (h0:gt f0 d=none) (hs:Region.noSelect ops=true) (hf:Region.free md ops listed i=true) (hr:(Region.ready md ops listed).contains i=true)
   (hcl:jR md ops listed=true)
   (h:G N (db P md ops (cR N f0 ds Q) C C0 T fuel (listed.setIfInBounds i true)) ((d,undef) :: f) ds w):G N (db P md ops (cR N f0 ds Q) C C0 T (fuel+1) listed) f ds w:=fun a ha =>
 lg (S':=fun _=>True) hi (Region.noSelect_spec hs) (fun c a w h=>⟨oH h0 (by rw [← hd]; exact h.1),h.2⟩) (.inr (.inr fun _=>trivial)) fuel listed a w (lh hcl) (Region.free_spec hi hf) (by simpa using hr) (yT ha hw) trivial
   (by rw [hd]; exact h _ (ha.put d hN _))
def YK (P:Program) (md:Region.Mode) (ops:Array Oper) (Q:Exit→Act→World→Prop) (C C0:World→Prop) (T:List Nat) (fuel:Nat) (listed:Array Bool) (i:Nat) (w0:World):Act→World→Prop:=
 fun a' w'=>((T.contains i=false→C w0→C w')∧(C0 w0→C0 w'))∧db P md ops Q C C0 T fuel (listed.setIfInBounds i true) a' w'
theorem Ca {C0:World→Prop} {i:Nat} {w0:World} (hC:C w) (hC0:C0 w) (h:G N (db P md ops Q C C0 T fuel (listed.setIfInBounds i true)) f ds w):G N (YK P md ops Q C C0 T fuel listed i w0) f ds w:=fun a ha=>⟨⟨fun _ _=>hC,fun _=>hC0⟩,h a ha⟩
theorem sj {C0:World→Prop} {i:Nat} {w0:World} (hT:T.contains i=true) (hC0:C0 w) (h:G N (db P md ops Q C C0 T fuel (listed.setIfInBounds i true)) f ds w):G N (YK P md ops Q C C0 T fuel listed i w0) f ds w:=fun a ha=>⟨⟨fun h0=>absurd (hT.symm.trans h0) (by decide),fun _=>hC0⟩,h a ha⟩
theorem Qa {C0:World→Prop} {i:Nat} {o:Oper} (hr:Region.ready md ops listed=[i]) (hi:ops[i]?=some o) (h:G N (bH P ops Q o (YK P md ops Q C C0 T fuel listed i w)) f ds w):G N (db P md ops Q C C0 T (fuel+1) listed) f ds w:=fun a ha =>
 ⟨fun h0=>absurd (hr.symm.trans h0) (by simp),fun j hj=>by
   rw [hr,List.mem_singleton] at hj
   subst hj
   exact vW hi h a ha⟩
theorem MX {C0:World→Prop} {f0:Fr} (hr:Region.ready md ops listed=[]) (h:G N (Q .normal) f ds w):G N (db P md ops (cR N f0 ds Q) C C0 T fuel listed) f ds w:=fun a ha=>by
 cases fuel with
 | zero=>exact ⟨hr,h a ha⟩
 | succ n=>exact ⟨fun _=>h a ha,by rw [hr]; simp⟩
theorem g_anyY {id:Nat} {l:List Oper} {L:List aD} (f0:Fr) (C C0:World→Prop) (T:List Nat) (hm:P.follows .mixedOrders=true) (H:S w L) (h:∀ w,S w L→G N (db P .any l.toArray (cR N f0 ds Q) C C0 T l.length (Array.replicate l.length false)) f ds w):G N ((Code.region id l.toArray true).wp P Q) f ds w:=fun a ha=>by
 refine wp_mono (Q:=cR N f0 ds Q) (wp_region_any hm (sU (C:=C) (C0:=C0) (T:=T) _ _ _ _ ?_)) (fun e a w h=>by cases e <;> first | exact h | exact h.2 _ h.1)
 have:=h _ (H.drawn (w.drawn+1) (Nat.le_succ _)) a ha
 simpa using this
end
abbrev WF (r:Option Nat):Fence:={ Fence.wide with round:=r }
theorem QU {r:Option Nat} {n:Nat} {P:Program} {g:FuncId} {args:Array Value} {w:World} {R:Ending→World→Prop} (h:Calls P g args w R):CallsIn (WF r) n P g args w R:=(callsIn_wide (n:=n)).2 h
theorem Qu {r:Option Nat} {n:Nat} {P:Program} {g:FuncId} {args:Array Value} {w:World} {R:Ending→World→Prop} (h:CallsIn (WF r) n P g args w R):Calls P g args w R:=(callsIn_wide (n:=n)).1 h
theorem Ql {r:Option Nat} {n:Nat} {P:Program} {row:String} {args:Array Value} {w:World} {R:Value→World→Prop} (h:Rows P row args w R):RowsIn (WF r) n P row args w R:=fun c cs _=>by
 obtain ⟨v,w',h1,h2⟩:=h c cs
 exact ⟨v,w',h1,stepsIn_wide.2 h2⟩
def iP (o:Oper):Bool:=match o.op with | .defer _=>true | _=>false
theorem uD {o:Oper} (h:iP o=false):∀ c,o.op ≠ .defer c:=fun c e=>by
 unfold iP at h; rw [e] at h; cases h
theorem vB {r:Option Nat} {n:Nat} {P:Program} {o:Oper} {a:Act} {w:World} {K:Act→World→Prop} {Q:Exit→Act→World→Prop} (hd:iP o=false) (h:o.wp P a w K Q):o.wpIn (WF r) n P a w K Q:=by
 refine ⟨fun _ _=>trivial,?_⟩
 rw [Oper.semAt_eq _ _ _ (uD hd)]
 unfold Oper.wp at h
 generalize (execOp a.eval o).run P w=res at h ⊢
 cases res with
 | ok x w' =>
   cases x with
   | value v=>exact h
   | skip=>exact h
   | defer d=>exact h
   | enter f args=>exact ⟨(fun h0=>by cases h0),QU h⟩
   | row s args=>exact ⟨(fun h0=>by cases h0),Ql h⟩
   | _=>exact h.elim
 | halt x w' =>
   cases x with
   | panic v=>exact h
   | _=>exact h.elim
section
variable {P:Program} {N:Nat} {Q:Exit→Act→World→Prop} {f:Fr} {ds:List Deferred} {w:World} {r:Option Nat} {n:Nat} {ops:Array Oper} {rest:List Oper} {o:Oper} {L:List aD}
namespace R
theorem g_seq {x y:Code} (h:G N (x.wpIn (WF r) n P (Exit.then (y.wpIn (WF r) n P Q) Q)) f ds w):G N ((Code.seq x y).wpIn (WF r) n P Q) f ds w:=fun a ha=>wpIn_seq (h a ha)
theorem g_skip (h:G N (Q .normal) f ds w):G N (Code.skip.wpIn (WF r) n P Q) f ds w:=fun a ha=>wpIn_skip (h a ha)
theorem g_block {i:Nat} {c:Code} (h:G N (c.wpIn (WF r) n P (Exit.inBlock i Q)) f ds w):G N ((Code.block i c).wpIn (WF r) n P Q) f ds w:=fun a ha=>wpIn_block (h a ha)
theorem g_exit {i:Nat} (h:G N (Q (.exit i)) f ds w):G N ((Code.exit i).wpIn (WF r) n P Q) f ds w:=fun a ha=>wpIn_exit (h a ha)
theorem g_ret (h:G N (Q .ret) f ds w):G N (Code.ret.wpIn (WF r) n P Q) f ds w:=fun a ha=>wpIn_ret (h a ha)
theorem Er {l:Nat} (h:G N (Q .normal) f ds w):G N ((Code.label l).wpIn (WF r) n P Q) f ds w:=fun a ha=>wpIn_label (h a ha)
theorem g_cond_t {c:Operand} {x y:Code} {b:Bool} (hc:cy f c=some (.bool b)) (hb:b=true) (ht:G N (x.wpIn (WF r) n P Q) f ds w):G N ((Code.cond c x y).wpIn (WF r) n P Q) f ds w:=
 fun a ha=>wpIn_cond_true (by rw [ha.eval hc,hb]) (ht a ha)
theorem g_cond_f {c:Operand} {x y:Code} {b:Bool} (hc:cy f c=some (.bool b)) (hb:b=false) (ht:G N (y.wpIn (WF r) n P Q) f ds w):G N ((Code.cond c x y).wpIn (WF r) n P Q) f ds w:=
 fun a ha=>wpIn_cond_false (by rw [ha.eval hc,hb]) (ht a ha)
theorem loop_ix {ι:Type} {c:Code} {a:Act} (I:ι→Act→World→Prop) (μ:ι→Nat) (i0:ι) (h0:I i0 a w)
   (round:∀ i a w,I i a w→c.wpIn (WF r) n P (Exit.then (fun a' w'=>∃ j,I j a' w'∧μ j<μ i) Q) a w):(Code.loop c).wpIn (WF r) n P Q a w:=by
 intro b k cs hro hb hr
 have key:∀ m i a w,μ i=m→I i a w →
     ∃ e a' w',Q e a' w'∧ArrivesIn (Machine.fenced P (WF r)) P (lone (b.atR a (.code c :: .inLoop c :: k)) cs w) b k cs e a' w':=by
   intro m
   induction m using Nat.strongRecOn with
   | _ m ih =>
     intro i a w hn hI
     obtain ⟨e,a₁,w₁,hq,harr⟩:=round i a w hI b (.inLoop c :: k) cs hro hb hr
     cases e with
     | normal =>
       obtain ⟨j,hI₁,hlt⟩:=hq
       obtain ⟨e₂,a₂,w₂,hq₂,harr₂⟩:=ih (μ j) (hn ▸ hlt) j a₁ w₁ rfl hI₁
       exact ⟨e₂,a₂,w₂,hq₂,.of_steps (StepsIn.trans harr (.one (fenced_calm hb hr rfl) stepR_inLoop)) harr₂⟩
     | exit id=>exact ⟨_,a₁,w₁,hq,.pass (x:=.inLoop c) rfl (fun _ _=>.inl (by simp)) harr⟩
     | goto l=>exact ⟨_,a₁,w₁,hq,.pass (x:=.inLoop c) rfl (fun _ _=>.inl (by simp)) harr⟩
     | ret=>exact ⟨_,a₁,w₁,hq,.pass (x:=.inLoop c) rfl (fun _ _=>.inl (by simp)) harr⟩
     | panic ch=>exact ⟨_,a₁,w₁,hq,.pass (x:=.inLoop c) rfl (fun _ _=>.inl (by simp)) harr⟩
     | outgrown=>exact ⟨_,a₁,w₁,hq,.pass (x:=.inLoop c) rfl (fun _ _=>.inl (by simp)) harr⟩
 obtain ⟨e,a',w',hq,harr⟩:=key _ i0 a w rfl h0
 exact ⟨e,a',w',hq,.of_steps (.one (fenced_calm hb hr rfl) stepR_loop) harr⟩
theorem g_loop {ι:Type} {c:Code} (F:ι→Fr) (I:ι→World→Prop) (μ:ι→Nat) (i0:ι) (hs:sub (F i0) f) (h0:I i0 w)
   (round:∀ i w,I i w→G N (c.wpIn (WF r) n P (Exit.then (fun a' w'=>∃ j,(jX N a' (F j) ds∧I j w')∧μ j<μ i) Q)) (F i) ds w):G N ((Code.loop c).wpIn (WF r) n P Q) f ds w:=fun a ha =>
 loop_ix (fun i a w=>jX N a (F i) ds∧I i w) μ i0 ⟨ha.weak hs,h0⟩ (fun i a w ⟨h1,h2⟩=>round i w h2 a h1)
theorem g_cut {ι:Type} {c:Code} {K:Act→World→Prop} (F:ι→Fr) (I:ι→World→Prop)
   (hc:G N (c.wpIn (WF r) n P (Exit.then (fun a' w'=>∃ j,jX N a' (F j) ds∧I j w') Q)) f ds w) (hk:∀ i w,I i w→G N K (F i) ds w):G N (c.wpIn (WF r) n P (Exit.then K Q)) f ds w:=fun a ha =>
 wpIn_mono (hc a ha) fun e a' w' h=>by
   cases e with
   | normal=>obtain ⟨j,h1,h2⟩:=h; exact hk j w' h2 a' h1
   | _=>exact h
theorem g_region {id:Nat} {l:List Oper} (h:G N (wpListIn (WF r) n P l.toArray Q l) f ds w):G N ((Code.region id l.toArray false).wpIn (WF r) n P Q) f ds w:=fun a ha=>wpIn_region_lit (h a ha)
theorem g_nil (h:G N (Q .normal) f ds w):G N (wpListIn (WF r) n P ops Q []) f ds w:=fun a ha=>h a ha
theorem l_of (hd:iP o=false) (hL:¬ LetsOut Q) (h:G N (bH P ops Q o (wpListIn (WF r) n P ops Q rest)) f ds w):G N (wpListIn (WF r) n P ops Q (o :: rest)) f ds w:=fun a ha=>by
 have h1:=h a ha
 unfold bH at h1
 unfold wpListIn
 split
 · rename_i hw
   rw [if_pos hw] at h1
   rcases h1 with h1 | ⟨_,h1⟩
   · exact vB hd h1
   · exact absurd h1 hL
 · rename_i hw
   rw [if_neg hw] at h1
   exact ⟨fun _ _=>trivial,h1⟩
theorem any_in {md:Region.Mode} (hd:∀ o∈ops,iP o=false) (hL:¬ LetsOut Q):∀ (fuel:Nat) (listed:Array Bool) (a:Act) (w:World),wpAny P md ops Q fuel listed a w→wpAnyIn (WF r) n P md ops Q fuel listed a w
 | 0,_,_,_,h=>h
 | fuel+1,listed,a,w,h=>by
   refine ⟨h.1,fun i hi=>?_⟩
   have h1:=h.2 i hi
   unfold wpOp at h1
   unfold wpOpIn
   cases ho:ops[i]? with
   | none=>rw [ho] at h1; exact any_in hd hL fuel _ _ _ h1
   | some o =>
     rw [ho] at h1
     simp only at h1 ⊢
     have hm:iP o=false:=hd o (Array.mem_of_getElem? ho)
     split
     · rename_i hw
       rw [if_pos hw] at h1
       rcases h1 with h1 | ⟨_,h1⟩
       · exact Oper.wpIn_mono (fun a w=>any_in hd hL fuel _ a w) (vB hm h1)
       exact absurd h1 hL
     rename_i hw
     rw [if_neg hw] at h1
     exact ⟨fun _ _=>trivial,any_in hd hL fuel _ _ _ h1⟩
def uc (l:List Oper):Bool:=l.all fun o=>!iP o
theorem g_anyY {id:Nat} {l:List Oper} {L:List aD} (f0:Fr) (C C0:World→Prop) (T:List Nat) (hm:P.follows .mixedOrders=true) (hd:uc l=true) (hL:¬ LetsOut Q) (H:S w L) (h:∀ w,S w L→G N (db P .any l.toArray (cR N f0 ds Q) C C0 T l.length (Array.replicate l.length false)) f ds w):G N ((Code.region id l.toArray true).wpIn (WF r) n P Q) f ds w:=fun a ha=>by
 refine wpIn_mono (Q:=cR N f0 ds Q) (wpIn_region_any hm (any_in (Q:=cR N f0 ds Q) (fun o ho=>?_) (fun hc=>hL hc) _ _ _ _ (sU (C:=C) (C0:=C0) (T:=T) _ _ _ _ ?_))) (fun e a w h=>by cases e <;> first | exact h | exact h.2 _ h.1)
 · have:=List.all_eq_true.1 hd o (by simpa using ho)
   simpa using this
 have:=h _ (H.drawn (w.drawn+1) (Nat.le_succ _)) a ha
 simpa using this
end R
theorem qJ {g:FuncId} {fn:Func} {c:Code} {args:Array Value} {R':Ending→World→Prop} (N:Nat) (hf:P.funcs[g]?=some fn) (hb:fn.body=some c) (hN:fn.ntmps=N) (hA:Nat.ble args.size N=true)
   (h:G N (c.wpIn (WF none) 9 P (bodyPostM (WF none) 9 P fn R')) (j6 0 args.toList) [] w):Calls P g args w R':=by
 refine Qu (r:=none) (n:=9) (callsIn_of_wp_marks hf hb trivial (h _ ⟨?_,fun t v ht=>?_,rfl⟩) rfl)
 · have:args.size≤N:=Nat.le_of_ble_eq_true hA
   simp [hN]; omega
 obtain ⟨_,h2⟩:=jv _ 0 t v ht
 have h3:args[t]?=some v:=by simpa using h2
 have h4:t<args.size:=(Array.getElem?_eq_some_iff.1 h3).1
 show (args++_)[t]?=_
 rw [Array.getElem?_append_left h4]; exact h3
end
def vX (D:Nat):Deferred:={ target:=.collected D,args:=#[] }
def PE:List Tmp→List Value→Fr→Fr
 | p :: ps,v :: vs,f=>PE ps vs ((p,v) :: f)
 | _,_,f=>f
theorem jX.putL {N:Nat}:∀ {ps:List Tmp} {vs:List Value} {a:Act} {f:Fr} {ds:List Deferred},jX N a f ds→(ps.all fun p=>Nat.blt p N)=true→ps.length=vs.length →
   jX N { tmps:=(ps.zip vs).foldl (fun t (p,v)=>t.setIfInBounds p v) a.tmps,defers:=a.defers } (PE ps vs f) ds
 | [],[],a,f,ds,h,_,_=>h
 | p :: ps,v :: vs,a,f,ds,h,hN,hl=>by
   simp only [List.all_cons,Bool.and_eq_true] at hN
   have:=jX.putL (ps:=ps) (vs:=vs) (h.put p hN.1 v) hN.2 (by simpa using hl)
   exact this
 | [],_ :: _,_,_,_,_,_,hl=>by cases hl
 | _ :: _,[],_,_,_,_,_,hl=>by cases hl
theorem jX.putA {N:Nat} {ps:Array Tmp} {vs:Array Value} {a:Act} {f:Fr} {ds:List Deferred} (h:jX N a f ds) (hN:(ps.toList.all fun p=>Nat.blt p N)=true) (hl:vs.size=ps.size) :
   jX N { tmps:=(ps.zip vs).foldl (fun t (p,v)=>t.setIfInBounds p v) a.tmps,defers:=[] } (PE ps.toList vs.toList f) []:=by
 have h0:jX N { tmps:=a.tmps,defers:=[] } f []:=⟨h.size,h.get,rfl⟩
 have:=h0.putL (ps:=ps.toList) (vs:=vs.toList) hN (by simp [hl])
 rw [← Array.foldl_toList,Array.toList_zip]; exact this
section
variable {P:Program} {N:Nat} {Q:Exit→Act→World→Prop} {f:Fr} {ds:List Deferred} {w:World} {n:Nat} {ops:Array Oper} {rest:List Oper} {o:Oper} {L:List aD}
theorem kq (w:World) (g:Nat) (o:Obj):iY (fun k=>k ≠ g) w (w.putObj g o):=⟨rfl,rfl,rfl,by simp,fun k hk=>World.putObj_heap_other hk,Nat.le_refl _⟩
theorem qu {fn:Func} {R:Ending→World→Prop} {D:Nat} (H:S w L) (k:Nat) (hk:L[k]?=some (Ob D (.deferred (some [])))) (rs:List ResultVar) (vs:List Value) (hr:fn.results=rs.toArray)
   (h:∀ w',S w' (L.set k (Ob D (.deferred none)))→pg P f w' rs vs∧R (.returned (dQ vs)) w'):G N (bodyPostM (WF none) n P fn R .ret) f [vX D] w:=fun a ha=>by
 show LeavesInM (WF none) n P fn a.tmps R a.defers .returning w
 rw [ha.defers]
 have hD:w.heap[D]?=some (.deferred (some [])):=H.ob hk
 have hlt:D<w.heap.size:=(Array.getElem?_eq_some_iff.1 hD).1
 have hS:=H.write hk (kq w D (.deferred none)) (World.putObj_heap_same hlt)
 obtain ⟨h1,h2⟩:=h _ hS
 exact ⟨by simp,.inl ⟨D,_,rfl,run_takeDeferred hD,_,jB ha hr h1,h2⟩⟩
theorem IR {g:FuncId} {fn:Func} {c:Code} {args:Array Value} {R':Ending→World→Prop} (N:Nat) (hf:P.funcs[g]?=some fn) (hb:fn.body=some c) (hN:fn.ntmps=N) (hA:Nat.ble args.size N=true)
   (h:G N (c.wpIn (WF none) n P (bodyPost P fn R')) (j6 0 args.toList) [] w):CallsIn (WF none) n P g args w R':=by
 refine callsIn_of_wp hf hb trivial (h _ ⟨?_,fun t v ht=>?_,rfl⟩) rfl
 · have:args.size≤N:=Nat.le_of_ble_eq_true hA
   simp [hN]; omega
 obtain ⟨_,h2⟩:=jv _ 0 t v ht
 have h3:args[t]?=some v:=by simpa using h2
 have h4:t<args.size:=(Array.getElem?_eq_some_iff.1 h3).1
 show (args++_)[t]?=_
 rw [Array.getElem?_append_left h4]; exact h3
end
end Go.Proofs.YthmmfhdpkddniaaGreatDoor
