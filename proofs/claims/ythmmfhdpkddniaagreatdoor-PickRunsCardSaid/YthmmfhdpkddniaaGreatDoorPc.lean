import Derived.Test.YthmmfhdpkddniaaGreatDoorPa
import Derived.Test.YthmmfhdpkddniaaGreatDoorDr
set_option linter.all false
namespace Go.Proofs.YthmmfhdpkddniaaGreatDoor
def eo (b:Bool):Int:=if b=true then 0 else 1
def PK.keys (A:PK) (p:fV):List (Int→Int):=
 [fun i=>eo (decide (0<A.du i)),A.du,fun i=>eo (A.partB i),fun i=>eo (aF p.sug i),fun i=>0 - A.lv i,fun i=>if A.ino=true then 0 else (A.countV i:Int),fun i=>if A.ino=true then 0 else o8 A.seed i,fun i=>i]
def PK.candB (A:PK) (p:fV) (i:Int):Bool:=A.openB i && aF p.fld i && (p.un || aF p.alw i)
def PK.candL (A:PK) (p:fV):List Int:=(jo A.n).filter (A.candB p)
def PK.cand (A:PK) (p:fV):List Int:=srt 0 (jn (A.keys p)) (A.candL p)
def PK.mostV (A:PK) (p:fV) (most:Int):Int:=if p.sn=true then min most (1 - ((bO A.asked p.k).length:Int)) else most
def PK.endB1 (A:PK) (k:Int) (t:Nat) (c:aV):Bool:=!decide (c∈A.here) && decide ((cn A.asked c).length=t) && !decide (k∈cn A.asked c)
def PK.endL (A:PK) (k:Int) (cand:List Int) (t:Nat):List aV:=cand.flatMap fun i=>(A.blocks i).filter (A.endB1 k t)
def PK.lookP (A:PK) (p:fV) (most:Int):List aV:=
 if A.endB=true then (A.endL p.k (A.cand p) 1++A.endL p.k (A.cand p) 2).take (A.mostV p most).toNat else ((A.cand p).flatMap A.freeL).take (A.mostV p most).toNat
def fD (ps:List fV) (k:Int):Option fV:=ps.find? fun p=>decide (p.k=k)
def PK.peE (A:PK) (k:Int):Int:=if k<1∨1000<k then 7 else if (fD A.peers k).isSome=true then 0 else 8
def PK.boE (A:PK) (k i:Int):Int:=if (k<1∨1000<k)∨(i<0∨(A.n:Int)≤i) then 7 else if (fD A.peers k).isSome=true then 0 else 8
def PK.upd (A:PK) (k:Int) (f:fV→fV):PK:={ A with peers:=A.peers.map fun p=>if p.k=k then f p else p }
def PK.joinE (A:PK) (k:Int):Int:=if k<1∨1000<k then 7 else if (fD A.peers k).isSome=true then 6 else if 100≤A.peers.length then 4 else 0
def PK.joinA (A:PK) (k:Int):PK:=if A.joinE k=0 then { A with peers:=A.peers++[⟨k,List.replicate A.n false,List.replicate A.n false,List.replicate A.n false,false,false⟩] } else A
def PK.askL (A:PK) (k:Int):List aV:=bO A.asked k
def PK.leaveL (A:PK) (k:Int):List aV:=if A.peE k=0 then bO A.asked k else []
def PK.leaveA (A:PK) (k:Int):PK:=if A.peE k=0 then { A with asked:=cx A.asked k (fun _=>true),peers:=A.peers.filter fun p=>decide (p.k ≠ k) } else A
def PK.setE (A:PK) (k i:Int):Int:=A.boE k i
def PK.setA (A:PK) (k i:Int) (b:Bool):PK:=if A.boE k i=0 then A.upd k fun p=>{ p with fld:=p.fld.set i.toNat b } else A
def PK.allowA (A:PK) (k i:Int):PK:=if A.boE k i=0 then A.upd k fun p=>{ p with alw:=p.alw.set i.toNat true } else A
def PK.suggA (A:PK) (k i:Int):PK:=if A.boE k i=0 then A.upd k fun p=>{ p with sug:=p.sug.set i.toNat true } else A
def PK.snubA (A:PK) (k:Int) (b:Bool):PK:=if A.peE k=0 then A.upd k fun p=>{ p with sn:=b } else A
def PK.alwB (A:PK) (k:Int) (c:aV):Bool:=match fD A.peers k with
 | some p=>aF p.alw c.pc
 | none=>false
def PK.chokeL (A:PK) (k:Int) (ch kp:Bool):List aV:=if A.peE k=0∧ch=true∧kp=false then (bO A.asked k).filter fun c=>!A.alwB k c else []
def PK.chokeA (A:PK) (k:Int) (ch kp:Bool):PK:=if A.peE k=0 then
   { A.upd k (fun p=>{ p with un:=!ch }) with asked:=if ch=true∧kp=false then cx A.asked k (fun c=>!A.alwB k c) else A.asked } else A
def PK.wishE (A:PK) (i:Int) (w:o_):Int:=if (i<0∨(A.n:Int)≤i)∨(w.lv<0∨7<w.lv)∨(w.du<0∨1000000000<w.du) then 7 else 0
def PK.wishA (A:PK) (i:Int) (w:o_):PK:=if A.wishE i w=0 then { A with wish:=A.wish.set i.toNat w } else A
def PK.lookE (A:PK) (k most:Int):Int:=if most<0 then 7 else A.peE k
def PK.lookV (A:PK) (k most:Int):List aV:=if A.lookE k most=0 then (match fD A.peers k with
 | some p=>A.lookP p most
 | none=>[]) else []
def PK.nextA (A:PK) (k most:Int):PK:={ A with asked:=A.asked++(A.lookV k most).map fun c=>(k,c) }
def PK.hereE (A:PK) (k:Int) (c:aV):Int:=if c.pc<0 then 7 else if A.boE k c.pc ≠ 0 then A.boE k c.pc else if ¬ A.isB c then 1 else if aF A.had c.pc=true∨c∈A.here then 9 else if k ∉ cn A.asked c then 20 else 0
def PK.hereA (A:PK) (k:Int) (c:aV):PK:=if A.hereE k c=0 then { A with here:=A.here++[c],asked:=py A.asked c } else A
def PK.hereL (A:PK) (k:Int) (c:aV):List (Int × aV):=if A.hereE k c=0 then ((cn A.asked c).filter fun x=>decide (x ≠ k)).map fun x=>(x,c) else []
def PK.hereW (A:PK) (k:Int) (c:aV):Bool:=if A.hereE k c=0 then (A.hereA k c).wholeB c.pc else false
def PK.rejE (A:PK) (k:Int) (c:aV):Int:=if c.pc<0 then 7 else if A.boE k c.pc ≠ 0 then A.boE k c.pc else if ¬ A.isB c then 1 else if k ∉ cn A.asked c then 20 else 0
def PK.rejA (A:PK) (k:Int) (c:aV):PK:=if A.rejE k c=0 then { A with asked:=cx A.asked k fun x=>decide (x=c) } else A
def PK.forget (A:PK) (i:Int):PK:={ A with here:=A.here.filter (fun c=>decide (c.pc ≠ i)),asked:=A.asked.filter fun a=>decide (a.2.pc ≠ i) }
def PK.inE (A:PK) (i:Int):Int:=if i<0∨(A.n:Int)≤i then 7 else 0
def PK.doneE (A:PK) (i:Int):Int:=if i<0∨(A.n:Int)≤i then 7 else if aF A.had i=true∨A.wholeB i=false then 9 else 0
def PK.putA (A:PK) (i:Int) (b:Bool):PK:={ A.forget i with had:=A.had.set i.toNat b }
def PK.doneA (A:PK) (i:Int) (b:Bool):PK:=if A.doneE i=0 then A.putA i b else A
def PK.setHA (A:PK) (i:Int) (b:Bool):PK:=if A.inE i=0 then A.putA i b else A
def PK.intB (A:PK) (k:Int):Bool:=if A.peE k=0 then (match fD A.peers k with
 | some p=>(jo A.n).any fun i=>A.openB i && aF p.fld i
 | none=>false) else false
structure bQ (j:Nat) (A:PK):Prop where
 n1:1≤A.n
 n24:A.n≤24
 pz1:16≤A.pz
 pz2:A.pz≤128
 la1:1≤A.la
 la2:A.la≤A.pz
 sd:A.seed.size≤100
 hadl:A.had.length=A.n
 wishl:A.wish.length=A.n
 wishr:∀ w∈A.wish,0≤w.lv∧w.lv≤7∧0≤w.du∧w.du≤1000000000
 nd:(A.peers.map fV.k).Nodup
 kr:∀ p∈A.peers,1≤p.k∧p.k≤1000
 pl:A.peers.length≤100
 fl:∀ p∈A.peers,p.fld.length=A.n∧p.alw.length=A.n∧p.sug.length=A.n
 an:A.asked.Nodup
 ak:∀ a∈A.asked,(∃ p∈A.peers,p.k=a.1)∧A.isB a.2∧a.2 ∉ A.here∧aF A.had a.2.pc=false
 hb:∀ c∈A.here,A.isB c∧aF A.had c.pc=false
 hl:A.here.length≤j
 al:A.asked.length≤400 * j
theorem bQ.a8 {j:Nat} {A:PK} (h:bQ j A):A.n≤24∧1≤A.n∧16≤A.pz∧A.pz≤128∧1≤A.la∧A.la≤A.pz∧A.had.length=A.n∧A.wish.length=A.n:=⟨h.n24,h.n1,h.pz1,h.pz2,h.la1,h.la2,h.hadl,h.wishl⟩
theorem uq {n:Nat} {i:Int}:i∈jo n ↔ 0≤i∧i<(n:Int):=by
 unfold jo
 simp only [List.mem_map,List.mem_range]
 exact ⟨fun ⟨q,h1,h2⟩=>by omega,fun h=>⟨i.toNat,by omega,by omega⟩⟩
theorem yd (n:Nat):(jo n).Nodup:=by
 unfold jo
 exact List.pairwise_map.2 (List.nodup_range.imp fun {a b} h e=>h (by omega))
theorem je (n:Nat):(jo n).length=n:=by unfold jo; simp
theorem qX {ps:List fV} {k:Int} {p:fV} (h:fD ps k=some p):p∈ps∧p.k=k:=⟨List.mem_of_find?_eq_some h,of_decide_eq_true (List.find?_some (p:=fun p:fV=>decide (p.k=k)) h)⟩
theorem lu {ps:List fV} {k:Int} (h:fD ps k=none):∀ p∈ps,p.k ≠ k:=fun p hp he=>by
 unfold fD at h
 rw [List.find?_eq_none] at h
 exact h p hp (decide_eq_true he)
theorem qp {ps:List fV} (hn:(ps.map fV.k).Nodup) {i j:Nat} {p q:fV} (hi:ps[i]?=some p) (hj:ps[j]?=some q) (he:p.k=q.k):i=j:=by
 obtain ⟨h1,e1⟩:=List.getElem?_eq_some_iff.1 hi
 obtain ⟨h2,e2⟩:=List.getElem?_eq_some_iff.1 hj
 have key:∀ a b (ha:a<ps.length) (hb:b<ps.length),a<b→ps[a].k ≠ ps[b].k:=fun a b ha hb hab=>by
   have:=List.pairwise_iff_getElem.1 hn a b (by rwa [List.length_map]) (by rwa [List.length_map]) hab
   rwa [List.getElem_map,List.getElem_map] at this
 rcases Nat.lt_trichotomy i j with h | h | h
 · exact absurd (by rw [e1,e2]; exact he) (key i j h1 h2 h)
 · exact h
 · exact absurd (by rw [e1,e2]; exact he.symm) (key j i h2 h1 h)
theorem jh {ps:List fV} (hn:(ps.map fV.k).Nodup) {i:Nat} {p:fV} (h:ps[i]?=some p):fD ps p.k=some p:=by
 cases hf:fD ps p.k with
 | none=>exact absurd rfl (lu hf p (List.mem_of_getElem? h))
 | some q =>
   obtain ⟨h1,h2⟩:=qX hf
   obtain ⟨j,hj⟩:=List.getElem?_of_mem h1
   have:=qp hn hj h h2
   subst this
   rw [hj] at h; exact h
theorem GT {A:PK} (hn:(A.peers.map fV.k).Nodup) {i:Nat} {p:fV} (h:A.peers[i]?=some p) (f:fV→fV):A.upd p.k f={ A with peers:=A.peers.set i (f p) }:=by
 unfold PK.upd
 congr 1
 refine List.ext_getElem? fun j=>?_
 rw [List.getElem?_map]
 by_cases hj:j=i
 · subst hj
   rw [h,List.getElem?_set_self (List.getElem?_eq_some_iff.1 h).1]
   simp
 rw [List.getElem?_set_ne (Ne.symm hj)]
 cases hq:A.peers[j]? with
 | none=>rfl
 | some q =>
   have:q.k ≠ p.k:=fun e=>hj (qp hn hq h e)
   simp [this]
theorem vh {A:PK} {k:Int} (h:A.peE k=0):1≤k∧k≤1000∧∃ (i:Nat) (p:fV),A.peers[i]?=some p∧p.k=k∧fD A.peers k=some p:=by
 unfold PK.peE at h
 split at h
 · cases h
 · split at h
   · rename_i h1 h2
     obtain ⟨p,hp⟩:=Option.isSome_iff_exists.1 h2
     obtain ⟨h3,h4⟩:=qX hp
     obtain ⟨i,hi⟩:=List.getElem?_of_mem h3
     exact ⟨by omega,by omega,i,p,hi,h4,hp⟩
   · cases h
theorem fQ {A:PK} {k i:Int} (h:A.boE k i=0):A.peE k=0∧0≤i∧i<(A.n:Int):=by
 unfold PK.boE at h
 unfold PK.peE
 split at h
 · cases h
 · rename_i h1
   rw [if_neg (fun h2=>h1 (.inl h2))]
   exact ⟨h,by omega,by omega⟩
theorem CG (b:Bool):0≤eo b∧eo b≤1:=by unfold eo; split <;> omega
theorem qF {j:Nat} {A:PK} (h:bQ j A) (i:Int):1≤A.size i∧A.size i≤128:=by
 have:=h.pz1; have:=h.pz2; have:=h.la1; have:=h.la2
 unfold PK.size; split <;> omega
theorem cZ {j:Nat} {A:PK} (h:bQ j A) (i:Int):1≤(A.blocks i).length∧(A.blocks i).length≤8:=by
 have:=qF h i
 unfold PK.blocks
 rw [uz]; omega
theorem vM {α β:Type} {f:α→List β} {b:Nat}:∀ {l:List α},(∀ x∈l,(f x).length≤b)→(l.flatMap f).length≤l.length * b
 | [],_=>by simp
 | a :: l,h=>by
   have h1:=vM (l:=l) fun x hx=>h x (List.mem_cons_of_mem _ hx)
   have h2:=h a (List.mem_cons_self ..)
   rw [List.flatMap_cons,List.length_append,List.length_cons,Nat.add_mul,Nat.one_mul]; omega
theorem u6 (A:PK) (p:fV):(A.candL p).length≤A.n:=by
 unfold PK.candL
 have:=List.length_filter_le (A.candB p) (jo A.n)
 rwa [je] at this
theorem qs {A:PK} {p:fV} {i:Int}:i∈A.cand p ↔ (0≤i∧i<(A.n:Int))∧A.candB p i=true:=by
 unfold PK.cand
 rw [JR]
 unfold PK.candL
 rw [List.mem_filter,uq]
theorem o4 (A:PK) (p:fV):(A.cand p).Nodup:=by
 unfold PK.cand
 exact (qn _ _ _).nodup_iff.2 ((yd _).filter _)
theorem km (A:PK) (p:fV):(A.cand p).length≤A.n:=by
 unfold PK.cand
 rw [D3]; exact u6 A p
theorem mE {A:PK} {l:List Int} (hl:l.Nodup) (q:Int→aV→Bool):(l.flatMap fun i=>(A.blocks i).filter (q i)).Nodup:=by
 refine List.pairwise_flatMap.2 ⟨fun i _=>(Dq _ _).filter _,hl.imp fun {a b} hab x hx y hy e=>hab ?_⟩
 have h1:=eQ (List.mem_filter.1 hx).1
 have h2:=eQ (List.mem_filter.1 hy).1
 rw [← h1,← h2,e]
theorem qq {A:PK} {l:List Int} {q:Int→aV→Bool} {c:aV}:c∈(l.flatMap fun i=>(A.blocks i).filter (q i)) ↔ c.pc∈l∧c∈A.blocks c.pc∧q c.pc c=true:=by
 rw [List.mem_flatMap]
 constructor
 · rintro ⟨i,h1,h2⟩
   obtain ⟨h3,h4⟩:=List.mem_filter.1 h2
   have:=eQ h3
   subst this
   exact ⟨h1,h3,h4⟩
 · rintro ⟨h1,h2,h3⟩
   exact ⟨_,h1,List.mem_filter.2 ⟨h2,h3⟩⟩
theorem xx (A:PK):A.freeL=fun i=>(A.blocks i).filter fun c=>!aF A.had i && A.freeC c:=rfl
theorem FI {A:PK} {p:fV} {most:Int} {c:aV} (h:c∈A.lookP p most):c.pc∈A.cand p∧c∈A.blocks c.pc∧c ∉ A.here∧p.k ∉ cn A.asked c∧(cn A.asked c).length≤2:=by
 unfold PK.lookP at h
 split at h
 · have h:=List.mem_of_mem_take h
   have key:∀ t,t≤2→c∈A.endL p.k (A.cand p) t→c.pc∈A.cand p∧c∈A.blocks c.pc∧c ∉ A.here∧p.k ∉ cn A.asked c∧(cn A.asked c).length≤2:=fun t ht h=>by
     obtain ⟨h1,h2,h3⟩:=qq.1 h
     unfold PK.endB1 at h3
     simp only [Bool.and_eq_true,Bool.not_eq_eq_eq_not,Bool.not_true,decide_eq_false_iff_not,decide_eq_true_eq] at h3
     exact ⟨h1,h2,h3.1.1,h3.2,by omega⟩
   rcases List.mem_append.1 h with h | h
   · exact key 1 (by decide) h
   · exact key 2 (by decide) h
 · have h:=List.mem_of_mem_take h
   rw [xx] at h
   obtain ⟨h1,h2,h3⟩:=qq.1 h
   unfold PK.freeC at h3
   simp only [Bool.and_eq_true,Bool.not_eq_eq_eq_not,Bool.not_true,decide_eq_false_iff_not,List.isEmpty_iff] at h3
   rw [h3.2.2]
   exact ⟨h1,h2,h3.2.1,by simp,by simp⟩
theorem BZ (A:PK) (p:fV) (most:Int):(A.lookP p most).Nodup:=by
 unfold PK.lookP
 split
 · refine List.Nodup.sublist (List.take_sublist ..) ?_
   refine List.nodup_append.2 ⟨mE (o4 A p) _,mE (o4 A p) _,fun a ha b hb e=>?_⟩
   subst e
   have h1:=(qq.1 ha).2.2
   have h2:=(qq.1 hb).2.2
   unfold PK.endB1 at h1 h2
   simp only [Bool.and_eq_true,decide_eq_true_eq] at h1 h2
   omega
 refine List.Nodup.sublist (List.take_sublist ..) ?_
 rw [xx]
 exact mE (o4 A p) _
theorem FK {j:Nat} {A:PK} (h:bQ j A) (p:fV) (most:Int):(A.lookP p most).length≤384:=by
 have h1:=km A p
 have h2:=h.n24
 have key:∀ q:Int→aV→Bool,((A.cand p).flatMap fun i=>(A.blocks i).filter (q i)).length≤192:=fun q=>by
   have h3:=vM (l:=A.cand p) (f:=fun i=>(A.blocks i).filter (q i)) (b:=8) fun i _=>Nat.le_trans (List.length_filter_le _ _) (cZ h i).2
   omega
 unfold PK.lookP
 split
 · rw [List.length_take,List.length_append]
   have h3:=key fun _=>A.endB1 p.k 1
   have h4:=key fun _=>A.endB1 p.k 2
   unfold PK.endL
   omega
 · rw [List.length_take,xx]
   have h3:=key fun i c=>!aF A.had i && A.freeC c
   omega
theorem tp {A:PK} {p:fV} {i:Int} (h:A.candB p i=true):aF A.had i=false∧0<A.lv i:=by
 unfold PK.candB PK.openB at h
 simp only [Bool.and_eq_true,Bool.not_eq_eq_eq_not,Bool.not_true,decide_eq_true_eq] at h
 exact h.1.1
variable {A:PK} {j:Nat} {k i:Int}
theorem bQ.mono (h:bQ j A):bQ (j+1) A:={ h with hl:=by have:=h.hl; omega,al:=by have:=h.al; omega }
theorem bQ.upd (h:bQ j A) (k:Int) {f:fV→fV} (hk:∀ p,(f p).k=p.k) (hl:∀ p∈A.peers,(f p).fld.length=A.n∧(f p).alw.length=A.n∧(f p).sug.length=A.n):bQ j (A.upd k f):=by
 have hkk:∀ p:fV,(if p.k=k then f p else p).k=p.k:=fun p=>by split; exact hk p; rfl
 have hks:(A.peers.map fun p=>if p.k=k then f p else p).map fV.k=A.peers.map fV.k:=by
   rw [List.map_map]; exact List.map_congr_left fun p _=>hkk p
 refine { h with nd:=?_,kr:=?_,pl:=?_,fl:=?_,ak:=?_ }
 · show ((A.peers.map fun p=>if p.k=k then f p else p).map fV.k).Nodup
   rw [hks]; exact h.nd
 · intro p hp
   obtain ⟨q,hq,rfl⟩:=List.mem_map.1 hp
   rw [hkk]; exact h.kr q hq
 · show (A.peers.map _).length≤100
   rw [List.length_map]; exact h.pl
 · intro p hp
   obtain ⟨q,hq,rfl⟩:=List.mem_map.1 hp
   show (if q.k=k then f q else q).fld.length=A.n∧(if q.k=k then f q else q).alw.length=A.n∧(if q.k=k then f q else q).sug.length=A.n
   split
   · exact hl q hq
   exact h.fl q hq
 intro a ha
 obtain ⟨⟨p,hp,he⟩,h2⟩:=h.ak a ha
 exact ⟨⟨_,List.mem_map.2 ⟨p,hp,rfl⟩,(hkk p).trans he⟩,h2⟩
theorem bQ.sub (h:bQ j A) {al:AL} (hs:al.Sublist A.asked):bQ j { A with asked:=al }:=
 { h with an:=h.an.sublist hs,ak:=fun a ha=>h.ak a (hs.subset ha),al:=Nat.le_trans hs.length_le h.al }
theorem jU (al:AL) (k:Int) (q:aV→Bool):(cx al k q).Sublist al:=List.filter_sublist
theorem bQ.join (h:bQ j A) (k:Int):bQ j (A.joinA k):=by
 unfold PK.joinA
 split
 · rename_i he
   unfold PK.joinE at he
   split at he
   · cases he
   rename_i h1
   split at he
   · cases he
   rename_i h2
   split at he
   · cases he
   rename_i h3
   have hno:∀ p∈A.peers,p.k ≠ k:=lu (by cases hf:fD A.peers k with | none=>rfl | some p=>rw [hf] at h2; exact absurd rfl h2)
   refine { h with nd:=?_,kr:=?_,pl:=?_,fl:=?_,ak:=?_ }
   · show ((A.peers++[_]).map fV.k).Nodup
     rw [List.map_append]
     refine List.nodup_append.2 ⟨h.nd,by simp,fun a ha b hb e=>?_⟩
     obtain ⟨p,hp,rfl⟩:=List.mem_map.1 ha
     simp only [List.map_cons,List.map_nil,List.mem_singleton] at hb
     exact hno p hp (e.trans hb)
   · intro p hp
     rcases List.mem_append.1 hp with hp | hp
     · exact h.kr p hp
     rw [List.mem_singleton] at hp; subst hp
     exact ⟨by show 1≤k; omega,by show k≤1000; omega⟩
   · show (A.peers++[_]).length≤100
     rw [List.length_append]; simp only [List.length_cons,List.length_nil]; omega
   · intro p hp
     rcases List.mem_append.1 hp with hp | hp
     · exact h.fl p hp
     rw [List.mem_singleton] at hp; subst hp
     exact ⟨List.length_replicate,List.length_replicate,List.length_replicate⟩
   intro a ha
   obtain ⟨⟨p,hp,he⟩,h2⟩:=h.ak a ha
   exact ⟨⟨p,List.mem_append_left _ hp,he⟩,h2⟩
 exact h
theorem bQ.leave (h:bQ j A) (k:Int):bQ j (A.leaveA k):=by
 unfold PK.leaveA
 split
 · have h0:=h.sub (jU A.asked k fun _=>true)
   refine { h0 with nd:=?_,kr:=?_,pl:=?_,fl:=?_,ak:=?_ }
   · exact List.Nodup.sublist (List.filter_sublist.map fV.k) h.nd
   · exact fun p hp=>h.kr p (List.mem_filter.1 hp).1
   · exact Nat.le_trans (List.length_filter_le _ _) h.pl
   · exact fun p hp=>h.fl p (List.mem_filter.1 hp).1
   intro a ha
   obtain ⟨ha1,ha2⟩:=xg.1 (show a∈cx A.asked k fun _=>true from ha)
   obtain ⟨⟨p,hp,he⟩,h2⟩:=h.ak a ha1
   refine ⟨⟨p,List.mem_filter.2 ⟨hp,decide_eq_true ?_⟩,he⟩,h2⟩
   intro e
   exact ha2 ⟨he.symm.trans e,rfl⟩
 exact h
theorem bQ.set (h:bQ j A) (k i:Int) (b:Bool):bQ j (A.setA k i b):=by
 unfold PK.setA
 split
 · exact h.upd k (fun p=>rfl) fun p hp=>by
     have:=h.fl p hp
     exact ⟨by rw [List.length_set]; exact this.1,this.2⟩
 · exact h
theorem bQ.allow (h:bQ j A) (k i:Int):bQ j (A.allowA k i):=by
 unfold PK.allowA
 split
 · exact h.upd k (fun p=>rfl) fun p hp=>by
     have:=h.fl p hp
     exact ⟨this.1,by rw [List.length_set]; exact this.2.1,this.2.2⟩
 · exact h
theorem bQ.sugg (h:bQ j A) (k i:Int):bQ j (A.suggA k i):=by
 unfold PK.suggA
 split
 · exact h.upd k (fun p=>rfl) fun p hp=>by
     have:=h.fl p hp
     exact ⟨this.1,this.2.1,by rw [List.length_set]; exact this.2.2⟩
 · exact h
theorem bQ.snub (h:bQ j A) (k:Int) (b:Bool):bQ j (A.snubA k b):=by
 unfold PK.snubA
 split
 · exact h.upd k (fun p=>rfl) fun p hp=>h.fl p hp
 · exact h
theorem bQ.choke (h:bQ j A) (k:Int) (ch kp:Bool):bQ j (A.chokeA k ch kp):=by
 unfold PK.chokeA
 split
 · have h0:=h.upd k (f:=fun p=>{ p with un:=!ch }) (fun p=>rfl) fun p hp=>h.fl p hp
   refine h0.sub ?_
   show List.Sublist _ A.asked
   split
   · exact jU _ _ _
   exact List.Sublist.refl _
 exact h
theorem bQ.wish (h:bQ j A) (i:Int) (w:o_):bQ j (A.wishA i w):=by
 unfold PK.wishA
 split
 · rename_i he
   unfold PK.wishE at he
   split at he
   · cases he
   rename_i h1
   refine { h with wishl:=?_,wishr:=?_ }
   · show (A.wish.set _ _).length=A.n
     rw [List.length_set]; exact h.wishl
   intro x hx
   rcases List.mem_or_eq_of_mem_set hx with hx | rfl
   · exact h.wishr x hx
   omega
 exact h
theorem C7 {most:Int} {c:aV} (hc:c∈A.lookV k most):A.peE k=0∧∃ p,fD A.peers k=some p∧A.lookV k most=A.lookP p most:=by
 unfold PK.lookV at hc ⊢
 split at hc
 · rename_i he
   have h0:A.peE k=0:=by
     unfold PK.lookE at he
     split at he
     · cases he
     · exact he
   cases hf:fD A.peers k with
   | none=>rw [hf] at hc; cases hc
   | some p=>exact ⟨h0,p,rfl,by rw [if_pos he]⟩
 · cases hc
theorem nK (h:bQ j A) (k most:Int):(A.lookV k most).length≤384:=by
 unfold PK.lookV
 split
 · split
   · exact FK h _ _
   · exact Nat.zero_le _
 · exact Nat.zero_le _
theorem mz (A:PK) (k most:Int):(A.lookV k most).Nodup:=by
 unfold PK.lookV
 split
 · split
   · exact BZ _ _ _
   · exact .nil
 · exact .nil
theorem qU {most:Int} {c:aV} (hc:c∈A.lookV k most):(∃ p∈A.peers,p.k=k)∧A.isB c∧c ∉ A.here∧aF A.had c.pc=false∧k ∉ cn A.asked c∧(cn A.asked c).length≤2∧0<A.lv c.pc:=by
 obtain ⟨_,p,hf,he⟩:=C7 hc
 obtain ⟨hp,hk⟩:=qX hf
 rw [he] at hc
 obtain ⟨h1,h2,h3,h4,h5⟩:=FI hc
 obtain ⟨h6,h7⟩:=qs.1 h1
 exact ⟨⟨p,hp,hk⟩,Cs h6.1 h6.2 h2,h3,(tp h7).1,by rw [← hk]; exact h4,h5,(tp h7).2⟩
theorem bQ.nextL (h:bQ j A) (k:Int) {l:List aV} (hn:l.Nodup) (hl:l.length≤400) (hm:∀ c∈l,(∃ p∈A.peers,p.k=k)∧A.isB c∧c ∉ A.here∧aF A.had c.pc=false∧k ∉ cn A.asked c):bQ (j+1) { A with asked:=A.asked++l.map fun c=>(k,c) }:=by
 have h0:=h.mono
 refine { h0 with an:=?_,ak:=?_,al:=?_ }
 · refine List.nodup_append.2 ⟨h.an,List.pairwise_map.2 (hn.imp fun {a b} hab e=>hab (congrArg Prod.snd e)),fun a ha b hb e=>?_⟩
   obtain ⟨c,hc,rfl⟩:=List.mem_map.1 hb
   subst e
   exact (hm c hc).2.2.2.2 (gp.2 ha)
 · intro a ha
   rcases List.mem_append.1 ha with ha | ha
   · exact h.ak a ha
   obtain ⟨c,hc,rfl⟩:=List.mem_map.1 ha
   obtain ⟨h1,h2,h3,h4,_⟩:=hm c hc
   exact ⟨h1,h2,h3,h4⟩
 show (A.asked++_).length≤400 * (j+1)
 rw [List.length_append,List.length_map]
 have:=h.al
 omega
theorem bQ.next (h:bQ j A) (k most:Int):bQ (j+1) (A.nextA k most):=
 h.nextL k (mz A k most) (by have:=nK h k most; omega) fun c hc=>by
   obtain ⟨h1,h2,h3,h4,h5,_⟩:=qU hc
   exact ⟨h1,h2,h3,h4,h5⟩
theorem KG {c:aV} (he:A.hereE k c=0):0≤c.pc∧A.peE k=0∧A.isB c∧aF A.had c.pc=false∧c ∉ A.here∧k∈cn A.asked c:=by
 unfold PK.hereE at he
 split at he
 · cases he
 · split at he
   · rename_i h2; exact absurd he h2
   · rename_i h1 h2
     have h2:=fQ (Decidable.not_not.1 h2)
     split at he
     · cases he
     · rename_i h3
       split at he
       · cases he
       · rename_i h4
         split at he
         · cases he
         · rename_i h5
           exact ⟨by omega,h2.1,Decidable.not_not.1 h3,by cases hb:aF A.had c.pc with | false=>rfl | true=>exact absurd (.inl hb) h4,fun h=>h4 (.inr h),Decidable.not_not.1 h5⟩
theorem bQ.here (h:bQ j A) (k:Int) (c:aV):bQ (j+1) (A.hereA k c):=by
 unfold PK.hereA
 split
 · rename_i he
   obtain ⟨_,_,h1,h2,h3,_⟩:=KG he
   have h0:=h.mono.sub (al:=py A.asked c) List.filter_sublist
   refine { h0 with ak:=?_,hb:=?_,hl:=?_ }
   · intro a ha
     have hd:=(List.mem_filter.1 ha).2
     have hd:a.2 ≠ c:=of_decide_eq_true hd
     obtain ⟨q1,q2,q3,q4⟩:=h.ak a (List.mem_filter.1 ha).1
     refine ⟨q1,q2,fun hm=>?_,q4⟩
     rcases List.mem_append.1 hm with hm | hm
     · exact q3 hm
     exact hd (List.mem_singleton.1 hm)
   · intro d hd
     rcases List.mem_append.1 hd with hd | hd
     · exact h.hb d hd
     rw [List.mem_singleton] at hd; subst hd
     exact ⟨h1,h2⟩
   show (A.here++[c]).length≤j+1
   have:=h.hl
   rw [List.length_append]; simp only [List.length_cons,List.length_nil]; omega
 exact h.mono
theorem bQ.rej (h:bQ j A) (k:Int) (c:aV):bQ j (A.rejA k c):=by
 unfold PK.rejA
 split
 · exact h.sub (jU _ _ _)
 · exact h
theorem u7 {l:List Bool} {i k:Int} {b:Bool} (h:i.toNat ≠ k.toNat):aF (l.set i.toNat b) k=aF l k:=by
 unfold aF
 rw [List.getD_eq_getElem?_getD,List.getD_eq_getElem?_getD,List.getElem?_set_ne h]
theorem Dt {l:List Bool} {i:Int} {b:Bool} (h:i.toNat<l.length):aF (l.set i.toNat b) i=b:=by
 unfold aF
 rw [List.getD_eq_getElem?_getD,List.getElem?_set_self h]; rfl
theorem bQ.put (h:bQ j A) (i:Int) (hi:0≤i) (b:Bool):bQ j (A.putA i b):=by
 have h0:=h.sub (al:=A.asked.filter fun a=>decide (a.2.pc ≠ i)) List.filter_sublist
 refine { h0 with hadl:=?_,ak:=?_,hb:=?_,hl:=?_ }
 · show (A.had.set _ _).length=A.n
   rw [List.length_set]; exact h.hadl
 · intro a ha
   have hd:a.2.pc ≠ i:=of_decide_eq_true (List.mem_filter.1 ha).2
   obtain ⟨q1,q2,q3,q4⟩:=h.ak a (List.mem_filter.1 ha).1
   refine ⟨q1,q2,fun hm=>q3 (List.mem_filter.1 hm).1,?_⟩
   show aF (A.had.set _ _) _=false
   rw [u7 (by have:=q2.1; omega)]; exact q4
 · intro d hd
   have hn:d.pc ≠ i:=of_decide_eq_true (List.mem_filter.1 hd).2
   obtain ⟨q1,q2⟩:=h.hb d (List.mem_filter.1 hd).1
   refine ⟨q1,?_⟩
   show aF (A.had.set _ _) _=false
   rw [u7 (by have:=q1.1; omega)]; exact q2
 exact Nat.le_trans (List.length_filter_le _ _) h.hl
theorem K_ (he:A.doneE i=0):0≤i∧i<(A.n:Int)∧aF A.had i=false∧A.wholeB i=true:=by
 unfold PK.doneE at he
 split at he
 · cases he
 rename_i h1
 split at he
 · cases he
 rename_i h2
 refine ⟨by omega,by omega,?_,?_⟩
 · cases hb:aF A.had i with | false=>rfl | true=>exact absurd (.inl hb) h2
 cases hb:A.wholeB i with | true=>rfl | false=>exact absurd (.inr hb) h2
theorem bQ.done (h:bQ j A) (i:Int) (b:Bool):bQ j (A.doneA i b):=by
 unfold PK.doneA
 split
 · rename_i he
   exact h.put i (K_ he).1 b
 · exact h
theorem bQ.setH (h:bQ j A) (i:Int) (b:Bool):bQ j (A.setHA i b):=by
 unfold PK.setHA
 split
 · rename_i he
   unfold PK.inE at he
   split at he
   · cases he
   · exact h.put i (by omega) b
 · exact h
end Go.Proofs.YthmmfhdpkddniaaGreatDoor
