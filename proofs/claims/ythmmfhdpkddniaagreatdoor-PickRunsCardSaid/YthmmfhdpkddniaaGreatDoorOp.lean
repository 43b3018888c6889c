import Derived.Test.YthmmfhdpkddniaaGreatDoorRk
import Derived.Test.YthmmfhdpkddniaaGreatDoorRows
import Derived.ProofKit
import Derived.OpenShut
import Derived.Lib.SmallJoins
import Derived.Deep.Slices
set_option maxRecDepth 20000
set_option maxHeartbeats 4000000
set_option linter.all false
namespace Go.Proofs.YthmmfhdpkddniaaGreatDoor
open Go.RowKit
structure pV (A:PK) (bs:List Bk):Prop where
 bn:(bs.map Bk.pl).Nodup
 bf:∀ p,(kfd Bk.pl bs p).map Bk.v=A.ent p
theorem di.bok {X:XP} {A:PK} (h:di X A):pV A X.bs:=⟨h.bn,h.bf⟩
theorem Lr {A A':PK} (h1:A'.n=A.n) (h2:A'.pz=A.pz) (h3:A'.la=A.la) (p:Int × Int):A'.chAt p=A.chAt p:=by
 unfold PK.chAt PK.size; rw [h1,h2,h3]
theorem mj {A:PK} {c:aV} (hc:A.isB c):A.ent c.at=if A.freeC c=true then none else some (decide (c∈A.here),cn A.asked c):=by
 unfold PK.ent; rw [Ak hc.2.2]
theorem iS {A:PK} {c:aV}:A.freeC c=true ↔ c ∉ A.here∧cn A.asked c=[]:=by
 unfold PK.freeC
 simp [List.isEmpty_iff]
theorem B5 {A:PK} {c:aV} {k:Int} (h:k∈cn A.asked c):A.freeC c=false:=by
 cases hq:A.freeC c with
 | false=>rfl
 | true=>rw [(iS.1 hq).2] at h; cases h
theorem Dj {A:PK} {c:aV} (h:c∈A.here):A.freeC c=false:=by
 cases hq:A.freeC c with
 | false=>rfl
 | true=>exact absurd h (iS.1 hq).1
theorem vN {A A':PK} {c:aV} (h1:A'.n=A.n) (h2:A'.pz=A.pz) (h3:A'.la=A.la) (hd:∀ d,d ≠ c→(d∈A'.here ↔ d∈A.here)∧cn A'.asked d=cn A.asked d) {p:Int × Int} (hp:p ≠ c.at):A'.ent p=A.ent p:=by
 have hne:A.chAt p ≠ c:=fun e=>hp (by rw [← e]; rfl)
 obtain ⟨e1,e2⟩:=hd _ hne
 unfold PK.ent
 rw [Lr h1 h2 h3]
 have e3:A'.freeC (A.chAt p)=A.freeC (A.chAt p):=by
   unfold PK.freeC; rw [e2,decide_eq_decide.2 e1]
 rw [e3,e2,decide_eq_decide.2 e1]
section
variable {A A':PK} {bs:List Bk} {i:Nat} {r r':Bk} {c:aV}
theorem pV.set1 (h:pV A bs) (hx:bs[i]?=some r) (hp:r.pl=c.at) (hp':r'.pl=r.pl) (hoth:∀ p,p ≠ c.at→A'.ent p=A.ent p) (hnew:A'.ent c.at=some r'.v):pV A' (bs.set i r'):=by
 refine ⟨by rw [xj hx hp']; exact h.bn,fun p=>?_⟩
 rw [Ab h.bn hx hp']
 by_cases e:p=r.pl
 · show (if p=r.pl then some r' else kfd Bk.pl bs p).map Bk.v=_
   rw [if_pos e,e,hp,hnew]; rfl
 show (if p=r.pl then some r' else kfd Bk.pl bs p).map Bk.v=_
 rw [if_neg e,h.bf p,hoth p (by rw [← hp]; exact e)]
theorem pV.erase1 (h:pV A bs) (hx:bs[i]?=some r) (hp:r.pl=c.at) (hoth:∀ p,p ≠ c.at→A'.ent p=A.ent p) (hnew:A'.ent c.at=none):pV A' (bs.eraseIdx i):=by
 refine ⟨h.bn.sublist ((List.eraseIdx_sublist ..).map Bk.pl),fun p=>?_⟩
 rw [uZ h.bn hx]
 by_cases e:p=r.pl
 · show (if p=r.pl then none else kfd Bk.pl bs p).map Bk.v=_
   rw [if_pos e,e,hp,hnew]; rfl
 show (if p=r.pl then none else kfd Bk.pl bs p).map Bk.v=_
 rw [if_neg e,h.bf p,hoth p (by rw [← hp]; exact e)]
theorem pV.snoc1 (h:pV A bs) (hno:kfd Bk.pl bs c.at=none) (hp:r.pl=c.at) (hoth:∀ p,p ≠ c.at→A'.ent p=A.ent p) (hnew:A'.ent c.at=some r.v):pV A' (bs++[r]):=by
 have hn:((bs++[r]).map Bk.pl).Nodup:=by
   rw [List.map_append,List.nodup_append]
   refine ⟨h.bn,by simp,fun a ha b hb e=>?_⟩
   obtain ⟨x,hx,rfl⟩:=List.mem_map.1 ha
   simp at hb; subst hb
   exact uu hno x hx (e.trans hp)
 refine ⟨hn,fun p=>?_⟩
 rw [xq hn]
 by_cases e:p=r.pl
 · show (if p=r.pl then some r else kfd Bk.pl bs p).map Bk.v=_
   rw [if_pos e,e,hp,hnew]; rfl
 show (if p=r.pl then some r else kfd Bk.pl bs p).map Bk.v=_
 rw [if_neg e,h.bf p,hoth p (by rw [← hp]; exact e)]
theorem pV.ent (h:pV A bs) (hc:A.isB c) (hx:bs[i]?=some r) (hp:r.pl=c.at):r.here=decide (c∈A.here)∧r.asked=cn A.asked c:=by
 have h1:=h.bf c.at
 rw [mj hc,← hp,kD h.bn hx] at h1
 split at h1
 · cases h1
 · have h1:some (r.here,r.asked)=some (decide (c∈A.here),cn A.asked c):=h1
   exact ⟨congrArg Prod.fst (Option.some.inj h1),congrArg Prod.snd (Option.some.inj h1)⟩
theorem pV.get (h:pV A bs) (hc:A.isB c) (hf:A.freeC c=false):∃ (i:Nat) (r:Bk),bs[i]?=some r∧r.pl=c.at∧gZ bs c.at=some r.b∧kfd Bk.pl bs c.at=some r:=by
 have h1:=h.bf c.at
 rw [mj hc,hf,if_neg (by decide)] at h1
 obtain ⟨r,hr,_⟩:=Option.map_eq_some_iff.1 h1
 obtain ⟨i,hi,hk⟩:=lY hr
 exact ⟨i,r,hi,hk,by unfold gZ; rw [hr]; rfl,hr⟩
theorem vS (hn:(bs.map Bk.pl).Nodup) (hx:bs[i]?=some r) (hp:r'.pl=r.pl) (hb:r'.b=r.b):gZ (bs.set i r')=gZ bs:=by
 funext p
 unfold gZ
 rw [Ab hn hx hp]
 show (if p=r.pl then some r' else kfd Bk.pl bs p).map Bk.b=_
 by_cases e:p=r.pl
 · rw [if_pos e,e,kD hn hx]
   show some r'.b=some r.b
   rw [hb]
 · rw [if_neg e]
theorem zw (hn:(bs.map Bk.pl).Nodup) (hx:bs[i]?=some r):gZ (bs.eraseIdx i)=pX (gZ bs) r.pl:=by
 funext p
 unfold gZ pX
 rw [uZ hn hx]
 show (if p=r.pl then none else kfd Bk.pl bs p).map Bk.b=_
 by_cases e:p=r.pl
 · rw [if_pos e,if_pos e]; rfl
 · rw [if_neg e,if_neg e]
theorem Jk (hn:((bs++[r]).map Bk.pl).Nodup):gZ (bs++[r])=upM (gZ bs) r.pl r.b:=by
 funext p
 unfold gZ upM
 rw [xq hn]
 show (if p=r.pl then some r else kfd Bk.pl bs p).map Bk.b=_
 by_cases e:p=r.pl
 · rw [if_pos e,if_pos e]; rfl
 · rw [if_neg e,if_neg e]
end
section
variable {ms:List Mt} {q:Nat} {m m':Mt}
theorem gm (hn:(ms.map Mt.k).Nodup) (hx:ms[q]?=some m) (hp:m'.k=m.k) (hb:m'.b=m.b):gV (ms.set q m')=gV ms:=by
 funext p
 unfold gV
 rw [Ab hn hx hp]
 show (if p=m.k then some m' else kfd Mt.k ms p).map Mt.b=_
 by_cases e:p=m.k
 · rw [if_pos e,e,kD hn hx]
   show some m'.b=some m.b
   rw [hb]
 · rw [if_neg e]
theorem FG (hn:(ms.map Mt.k).Nodup) (hx:ms[q]?=some m):gV (ms.eraseIdx q)=pX (gV ms) m.k:=by
 funext p
 unfold gV pX
 rw [uZ hn hx]
 show (if p=m.k then none else kfd Mt.k ms p).map Mt.b=_
 by_cases e:p=m.k
 · rw [if_pos e,if_pos e]; rfl
 · rw [if_neg e,if_neg e]
theorem Il (hn:((ms++[m]).map Mt.k).Nodup):gV (ms++[m])=upM (gV ms) m.k m.b:=by
 funext p
 unfold gV upM
 rw [xq hn]
 show (if p=m.k then some m else kfd Mt.k ms p).map Mt.b=_
 by_cases e:p=m.k
 · rw [if_pos e,if_pos e]; rfl
 · rw [if_neg e,if_neg e]
end
def mh (A:PK) (k:Int) (f:aV→Bool) (l:List aV):PK:={ A with asked:=cx A.asked k fun x=>decide (x∈l.filter f) }
section
variable {A:PK} {j:Nat} {k:Int} {f:aV→Bool} {l:List aV} {c:aV} {bs:List Bk} {i:Nat} {r:Bk}
theorem Jp:mh A k f []=A:=by unfold mh; rw [List.filter_nil,I7]
theorem LX (hf:f c=false):mh A k f (l++[c])=mh A k f l:=by
 unfold mh; rw [List.filter_append,List.filter_cons,if_neg (by rw [hf]; decide),List.filter_nil,List.append_nil]
theorem xF (hf:f c=true):mh A k f (l++[c])={ mh A k f l with asked:=cx (mh A k f l).asked k fun x=>decide (x=c) }:=by
 unfold mh
 rw [List.filter_append,List.filter_cons,if_pos hf,List.filter_nil]
 show ({ A with asked:=_ }:PK)={ A with asked:=_ }
 rw [F6]
theorem BN (h:bQ j A):bQ j (mh A k f l):=h.sub (jU _ _ _)
theorem LY (hl:c ∉ l):c ∉ l.filter f:=fun h=>hl (List.mem_filter.1 h).1
theorem Jr (hc:(k,c)∈A.asked) (hl:c ∉ l):k∈cn (mh A k f l).asked c:=by
 refine gp.2 (show (k,c)∈cx A.asked k (fun x=>decide (x∈l.filter f)) from xg.2 ⟨hc,fun h=>?_⟩)
 exact LY hl (of_decide_eq_true h.2)
theorem Ef {A:PK} (hn:A.asked.Nodup) {p:Int × Int} (hp:p ≠ c.at):({ A with asked:=cx A.asked k fun x=>decide (x=c) }:PK).ent p=A.ent p:=
 vN (A:=A) (A':={ A with asked:=cx A.asked k fun x=>decide (x=c) }) rfl rfl rfl (fun d hd=>⟨Iff.rfl,by
   show cn (cx A.asked k fun x=>decide (x=c)) d=_
   rw [Bb hn,if_neg (by rw [decide_eq_false hd]; decide)]⟩) hp
theorem Aa {A:PK} (hn:A.asked.Nodup):cn (cx A.asked k fun x=>decide (x=c)) c=(cn A.asked c).filter fun x=>decide (x ≠ k):=by
 rw [Bb hn,if_pos (decide_eq_true rfl)]
theorem Ee {A:PK} (hn:A.asked.Nodup) (hc:A.isB c) (h:pV A bs) (hx:bs[i]?=some r) (hp:r.pl=c.at) (ap:Option Addr) (ac:Nat) (hne:¬ ((r.asked.filter fun x=>decide (x ≠ k))=[]∧r.here=false)) :
   pV { A with asked:=cx A.asked k fun x=>decide (x=c) } (bs.set i { r with ap:=ap,ac:=ac,asked:=r.asked.filter fun x=>decide (x ≠ k) }):=by
 obtain ⟨e1,e2⟩:=h.ent hc hx hp
 refine h.set1 hx hp rfl (fun p hp=>Ef hn hp) ?_
 rw [mj (A:={ A with asked:=cx A.asked k fun x=>decide (x=c) }) hc,if_neg]
 · show some (decide (c∈A.here),cn (cx A.asked k fun x=>decide (x=c)) c)=some (r.here,r.asked.filter fun x=>decide (x ≠ k))
   rw [Aa hn,e1,e2]
 intro hf
 obtain ⟨h1,h2⟩:=iS.1 hf
 have h2:cn (cx A.asked k fun x=>decide (x=c)) c=[]:=h2
 rw [Aa hn,← e2] at h2
 exact hne ⟨h2,by rw [e1]; exact decide_eq_false h1⟩
theorem FC {A:PK} (hn:A.asked.Nodup) (hc:A.isB c) (h:pV A bs) (hx:bs[i]?=some r) (hp:r.pl=c.at) (he:(r.asked.filter fun x=>decide (x ≠ k))=[]) (hh:r.here=false) :
   pV { A with asked:=cx A.asked k fun x=>decide (x=c) } (bs.eraseIdx i):=by
 obtain ⟨e1,e2⟩:=h.ent hc hx hp
 refine h.erase1 hx hp (fun p hp=>Ef hn hp) ?_
 rw [mj (A:={ A with asked:=cx A.asked k fun x=>decide (x=c) }) hc,if_pos]
 refine iS.2 ⟨?_,?_⟩
 · rw [e1] at hh; exact of_decide_eq_false hh
 show cn (cx A.asked k fun x=>decide (x=c)) c=[]
 rw [Aa hn,← e2]; exact he
end
theorem Js (A:PK) (k:Int) (f:aV→Bool):mh A k f (bO A.asked k)={ A with asked:=cx A.asked k f }:=by
 unfold mh; rw [BJ]
theorem di.backed {X:XP} {A:PK} {q:Nat} {m:Mt} {k:Int} {f:aV→Bool} {bs:List Bk} (hX:di X A) (hnd:(X.ms.map Mt.k).Nodup) (hm:X.ms[q]?=some m) (hk:m.k=k) (hb:pV { A with asked:=cx A.asked k f } bs) (ap:Option Addr) (ac:Nat) :
   di { X with ms:=X.ms.set q { m with ap:=ap,ac:=ac,asked:=m.asked.filter fun c=>!f c },bs:=bs } { A with asked:=cx A.asked k f }:=by
 refine ⟨?_,fun x hx=>?_,hb.bn,hb.bf⟩
 · show (X.ms.set q _).map Mt.pe=A.peers
   exact (xj (key:=Mt.pe) hm (show Mt.pe { m with ap:=ap,ac:=ac,asked:=m.asked.filter fun c=>!f c }=Mt.pe m from rfl)).trans hX.ms
 show x.asked=bO (cx A.asked k f) x.k
 obtain ⟨i,hi⟩:=List.getElem?_of_mem hx
 have hi:(X.ms.set q { m with ap:=ap,ac:=ac,asked:=m.asked.filter fun c=>!f c })[i]?=some x:=hi
 rw [FH]
 by_cases e:i=q
 · subst e
   rw [List.getElem?_set_self (List.getElem?_eq_some_iff.1 hm).1] at hi
   cases hi
   show (m.asked.filter fun c=>!f c)=if m.k=k then _ else _
   rw [if_pos hk,hX.ask m (List.mem_of_getElem? hm)]
 rw [List.getElem?_set_ne (Ne.symm e)] at hi
 have hne:x.k ≠ k:=fun h=>e (sw hnd hi hm (h.trans hk.symm))
 rw [if_neg hne,hX.ask x (List.mem_of_getElem? hi)]
def zD (al:AL) (i:Int) (rem:List (Int × Nat)):AL:=al.filter fun a=>!(decide (a.2.pc=i) && !(rem.any fun p=>decide (p.1=a.1)))
theorem I5 (al:AL) (i:Int) (rem:List (Int × Nat)):(zD al i rem).Sublist al:=List.filter_sublist
theorem I6 {X:XP} {A:PK} {j:Nat} (hX:di X A) (hI:bQ j A) {rem:List (Int × Nat)} (h:∀ p:Int × Nat,p∈rem ↔ cO p.1∧gV X.ms p.1=some p.2) (i:Int):zD A.asked i rem=A.asked:=by
 unfold zD
 rw [List.filter_eq_self]
 intro a ha
 obtain ⟨⟨p,hp,hk⟩,_⟩:=hI.ak a ha
 have hmem:p.k∈X.ms.map Mt.k:=by rw [hX.ks]; exact List.mem_map.2 ⟨p,hp,rfl⟩
 obtain ⟨m,hm,hmk⟩:=List.mem_map.1 hmem
 obtain ⟨q,hq⟩:=List.getElem?_of_mem hm
 have hnd:(X.ms.map Mt.k).Nodup:=by rw [hX.ks]; exact hI.nd
 have hr:=hI.kr p hp
 have h2:(m.k,m.b)∈rem:=(h _).2 ⟨⟨by show _≤m.k; omega,by show m.k≤_; omega⟩,by unfold gV; rw [kD hnd hq]; rfl⟩
 have h3:rem.any (fun p=>decide (p.1=a.1))=true:=List.any_eq_true.2 ⟨_,h2,decide_eq_true (by show m.k=a.1; rw [hmk,hk])⟩
 rw [h3]; simp
theorem F5 {M:Int→Option Nat} {al:AL} {i:Int} {rem rem':List (Int × Nat)} {p:Int × Nat} (hsub:∀ z∈rem,M z.1=some z.2) (hp:p∈rem) (hm:∀ q,q∈rem' ↔ q∈rem∧q ≠ p):cx (zD al i rem) p.1 (fun c=>decide (c.pc=i))=zD al i rem':=by
 unfold cx zD
 rw [List.filter_filter]
 refine List.filter_congr fun a _=>?_
 by_cases hpc:a.2.pc=i
 · by_cases hk:a.1=p.1
   · have h1:rem'.any (fun q=>decide (q.1=a.1))=false:=by
       rw [List.any_eq_false]
       intro z hz hd
       have hz1:=(hm z).1 hz
       have hd:=of_decide_eq_true hd
       have e1:=hsub z hz1.1
       have e2:=hsub p hp
       rw [hd,hk,e2] at e1
       exact hz1.2 (Prod.ext (hd.trans hk) (Option.some.inj e1).symm)
     rw [h1]; simp [hpc,hk]
   have h1:rem'.any (fun q=>decide (q.1=a.1))=rem.any (fun q=>decide (q.1=a.1)):=by
     rw [Bool.eq_iff_iff,List.any_eq_true,List.any_eq_true]
     constructor
     · rintro ⟨z,hz,hd⟩; exact ⟨z,((hm z).1 hz).1,hd⟩
     · rintro ⟨z,hz,hd⟩
       exact ⟨z,(hm z).2 ⟨hz,fun e=>hk (by rw [← of_decide_eq_true hd,e])⟩,hd⟩
   rw [h1]; simp [hpc,hk]
 simp [hpc]
theorem BH (al:AL) (i:Int):zD al i []=al.filter fun a=>decide (a.2.pc ≠ i):=by
 unfold zD
 refine List.filter_congr fun a _=>?_
 by_cases h:a.2.pc=i <;> simp [h]
theorem La {A:PK} {bs:List Bk} {c:aV} {w:World} {L:List aD} {g:Nat} (hb:pV A bs) (hc:A.isB c) (hno:cn A.asked c=[]) (H:S w (Mp pQ j_ qE g (pX (gZ bs) c.at) :: bM g_ bs :: L)) :
   ∃ b3,pV { A with here:=A.here.filter fun x=>decide (x ≠ c) } b3∧S w (Mp pQ j_ qE g (gZ b3) :: bM g_ b3 :: L):=by
 have hoth:∀ p,p ≠ c.at→({ A with here:=A.here.filter fun x=>decide (x ≠ c) }:PK).ent p=A.ent p:=fun p hp =>
   vN (A:=A) (A':={ A with here:=A.here.filter fun x=>decide (x ≠ c) }) rfl rfl rfl (fun d hd=>⟨by
     show d∈A.here.filter (fun x=>decide (x ≠ c)) ↔ _
     rw [List.mem_filter]; exact ⟨fun h=>h.1,fun h=>⟨h,decide_eq_true hd⟩⟩,rfl⟩) hp
 have hnew:({ A with here:=A.here.filter fun x=>decide (x ≠ c) }:PK).ent c.at=none:=by
   rw [mj (A:={ A with here:=A.here.filter fun x=>decide (x ≠ c) }) hc,if_pos]
   refine iS.2 ⟨fun h=>?_,hno⟩
   have h:c∈A.here.filter (fun x=>decide (x ≠ c)):=h
   have:=(List.mem_filter.1 h).2
   simp at this
 cases hq:kfd Bk.pl bs c.at with
 | none =>
   have e:pX (gZ bs) c.at=gZ bs:=by
     funext p
     unfold pX
     by_cases hp:p=c.at
     · rw [if_pos hp,hp]; unfold gZ; rw [hq]; rfl
     · rw [if_neg hp]
   rw [e] at H
   refine ⟨bs,⟨hb.bn,fun p=>?_⟩,H⟩
   by_cases hp:p=c.at
   · rw [hp,hq,hnew]; rfl
   · rw [hb.bf p,hoth p hp]
 | some r =>
   obtain ⟨i,hi,hk⟩:=lY hq
   refine ⟨bs.eraseIdx i,hb.erase1 hi hk hoth hnew,?_⟩
   rw [zw hb.bn hi,hk]
   have h1:S w (bM g_ bs :: Mp pQ j_ qE g (pX (gZ bs) c.at) :: L):=H.perm (List.Perm.swap ..)
   exact (((S.lstOut (F:=g_) h1 hi).sublist (List.sublist_cons_self ..)).perm (List.Perm.swap ..))
def rK (A:PK) (l:List aV):PK:={ A with here:=A.here.filter fun x=>decide (x ∉ l) }
theorem FR (A:PK):rK A []=A:=by
 unfold rK
 have:(A.here.filter fun x=>decide (x ∉ ([]:List aV)))=A.here:=List.filter_eq_self.2 fun _ _=>by simp
 rw [this]
theorem Dh (A:PK) (l:List aV) (c:aV):rK A (l++[c])={ rK A l with here:=(rK A l).here.filter fun x=>decide (x ≠ c) }:=by
 unfold rK
 show ({ A with here:=_ }:PK)={ A with here:=_ }
 rw [List.filter_filter]
 congr 1
 refine List.filter_congr fun x _=>?_
 by_cases h1:x∈l <;> by_cases h2:x=c <;> simp [h1,h2]
theorem FS {A:PK} {j:Nat} (hI:bQ j A) (i:Int):A.here.filter (fun x=>decide (x ∉ A.blocks i))=A.here.filter fun c=>decide (c.pc ≠ i):=by
 refine List.filter_congr fun c hc=>?_
 obtain ⟨hB,_⟩:=hI.hb c hc
 by_cases h:c.pc=i
 · subst h
   simp [hB.2.2]
 have:c ∉ A.blocks i:=fun h2=>h (eQ h2)
 simp [h,this]
def PK.leftL (A:PK):List aV:=(jo A.n).flatMap fun i=>(A.blocks i).filter fun c=>A.openB i && !decide (c∈A.here)
section
variable {A:PK} {j:Nat} {k most:Int} {c:aV}
theorem Ih {al:AL} {k:Int}:∀ {x:List aV},x.Nodup→∀ c,cn (al++x.map fun c=>(k,c)) c=if c∈x then eU k (cn al c) else cn al c:=by
 have key:∀ (m:Nat) (x:List aV),x.length=m→x.Nodup→∀ c,cn (al++x.map fun c=>(k,c)) c=if c∈x then eU k (cn al c) else cn al c:=by
   intro m
   induction m with
   | zero=>intro x hx _ c; rw [List.eq_nil_of_length_eq_zero hx,if_neg List.not_mem_nil]; simp
   | succ m ih =>
     intro x hx hn c
     obtain ⟨y,d,rfl⟩:∃ y d,x=y++[d]:=⟨x.dropLast,x.getLast (by intro e; rw [e] at hx; cases hx),(List.dropLast_concat_getLast _).symm⟩
     have h1:=List.nodup_append.1 hn
     have ih:=ih y (by simpa using hx) h1.1 c
     rw [List.map_append,← List.append_assoc]
     show cn (_++[(k,d)]) c=_
     rw [qo,ih]
     by_cases e:d=c
     · subst e
       rw [if_pos rfl,if_neg (fun h=>h1.2.2 _ h _ (List.mem_singleton.2 rfl) rfl),if_pos (by simp)]
     · rw [if_neg e]
       by_cases h2:c∈y
       · rw [if_pos h2,if_pos (List.mem_append_left _ h2)]
       · rw [if_neg h2,if_neg]
         intro h3
         rcases List.mem_append.1 h3 with h3 | h3
         · exact h2 h3
         · exact e (List.mem_singleton.1 h3).symm
 exact fun {x} hn c=>key _ x rfl hn c
def SQ (al:AL) (c:aV) (ks:List Int):Nat:=(ks.map fun k=>(bO al k).count c).sum
def PK.frees (A:PK):List aV:=(jo A.n).flatMap A.freeL
def PK.othB (A:PK) (k:Int) (c:aV):Bool:=(cn A.asked c).any fun x=>decide (x ≠ k)
end
end Go.Proofs.YthmmfhdpkddniaaGreatDoor
namespace Go.Proofs.YthmmfhdpkddniaaGreatDoor
open Go.ChangeShapes Go.WideShapes Go.ChangeAt Go.RowKit
abbrev Sy (w w':World):Prop:=Below w.heap.size w w'
section
variable {H:Type} {enc:TypeId × Value→H}
theorem own:ownKnob Tryz.prog.godebug=none:=by kernel_rfl
theorem Ku:laidOutB Tryz.prog=true:=by kernel_rfl
theorem rT {W W':World} (hs:Sy W W'):∀ {ts:List TypeId} {vs:List Value} {ds:List (DataW H)} {ps:List MemPlace},
   (∀ t∈ts,Tryz.prog.readableRec t=true∧t<Tryz.prog.types.size)→DataW.TrodAll enc Tryz.prog W 0 (fun _=>true) true ts vs ds ps→(∀ x∈ps,x.block<W.heap.size) →
   DataW.TrodAll enc Tryz.prog W' 0 (fun b=>decide (b<W.heap.size)) true ts vs ds ps
 | [],[],[],_,_,h,_=>h
 | t :: ts,v :: vs,d :: ds,_,ht,⟨p,q,h1,h2,e⟩,hlt =>
   ⟨p,q,Below.trod Ku (ht t (List.mem_cons_self ..)).1 (ht t (List.mem_cons_self ..)).2 h1 hs (fun x hx=>hlt x (by rw [e]; exact List.mem_append_left _ hx)),
     rT hs (fun t' ht'=>ht t' (List.mem_cons_of_mem _ ht')) h2 (fun x hx=>hlt x (by rw [e]; exact List.mem_append_right _ hx)),e⟩
theorem Iu {f:Func} {s:ChangeSpec} {W W':World} {args:Array Value} {ds gs:List (DataW H)} {before:List MemPlace}
   (hW:DataW.Whole enc Tryz.prog f.params.toList s.vars false W args.toList ds gs before) (hv0:s.vars=[])
   (hres:(s.fn H (ds++gs)).results=[.lit (.bool true)]) (hargs:(s.fn H (ds++gs)).args=ds) (hvs:(s.fn H (ds++gs)).vars=[])
   (hrt:f.resultTypes=#[4]) (hread:∀ t∈f.params.toList,Tryz.prog.readableRec t=true∧t<Tryz.prog.types.size) (hs:Sy W W') :
   s.post enc Tryz.prog f false true false false W args (.bool true) W':=by
 have hW':=hW
 obtain ⟨p,q,hA0,hV,rfl,hfz,hnd⟩:=hW
 rw [hv0] at hV
 obtain ⟨rfl,rfl⟩:=trodVars_none hV
 simp only [List.append_nil] at *
 refine ⟨ds,[],p,[],p,[],by simpa using hW',?_,?_,?_,Below.frame hs _,fun h=>by cases h⟩
 · simp only [List.append_nil,hres,hrt]
   exact trodAll_mk1 (shut_bool Tryz.underlying4 true)
 · simp only [List.append_nil,hargs]
   exact rT hs hread hA0 (fun x hx=>by simpa using hW'.lt x hx)
 simp only [List.append_nil,hvs,hv0]; rfl
end
end Go.Proofs.YthmmfhdpkddniaaGreatDoor
namespace Go.Proofs.YthmmfhdpkddniaaGreatDoor
open Go.RowKit
end Go.Proofs.YthmmfhdpkddniaaGreatDoor
namespace Go.Proofs.YthmmfhdpkddniaaGreatDoor
open Go.ChangeShapes Go.WideShapes Go.ChangeAt Go.RowKit Go.Joins Go.Deep
section
variable {H:Type} {enc:TypeId × Value→H} {P:Program} {w:World} {base:Nat} {spare:Nat→Bool} {held:Bool}
end
end Go.Proofs.YthmmfhdpkddniaaGreatDoor
