import Derived.Test.YthmmfhdpkddniaaGreatDoorRj
import Derived.Test.YthmmfhdpkddniaaGreatDoorRows
import Derived.Test.YthmmfhdpkddniaaGreatDoorFc
import Derived.ProofKit
import Derived.OpenShut
import Derived.Lib.SmallJoins
import Derived.Test.YthmmfhdpkddniaaGreatDoorRk
import Derived.Deep.Slices
set_option linter.unusedSimpArgs false
set_option linter.unusedVariables false
namespace Go.Proofs.YthmmfhdpkddniaaGreatDoor
open Go.RowKit
structure BOK (A:PK) (bs:List Bk):Prop where
 bn:(bs.map Bk.pl).Nodup
 bf:∀ p,(kfd Bk.pl bs p).map Bk.v=A.ent p
theorem XOK.bok {X:XP} {A:PK} (h:XOK X A):BOK A X.bs:=⟨h.bn,h.bf⟩
theorem chAt_eq {A A':PK} (h1:A'.n=A.n) (h2:A'.pz=A.pz) (h3:A'.la=A.la) (p:Int × Int):A'.chAt p=A.chAt p:=by
 unfold PK.chAt PK.size; rw [h1,h2,h3]
theorem ent_blk {A:PK} {c:Cho} (hc:A.isB c):A.ent c.at=if A.freeC c=true then none else some (decide (c∈A.here),ofL A.asked c):=by
 unfold PK.ent; rw [chAt_at hc.2.2]
theorem freeC_iff {A:PK} {c:Cho}:A.freeC c=true ↔ c ∉ A.here∧ofL A.asked c=[]:=by
 unfold PK.freeC
 simp [List.isEmpty_iff]
theorem freeC_asked {A:PK} {c:Cho} {k:Int} (h:k∈ofL A.asked c):A.freeC c=false:=by
 cases hq:A.freeC c with
 | false=>rfl
 | true=>rw [(freeC_iff.1 hq).2] at h; cases h
theorem freeC_here {A:PK} {c:Cho} (h:c∈A.here):A.freeC c=false:=by
 cases hq:A.freeC c with
 | false=>rfl
 | true=>exact absurd h (freeC_iff.1 hq).1
theorem ent_oth {A A':PK} {c:Cho} (h1:A'.n=A.n) (h2:A'.pz=A.pz) (h3:A'.la=A.la) (hd:∀ d,d ≠ c→(d∈A'.here ↔ d∈A.here)∧ofL A'.asked d=ofL A.asked d) {p:Int × Int} (hp:p ≠ c.at):A'.ent p=A.ent p:=by
 have hne:A.chAt p ≠ c:=fun e=>hp (by rw [← e]; rfl)
 obtain ⟨e1,e2⟩:=hd _ hne
 unfold PK.ent
 rw [chAt_eq h1 h2 h3]
 have e3:A'.freeC (A.chAt p)=A.freeC (A.chAt p):=by
   unfold PK.freeC; rw [e2,decide_eq_decide.2 e1]
 rw [e3,e2,decide_eq_decide.2 e1]
section
variable {A A':PK} {bs:List Bk} {i:Nat} {r r':Bk} {c:Cho}
theorem BOK.set1 (h:BOK A bs) (hx:bs[i]?=some r) (hp:r.pl=c.at) (hp':r'.pl=r.pl) (hoth:∀ p,p ≠ c.at→A'.ent p=A.ent p) (hnew:A'.ent c.at=some r'.v):BOK A' (bs.set i r'):=by
 refine ⟨by rw [map_setK hx hp']; exact h.bn,fun p=>?_⟩
 rw [kfd_set h.bn hx hp']
 by_cases e:p=r.pl
 · show (if p=r.pl then some r' else kfd Bk.pl bs p).map Bk.v=_
   rw [if_pos e,e,hp,hnew]; rfl
 · show (if p=r.pl then some r' else kfd Bk.pl bs p).map Bk.v=_
   rw [if_neg e,h.bf p,hoth p (by rw [← hp]; exact e)]
theorem BOK.erase1 (h:BOK A bs) (hx:bs[i]?=some r) (hp:r.pl=c.at) (hoth:∀ p,p ≠ c.at→A'.ent p=A.ent p) (hnew:A'.ent c.at=none):BOK A' (bs.eraseIdx i):=by
 refine ⟨h.bn.sublist ((List.eraseIdx_sublist ..).map Bk.pl),fun p=>?_⟩
 rw [kfd_erase h.bn hx]
 by_cases e:p=r.pl
 · show (if p=r.pl then none else kfd Bk.pl bs p).map Bk.v=_
   rw [if_pos e,e,hp,hnew]; rfl
 · show (if p=r.pl then none else kfd Bk.pl bs p).map Bk.v=_
   rw [if_neg e,h.bf p,hoth p (by rw [← hp]; exact e)]
theorem BOK.snoc1 (h:BOK A bs) (hno:kfd Bk.pl bs c.at=none) (hp:r.pl=c.at) (hoth:∀ p,p ≠ c.at→A'.ent p=A.ent p) (hnew:A'.ent c.at=some r.v):BOK A' (bs++[r]):=by
 have hn:((bs++[r]).map Bk.pl).Nodup:=by
   rw [List.map_append,List.nodup_append]
   refine ⟨h.bn,by simp,fun a ha b hb e=>?_⟩
   obtain ⟨x,hx,rfl⟩:=List.mem_map.1 ha
   simp at hb; subst hb
   exact kfd_none hno x hx (e.trans hp)
 refine ⟨hn,fun p=>?_⟩
 rw [kfd_snoc hn]
 by_cases e:p=r.pl
 · show (if p=r.pl then some r else kfd Bk.pl bs p).map Bk.v=_
   rw [if_pos e,e,hp,hnew]; rfl
 · show (if p=r.pl then some r else kfd Bk.pl bs p).map Bk.v=_
   rw [if_neg e,h.bf p,hoth p (by rw [← hp]; exact e)]
theorem BOK.ent (h:BOK A bs) (hc:A.isB c) (hx:bs[i]?=some r) (hp:r.pl=c.at):r.here=decide (c∈A.here)∧r.asked=ofL A.asked c:=by
 have h1:=h.bf c.at
 rw [ent_blk hc,← hp,kfd_at h.bn hx] at h1
 split at h1
 · cases h1
 · have h1:some (r.here,r.asked)=some (decide (c∈A.here),ofL A.asked c):=h1
   exact ⟨congrArg Prod.fst (Option.some.inj h1),congrArg Prod.snd (Option.some.inj h1)⟩
theorem BOK.get (h:BOK A bs) (hc:A.isB c) (hf:A.freeC c=false):∃ (i:Nat) (r:Bk),bs[i]?=some r∧r.pl=c.at∧bkM bs c.at=some r.b∧kfd Bk.pl bs c.at=some r:=by
 have h1:=h.bf c.at
 rw [ent_blk hc,hf,if_neg (by decide)] at h1
 obtain ⟨r,hr,_⟩:=Option.map_eq_some_iff.1 h1
 obtain ⟨i,hi,hk⟩:=kfd_some hr
 exact ⟨i,r,hi,hk,by unfold bkM; rw [hr]; rfl,hr⟩
theorem bkM_set (hn:(bs.map Bk.pl).Nodup) (hx:bs[i]?=some r) (hp:r'.pl=r.pl) (hb:r'.b=r.b):bkM (bs.set i r')=bkM bs:=by
 funext p
 unfold bkM
 rw [kfd_set hn hx hp]
 show (if p=r.pl then some r' else kfd Bk.pl bs p).map Bk.b=_
 by_cases e:p=r.pl
 · rw [if_pos e,e,kfd_at hn hx]
   show some r'.b=some r.b
   rw [hb]
 · rw [if_neg e]
theorem bkM_erase (hn:(bs.map Bk.pl).Nodup) (hx:bs[i]?=some r):bkM (bs.eraseIdx i)=delM (bkM bs) r.pl:=by
 funext p
 unfold bkM delM
 rw [kfd_erase hn hx]
 show (if p=r.pl then none else kfd Bk.pl bs p).map Bk.b=_
 by_cases e:p=r.pl
 · rw [if_pos e,if_pos e]; rfl
 · rw [if_neg e,if_neg e]
theorem bkM_snoc (hn:((bs++[r]).map Bk.pl).Nodup):bkM (bs++[r])=upM (bkM bs) r.pl r.b:=by
 funext p
 unfold bkM upM
 rw [kfd_snoc hn]
 show (if p=r.pl then some r else kfd Bk.pl bs p).map Bk.b=_
 by_cases e:p=r.pl
 · rw [if_pos e,if_pos e]; rfl
 · rw [if_neg e,if_neg e]
end
section
variable {ms:List Mt} {q:Nat} {m m':Mt}
theorem mtM_set (hn:(ms.map Mt.k).Nodup) (hx:ms[q]?=some m) (hp:m'.k=m.k) (hb:m'.b=m.b):mtM (ms.set q m')=mtM ms:=by
 funext p
 unfold mtM
 rw [kfd_set hn hx hp]
 show (if p=m.k then some m' else kfd Mt.k ms p).map Mt.b=_
 by_cases e:p=m.k
 · rw [if_pos e,e,kfd_at hn hx]
   show some m'.b=some m.b
   rw [hb]
 · rw [if_neg e]
theorem mtM_snoc (hn:((ms++[m]).map Mt.k).Nodup):mtM (ms++[m])=upM (mtM ms) m.k m.b:=by
 funext p
 unfold mtM upM
 rw [kfd_snoc hn]
 show (if p=m.k then some m else kfd Mt.k ms p).map Mt.b=_
 by_cases e:p=m.k
 · rw [if_pos e,if_pos e]; rfl
 · rw [if_neg e,if_neg e]
end
def askB (A:PK) (k:Int) (f:Cho→Bool) (l:List Cho):PK:={ A with asked:=delQ A.asked k fun x=>decide (x∈l.filter f) }
section
variable {A:PK} {j:Nat} {k:Int} {f:Cho→Bool} {l:List Cho} {c:Cho} {bs:List Bk} {i:Nat} {r:Bk}
theorem askB_nil:askB A k f []=A:=by unfold askB; rw [List.filter_nil,delQ_nil]
theorem askB_no (hf:f c=false):askB A k f (l++[c])=askB A k f l:=by
 unfold askB; rw [List.filter_append,List.filter_cons,if_neg (by rw [hf]; decide),List.filter_nil,List.append_nil]
theorem askB_yes (hf:f c=true):askB A k f (l++[c])={ askB A k f l with asked:=delQ (askB A k f l).asked k fun x=>decide (x=c) }:=by
 unfold askB
 rw [List.filter_append,List.filter_cons,if_pos hf,List.filter_nil]
 show ({ A with asked:=_ }:PK)={ A with asked:=_ }
 rw [delQ_snoc]
theorem askB_pki (h:PKI j A):PKI j (askB A k f l):=h.sub (delQ_sub _ _ _)
theorem askB_in (hl:c ∉ l):c ∉ l.filter f:=fun h=>hl (List.mem_filter.1 h).1
theorem askB_has (hc:(k,c)∈A.asked) (hl:c ∉ l):k∈ofL (askB A k f l).asked c:=by
 refine mem_ofL.2 (show (k,c)∈delQ A.asked k (fun x=>decide (x∈l.filter f)) from mem_delQ.2 ⟨hc,fun h=>?_⟩)
 exact askB_in hl (of_decide_eq_true h.2)
theorem one_oth {A:PK} (hn:A.asked.Nodup) {p:Int × Int} (hp:p ≠ c.at):({ A with asked:=delQ A.asked k fun x=>decide (x=c) }:PK).ent p=A.ent p:=
 ent_oth (A:=A) (A':={ A with asked:=delQ A.asked k fun x=>decide (x=c) }) rfl rfl rfl (fun d hd=>⟨Iff.rfl,by
   show ofL (delQ A.asked k fun x=>decide (x=c)) d=_
   rw [ofL_delQ hn,if_neg (by rw [decide_eq_false hd]; decide)]⟩) hp
theorem one_ofL {A:PK} (hn:A.asked.Nodup):ofL (delQ A.asked k fun x=>decide (x=c)) c=(ofL A.asked c).filter fun x=>decide (x ≠ k):=by
 rw [ofL_delQ hn,if_pos (decide_eq_true rfl)]
theorem one_set {A:PK} (hn:A.asked.Nodup) (hc:A.isB c) (h:BOK A bs) (hx:bs[i]?=some r) (hp:r.pl=c.at) (ap:Option Addr) (ac:Nat) (hne:¬ ((r.asked.filter fun x=>decide (x ≠ k))=[]∧r.here=false)) :
   BOK { A with asked:=delQ A.asked k fun x=>decide (x=c) } (bs.set i { r with ap:=ap,ac:=ac,asked:=r.asked.filter fun x=>decide (x ≠ k) }):=by
 obtain ⟨e1,e2⟩:=h.ent hc hx hp
 refine h.set1 hx hp rfl (fun p hp=>one_oth hn hp) ?_
 rw [ent_blk (A:={ A with asked:=delQ A.asked k fun x=>decide (x=c) }) hc,if_neg]
 · show some (decide (c∈A.here),ofL (delQ A.asked k fun x=>decide (x=c)) c)=some (r.here,r.asked.filter fun x=>decide (x ≠ k))
   rw [one_ofL hn,e1,e2]
 · intro hf
   obtain ⟨h1,h2⟩:=freeC_iff.1 hf
   have h2:ofL (delQ A.asked k fun x=>decide (x=c)) c=[]:=h2
   rw [one_ofL hn,← e2] at h2
   exact hne ⟨h2,by rw [e1]; exact decide_eq_false h1⟩
theorem one_erase {A:PK} (hn:A.asked.Nodup) (hc:A.isB c) (h:BOK A bs) (hx:bs[i]?=some r) (hp:r.pl=c.at) (he:(r.asked.filter fun x=>decide (x ≠ k))=[]) (hh:r.here=false) :
   BOK { A with asked:=delQ A.asked k fun x=>decide (x=c) } (bs.eraseIdx i):=by
 obtain ⟨e1,e2⟩:=h.ent hc hx hp
 refine h.erase1 hx hp (fun p hp=>one_oth hn hp) ?_
 rw [ent_blk (A:={ A with asked:=delQ A.asked k fun x=>decide (x=c) }) hc,if_pos]
 refine freeC_iff.2 ⟨?_,?_⟩
 · rw [e1] at hh; exact of_decide_eq_false hh
 · show ofL (delQ A.asked k fun x=>decide (x=c)) c=[]
   rw [one_ofL hn,← e2]; exact he
end
theorem askB_all (A:PK) (k:Int) (f:Cho→Bool):askB A k f (mine A.asked k)={ A with asked:=delQ A.asked k f }:=by
 unfold askB; rw [delQ_all]
theorem XOK.backed {X:XP} {A:PK} {q:Nat} {m:Mt} {k:Int} {f:Cho→Bool} {bs:List Bk} (hX:XOK X A) (hnd:(X.ms.map Mt.k).Nodup) (hm:X.ms[q]?=some m) (hk:m.k=k) (hb:BOK { A with asked:=delQ A.asked k f } bs) (ap:Option Addr) (ac:Nat) :
   XOK { X with ms:=X.ms.set q { m with ap:=ap,ac:=ac,asked:=m.asked.filter fun c=>!f c },bs:=bs } { A with asked:=delQ A.asked k f }:=by
 refine ⟨?_,fun x hx=>?_,hb.bn,hb.bf⟩
 · show (X.ms.set q _).map Mt.pe=A.peers
   exact (map_setK (key:=Mt.pe) hm (show Mt.pe { m with ap:=ap,ac:=ac,asked:=m.asked.filter fun c=>!f c }=Mt.pe m from rfl)).trans hX.ms
 · show x.asked=mine (delQ A.asked k f) x.k
   obtain ⟨i,hi⟩:=List.getElem?_of_mem hx
   have hi:(X.ms.set q { m with ap:=ap,ac:=ac,asked:=m.asked.filter fun c=>!f c })[i]?=some x:=hi
   rw [mine_delQ]
   by_cases e:i=q
   · subst e
     rw [List.getElem?_set_self (List.getElem?_eq_some_iff.1 hm).1] at hi
     cases hi
     show (m.asked.filter fun c=>!f c)=if m.k=k then _ else _
     rw [if_pos hk,hX.ask m (List.mem_of_getElem? hm)]
   · rw [List.getElem?_set_ne (Ne.symm e)] at hi
     have hne:x.k ≠ k:=fun h=>e (key_at hnd hi hm (h.trans hk.symm))
     rw [if_neg hne,hX.ask x (List.mem_of_getElem? hi)]
def delR (al:AL) (i:Int) (rem:List (Int × Nat)):AL:=al.filter fun a=>!(decide (a.2.pc=i) && !(rem.any fun p=>decide (p.1=a.1)))
theorem delR_sub (al:AL) (i:Int) (rem:List (Int × Nat)):(delR al i rem).Sublist al:=List.filter_sublist
theorem delR_all {X:XP} {A:PK} {j:Nat} (hX:XOK X A) (hI:PKI j A) {rem:List (Int × Nat)} (h:∀ p:Int × Nat,p∈rem ↔ okI p.1∧mtM X.ms p.1=some p.2) (i:Int):delR A.asked i rem=A.asked:=by
 unfold delR
 rw [List.filter_eq_self]
 intro a ha
 obtain ⟨⟨p,hp,hk⟩,_⟩:=hI.ak a ha
 have hmem:p.k∈X.ms.map Mt.k:=by rw [hX.ks]; exact List.mem_map.2 ⟨p,hp,rfl⟩
 obtain ⟨m,hm,hmk⟩:=List.mem_map.1 hmem
 obtain ⟨q,hq⟩:=List.getElem?_of_mem hm
 have hnd:(X.ms.map Mt.k).Nodup:=by rw [hX.ks]; exact hI.nd
 have hr:=hI.kr p hp
 have h2:(m.k,m.b)∈rem:=(h _).2 ⟨⟨by show _≤m.k; omega,by show m.k≤_; omega⟩,by unfold mtM; rw [kfd_at hnd hq]; rfl⟩
 have h3:rem.any (fun p=>decide (p.1=a.1))=true:=List.any_eq_true.2 ⟨_,h2,decide_eq_true (by show m.k=a.1; rw [hmk,hk])⟩
 rw [h3]; simp
theorem delR_step {M:Int→Option Nat} {al:AL} {i:Int} {rem rem':List (Int × Nat)} {p:Int × Nat} (hsub:∀ z∈rem,M z.1=some z.2) (hp:p∈rem) (hm:∀ q,q∈rem' ↔ q∈rem∧q ≠ p):delQ (delR al i rem) p.1 (fun c=>decide (c.pc=i))=delR al i rem':=by
 unfold delQ delR
 rw [List.filter_filter]
 refine List.filter_congr fun a _=>?_
 by_cases hpc:a.2.pc=i
 · by_cases hk:a.1=p.1
   · have h1:rem'.any (fun q=>decide (q.1=a.1))=false:=by
       rw [List.any_eq_false]
       intro z hz hd
       have hz1:=(hm z).1 hz
       have hd:=of_decide_eq_true hd
       have e1:=hsub z hz1.1
       have e2:=hsub p hp
       rw [hd,hk,e2] at e1
       exact hz1.2 (Prod.ext (hd.trans hk) (Option.some.inj e1).symm)
     rw [h1]; simp [hpc,hk]
   · have h1:rem'.any (fun q=>decide (q.1=a.1))=rem.any (fun q=>decide (q.1=a.1)):=by
       rw [Bool.eq_iff_iff,List.any_eq_true,List.any_eq_true]
       constructor
       · rintro ⟨z,hz,hd⟩; exact ⟨z,((hm z).1 hz).1,hd⟩
       · rintro ⟨z,hz,hd⟩
         exact ⟨z,(hm z).2 ⟨hz,fun e=>hk (by rw [← of_decide_eq_true hd,e])⟩,hd⟩
     rw [h1]; simp [hpc,hk]
 · simp [hpc]
theorem delR_nil (al:AL) (i:Int):delR al i []=al.filter fun a=>decide (a.2.pc ≠ i):=by
 unfold delR
 refine List.filter_congr fun a _=>?_
 by_cases h:a.2.pc=i <;> simp [h]
theorem del_blk {A:PK} {bs:List Bk} {c:Cho} {w:World} {L:List Item} {g:Nat} (hb:BOK A bs) (hc:A.isB c) (hno:ofL A.asked c=[]) (H:S w (Mp plK ptV okP g (delM (bkM bs) c.at) :: Lst BkI bs :: L)) :
   ∃ b3,BOK { A with here:=A.here.filter fun x=>decide (x ≠ c) } b3∧S w (Mp plK ptV okP g (bkM b3) :: Lst BkI b3 :: L):=by
 have hoth:∀ p,p ≠ c.at→({ A with here:=A.here.filter fun x=>decide (x ≠ c) }:PK).ent p=A.ent p:=fun p hp =>
   ent_oth (A:=A) (A':={ A with here:=A.here.filter fun x=>decide (x ≠ c) }) rfl rfl rfl (fun d hd=>⟨by
     show d∈A.here.filter (fun x=>decide (x ≠ c)) ↔ _
     rw [List.mem_filter]; exact ⟨fun h=>h.1,fun h=>⟨h,decide_eq_true hd⟩⟩,rfl⟩) hp
 have hnew:({ A with here:=A.here.filter fun x=>decide (x ≠ c) }:PK).ent c.at=none:=by
   rw [ent_blk (A:={ A with here:=A.here.filter fun x=>decide (x ≠ c) }) hc,if_pos]
   refine freeC_iff.2 ⟨fun h=>?_,hno⟩
   have h:c∈A.here.filter (fun x=>decide (x ≠ c)):=h
   have:=(List.mem_filter.1 h).2
   simp at this
 cases hq:kfd Bk.pl bs c.at with
 | none =>
   have e:delM (bkM bs) c.at=bkM bs:=by
     funext p
     unfold delM
     by_cases hp:p=c.at
     · rw [if_pos hp,hp]; unfold bkM; rw [hq]; rfl
     · rw [if_neg hp]
   rw [e] at H
   refine ⟨bs,⟨hb.bn,fun p=>?_⟩,H⟩
   by_cases hp:p=c.at
   · rw [hp,hq,hnew]; rfl
   · rw [hb.bf p,hoth p hp]
 | some r =>
   obtain ⟨i,hi,hk⟩:=kfd_some hq
   refine ⟨bs.eraseIdx i,hb.erase1 hi hk hoth hnew,?_⟩
   rw [bkM_erase hb.bn hi,hk]
   have h1:S w (Lst BkI bs :: Mp plK ptV okP g (delM (bkM bs) c.at) :: L):=H.perm (List.Perm.swap ..)
   exact (((S.lstOut (F:=BkI) h1 hi).sublist (List.sublist_cons_self ..)).perm (List.Perm.swap ..))
def hereN (A:PK) (l:List Cho):PK:={ A with here:=A.here.filter fun x=>decide (x ∉ l) }
theorem hereN_nil (A:PK):hereN A []=A:=by
 unfold hereN
 have:(A.here.filter fun x=>decide (x ∉ ([]:List Cho)))=A.here:=List.filter_eq_self.2 fun _ _=>by simp
 rw [this]
theorem hereN_snoc (A:PK) (l:List Cho) (c:Cho):hereN A (l++[c])={ hereN A l with here:=(hereN A l).here.filter fun x=>decide (x ≠ c) }:=by
 unfold hereN
 show ({ A with here:=_ }:PK)={ A with here:=_ }
 rw [List.filter_filter]
 congr 1
 refine List.filter_congr fun x _=>?_
 by_cases h1:x∈l <;> by_cases h2:x=c <;> simp [h1,h2]
theorem hereN_all {A:PK} {j:Nat} (hI:PKI j A) (i:Int):A.here.filter (fun x=>decide (x ∉ A.blocks i))=A.here.filter fun c=>decide (c.pc ≠ i):=by
 refine List.filter_congr fun c hc=>?_
 obtain ⟨hB,_⟩:=hI.hb c hc
 by_cases h:c.pc=i
 · subst h
   simp [hB.2.2]
 · have:c ∉ A.blocks i:=fun h2=>h (mem_blocks_pc h2)
   simp [h,this]
end Go.Proofs.YthmmfhdpkddniaaGreatDoor
namespace Go.Proofs.YthmmfhdpkddniaaGreatDoor
open Go.ChangeShapes Go.WideShapes Go.ChangeAt Go.RowKit
abbrev Sub (w w':World):Prop:=Below w.heap.size w w'
section
variable {H:Type} {enc:TypeId × Value→H}
theorem own:ownKnob Tryz.prog.godebug=none:=by kernel_rfl
theorem laidOut:laidOutB Tryz.prog=true:=by kernel_rfl
theorem trodAll_below {W W':World} (hs:Sub W W'):∀ {ts:List TypeId} {vs:List Value} {ds:List (DataW H)} {ps:List MemPlace},
   (∀ t∈ts,Tryz.prog.readableRec t=true∧t<Tryz.prog.types.size)→DataW.TrodAll enc Tryz.prog W 0 (fun _=>true) true ts vs ds ps→(∀ x∈ps,x.block<W.heap.size) →
   DataW.TrodAll enc Tryz.prog W' 0 (fun b=>decide (b<W.heap.size)) true ts vs ds ps
 | [],[],[],_,_,h,_=>h
 | t :: ts,v :: vs,d :: ds,_,ht,⟨p,q,h1,h2,e⟩,hlt =>
   ⟨p,q,Below.trod laidOut (ht t (List.mem_cons_self ..)).1 (ht t (List.mem_cons_self ..)).2 h1 hs (fun x hx=>hlt x (by rw [e]; exact List.mem_append_left _ hx)),
     trodAll_below hs (fun t' ht'=>ht t' (List.mem_cons_of_mem _ ht')) h2 (fun x hx=>hlt x (by rw [e]; exact List.mem_append_right _ hx)),e⟩
theorem law_post {f:Func} {s:ChangeSpec} {W W':World} {args:Array Value} {ds gs:List (DataW H)} {before:List MemPlace}
   (hW:DataW.Whole enc Tryz.prog f.params.toList s.vars false W args.toList ds gs before) (hv0:s.vars=[])
   (hres:(s.fn H (ds++gs)).results=[.lit (.bool true)]) (hargs:(s.fn H (ds++gs)).args=ds) (hvs:(s.fn H (ds++gs)).vars=[])
   (hrt:f.resultTypes=#[4]) (hread:∀ t∈f.params.toList,Tryz.prog.readableRec t=true∧t<Tryz.prog.types.size) (hs:Sub W W') :
   s.post enc Tryz.prog f false true false false W args (.bool true) W':=by
 have hW':=hW
 obtain ⟨p,q,hA0,hV,rfl,hfz,hnd⟩:=hW
 rw [hv0] at hV
 obtain ⟨rfl,rfl⟩:=trodVars_none hV
 simp only [List.append_nil] at *
 refine ⟨ds,[],p,[],p,[],by simpa using hW',?_,?_,?_,Below.frame hs _,fun h=>by cases h⟩
 · simp only [List.append_nil,hres,hrt]
   exact trodAll_mk1 (shut_bool Tryz.underlying4 true)
 · simp only [List.append_nil,hargs]
   exact trodAll_below hs hread hA0 (fun x hx=>by simpa using hW'.lt x hx)
 · simp only [List.append_nil,hvs,hv0]; rfl
end
end Go.Proofs.YthmmfhdpkddniaaGreatDoor
namespace Go.Proofs.YthmmfhdpkddniaaGreatDoor
open Go.RowKit
end Go.Proofs.YthmmfhdpkddniaaGreatDoor
namespace Go.Proofs.YthmmfhdpkddniaaGreatDoor
open Go.ChangeShapes Go.WideShapes Go.ChangeAt Go.RowKit Go.Joins Go.Deep
section
variable {H:Type} {enc:TypeId × Value→H} {P:Program} {w:World} {base:Nat} {spare:Nat→Bool} {held:Bool}
end
end Go.Proofs.YthmmfhdpkddniaaGreatDoor
