import Derived.Test.YthmmfhdpkddniaaGreatDoorXl
import Derived.Test.YthmmfhdpkddniaaGreatDoorFm
import Derived.Test.YthmmfhdpkddniaaGreatDoorYd
set_option linter.unusedSimpArgs false
set_option linter.unusedVariables false
namespace Go.Proofs.YthmmfhdpkddniaaGreatDoor
open Go.RowKit
structure WhI (A:PK) (want:List Bool) (l:List Cho):Prop where
 pe:∃ p,A.peers=[p]∧p.k=7∧(∀ i:Int,0≤i→i<(A.n:Int)→bitAt p.fld i=true)∧p.un=true∧p.sn=false
 wl:want.length=A.n
 hw:∀ i:Int,0≤i→i<(A.n:Int)→bitAt A.had i=true→bitAt want i=true
 lw:∀ i:Int,0≤i→i<(A.n:Int)→(0<A.lv i ↔ bitAt want i=true)
 nw:∀ i:Int,0≤i→i<(A.n:Int)→bitAt A.had i=false→A.wholeB i=false
 sk:A.asked=l.map fun c=>((7:Int),c)
 ln:l.Nodup
 lk:∀ c∈l,A.isB c∧c ∉ A.here∧bitAt A.had c.pc=false∧0<A.lv c.pc
section
variable {A:PK} {j:Nat} {want:List Bool} {l:List Cho} {c:Cho} {most:Int}
theorem WhI.fnd (h:WhI A want l):∃ p,A.peers=[p]∧fndP A.peers 7=some p∧A.peE 7=0:=by
 obtain ⟨p,h1,h2,_⟩:=h.pe
 have h3:fndP A.peers 7=some p:=by
   rw [h1]
   unfold fndP
   rw [List.find?_cons_of_pos (by rw [h2]; rfl)]
 refine ⟨p,h1,h3,?_⟩
 unfold PK.peE
 rw [if_neg (by decide),h3]
 rfl
theorem WhI.of7 (h:WhI A want l) (c:Cho):ofL A.asked c=if c∈l then [7] else []:=by
 have h1:=ofL_asks (al:=[]) (k:=7) h.ln c
 rw [List.nil_append,← h.sk] at h1
 rw [h1]
 split <;> rfl
theorem WhI.next (h:WhI A want []) (hm:1≤most):A.lookE 7 most=0∧WhI (A.nextA 7 most) want (A.lookV 7 most)∧(A.nextA 7 most).leftN=A.leftN:=by
 obtain ⟨p,h1,h2,h3⟩:=h.fnd
 have h4:A.lookE 7 most=0:=by unfold PK.lookE; rw [if_neg (by omega)]; exact h3
 refine ⟨h4,⟨h.pe,h.wl,h.hw,h.lw,h.nw,?_,lookV_nodup A 7 most,fun c hc=>?_⟩,rfl⟩
 · show A.asked++_=_
   rw [h.sk]; rfl
 · obtain ⟨_,h5,h6,h7,_,_,h8⟩:=lookV_mem hc
   exact ⟨h5,h6,h7,h8⟩
theorem WhI.some (h:WhI A want []) (hm:1≤most) (hl:A.lookV 7 most=[]):A.leftN=0:=by
 refine Classical.byContradiction fun hne=>?_
 have hpos:0<A.leftL.length:=by rw [leftL_len]; omega
 obtain ⟨c,hc⟩:=List.exists_mem_of_length_pos hpos
 obtain ⟨hB,hO,hH⟩:=mem_leftL.1 hc
 obtain ⟨p,h1,h2,h3⟩:=h.fnd
 obtain ⟨p',h1',h7,hf,hu,hs⟩:=h.pe
 obtain rfl:p'=p:=by rw [h1] at h1'; simpa using h1'.symm
 have h4:A.lookE 7 most=0:=by unfold PK.lookE; rw [if_neg (by omega)]; exact h3
 have hfr:A.freeC c=true:=freeC_iff.2 ⟨hH,by rw [h.of7,if_neg List.not_mem_nil]⟩
 have hhd:bitAt A.had c.pc=false:=by
   unfold PK.openB at hO
   simp only [Bool.and_eq_true,Bool.not_eq_eq_eq_not,Bool.not_true] at hO
   exact hO.1
 have hE:A.endB=false:=by
   unfold PK.endB
   rw [List.all_eq_false]
   refine ⟨c.pc,mem_idxs.2 ⟨hB.1,hB.2.1⟩,?_⟩
   rw [hO]
   show ¬ (false || _)=true
   rw [Bool.false_or,Bool.not_eq_true,List.all_eq_false]
   exact ⟨c,hB.2.2,by rw [hfr]; decide⟩
 have hcd:c.pc∈A.cand p':=by
   refine mem_cand.2 ⟨⟨hB.1,hB.2.1⟩,?_⟩
   unfold PK.candB
   rw [hO,hf _ hB.1 hB.2.1,hu]
   rfl
 have hin:c∈(A.cand p').flatMap A.freeL:=List.mem_flatMap.2 ⟨c.pc,hcd,List.mem_filter.2 ⟨hB.2.2,by rw [hhd,hfr]; rfl⟩⟩
 have hv:A.lookV 7 most=((A.cand p').flatMap A.freeL).take most.toNat:=by
   unfold PK.lookV
   rw [if_pos h4,h2]
   show A.lookP p' most=_
   unfold PK.lookP PK.mostV
   rw [hE,hs]
   rfl
 rw [hv] at hl
 have hlen:=congrArg List.length hl
 rw [List.length_take,List.length_nil] at hlen
 have:=List.length_pos_of_mem hin
 omega
theorem WhI.hereE (h:WhI A want (c :: l)):A.hereE 7 c=0∧A.hereL 7 c=[]:=by
 obtain ⟨hB,hH,hD,hL⟩:=h.lk c List.mem_cons_self
 obtain ⟨p,h1,h2,h3⟩:=h.fnd
 have ho:ofL A.asked c=[7]:=by rw [h.of7,if_pos List.mem_cons_self]
 have hb:A.boE 7 c.pc=0:=by
   unfold PK.boE
   rw [if_neg (by have:=hB.1; have:=hB.2.1; omega),h2]
   rfl
 have e:A.hereE 7 c=0:=by
   unfold PK.hereE
   rw [if_neg (by have:=hB.1; omega),if_neg (by rw [hb]; decide),if_neg (by intro h; exact h hB),if_neg (by rw [hD]; rintro (h | h); cases h; exact hH h),if_neg (by rw [ho]; intro h; exact h (by simp))]
 refine ⟨e,?_⟩
 unfold PK.hereL
 rw [if_pos e,ho]
 rfl
theorem WhI.here1 (h:WhI A want (c :: l)):A.hereA 7 c={ A with here:=A.here++[c],asked:=l.map fun c=>((7:Int),c) }:=by
 unfold PK.hereA
 rw [if_pos h.hereE.1]
 have h1:=List.nodup_cons.1 h.ln
 have:dropC A.asked c=l.map fun c=>((7:Int),c):=by
   unfold dropC
   rw [h.sk,List.map_cons,List.filter_cons,if_neg (by simp)]
   rw [List.filter_eq_self]
   intro a ha
   obtain ⟨d,hd,rfl⟩:=List.mem_map.1 ha
   exact decide_eq_true fun e=>h1.1 (e ▸ hd)
 rw [this]
theorem leftN_of {A B:PK} (f:Nat) (h:∀ c,c∈A.leftL ↔ c∈B.leftL):A.leftN=B.leftN:=by
 rw [← leftL_len,← leftL_len]
 exact nodup_len (leftL_nodup A) (leftL_nodup B) h
theorem WhI.here_left (h:WhI A want (c :: l)):A.leftN=(A.hereA 7 c).leftN+1:=by
 obtain ⟨hB,hH,hD,hL⟩:=h.lk c List.mem_cons_self
 rw [h.here1,← leftL_len,← leftL_len]
 have hn:¬ c∈PK.leftL { A with here:=A.here++[c],asked:=l.map fun c=>((7:Int),c) }:=fun hc=>(mem_leftL.1 hc).2.2 (by show c∈A.here++[c]; simp)
 have h2:=nodup_len (m:=c :: PK.leftL { A with here:=A.here++[c],asked:=l.map fun c=>((7:Int),c) }) (leftL_nodup A) (List.nodup_cons.2 ⟨hn,leftL_nodup _⟩) fun d=>?_
 · rw [h2,List.length_cons]
 · rw [List.mem_cons,mem_leftL,mem_leftL]
   show (A.isB d∧A.openB d.pc=true∧d ∉ A.here) ↔ d=c∨(A.isB d∧A.openB d.pc=true∧d ∉ A.here++[c])
   rw [List.mem_append,List.mem_singleton]
   have hO:A.openB c.pc=true:=by unfold PK.openB; rw [hD,decide_eq_true hL]; rfl
   constructor
   · rintro ⟨h1,h2,h3⟩
     by_cases e:d=c
     · exact .inl e
     · exact .inr ⟨h1,h2,fun h4=>h4.elim h3 e⟩
   · rintro (rfl | ⟨h1,h2,h3⟩)
     · exact ⟨hB,hO,hH⟩
     · exact ⟨h1,h2,fun h4=>h3 (.inl h4)⟩
theorem whole_here {A:PK} {i:Int}:A.wholeB i=true ↔ ∀ c∈A.blocks i,c∈A.here:=by
 unfold PK.wholeB
 rw [List.all_eq_true]
 exact ⟨fun h c hc=>of_decide_eq_true (h c hc),fun h c hc=>decide_eq_true (h c hc)⟩
theorem WhI.go (h:WhI A want (c :: l)) (hw:A.hereW 7 c=false):WhI (A.hereA 7 c) want l:=by
 obtain ⟨hB,hH,hD,hL⟩:=h.lk c List.mem_cons_self
 have h1:=List.nodup_cons.1 h.ln
 unfold PK.hereW at hw
 rw [if_pos h.hereE.1] at hw
 rw [h.here1] at hw ⊢
 refine ⟨h.pe,h.wl,h.hw,h.lw,fun i h0 hi hd=>?_,rfl,h1.2,fun d hd=>?_⟩
 · by_cases e:i=c.pc
   · rw [e]; exact hw
   · have h3:=h.nw i h0 hi hd
     rw [← Bool.not_eq_true,whole_here] at h3 ⊢
     intro h4
     refine h3 fun d hdb=>?_
     have h5:=h4 d hdb
     rcases List.mem_append.1 (show d∈A.here++[c] from h5) with h5 | h5
     · exact h5
     · rw [List.mem_singleton] at h5
       subst h5
       exact absurd (mem_blocks_pc hdb).symm e
 · obtain ⟨g1,g2,g3,g4⟩:=h.lk d (List.mem_cons_of_mem _ hd)
   refine ⟨g1,fun hh=>?_,g3,g4⟩
   rcases List.mem_append.1 (show d∈A.here++[c] from hh) with h5 | h5
   · exact g2 h5
   · rw [List.mem_singleton] at h5
     subst h5
     exact h1.1 hd
theorem WhI.done (h:WhI A want (c :: l)) (hI:PKI j A) (hw:A.hereW 7 c=true):(A.hereA 7 c).doneE c.pc=0∧WhI ((A.hereA 7 c).doneA c.pc true) want l∧((A.hereA 7 c).doneA c.pc true).leftN=(A.hereA 7 c).leftN:=by
 obtain ⟨hB,hH,hD,hL⟩:=h.lk c List.mem_cons_self
 have h1:=List.nodup_cons.1 h.ln
 unfold PK.hereW at hw
 rw [if_pos h.hereE.1] at hw
 rw [h.here1] at hw ⊢
 generalize hA':({ A with here:=A.here++[c],asked:=l.map fun c=>((7:Int),c) }:PK)=A' at hw ⊢
 have a1:A'.n=A.n:=by subst hA'; rfl
 have a2:A'.had=A.had:=by subst hA'; rfl
 have a3:A'.here=A.here++[c]:=by subst hA'; rfl
 have a4:A'.asked=l.map fun c=>((7:Int),c):=by subst hA'; rfl
 have a5:∀ i,A'.blocks i=A.blocks i:=fun i=>by subst hA'; rfl
 have a6:∀ i,A'.lv i=A.lv i:=fun i=>by subst hA'; rfl
 have a7:∀ d,A'.isB d ↔ A.isB d:=fun d=>by subst hA'; rfl
 have a8:A'.peers=A.peers:=by subst hA'; rfl
 have e:A'.doneE c.pc=0:=by
   unfold PK.doneE
   rw [if_neg (by rw [a1]; have:=hB.1; have:=hB.2.1; omega),if_neg (by rw [a2,hD,hw]; rintro (h | h) <;> cases h)]
 have hl9:=hI.hadl
 have hlt:c.pc.toNat<A.had.length:=by have:=hB.1; have:=hB.2.1; omega
 have hin:∀ d∈A.blocks c.pc,d∈A.here++[c]:=fun d hd=>by
   have:=whole_here.1 hw d (by rw [a5]; exact hd)
   rwa [a3] at this
 have hne:∀ d∈l,d.pc ≠ c.pc:=fun d hd e9=>by
   obtain ⟨g1,g2,_,_⟩:=h.lk d (List.mem_cons_of_mem _ hd)
   have h5:=hin d (by rw [← e9]; exact g1.2.2)
   rcases List.mem_append.1 h5 with h5 | h5
   · exact g2 h5
   · rw [List.mem_singleton] at h5
     subst h5
     exact h1.1 hd
 have hE2:A'.doneA c.pc true={ A' with here:=(A.here++[c]).filter (fun d=>decide (d.pc ≠ c.pc)),asked:=l.map (fun c=>((7:Int),c)),had:=A.had.set c.pc.toNat true }:=by
   unfold PK.doneA
   rw [if_pos e]
   unfold PK.putA PK.forget
   rw [a2,a3,a4]
   have:(l.map fun c=>((7:Int),c)).filter (fun a=>decide (a.2.pc ≠ c.pc))=l.map fun c=>((7:Int),c):=by
     rw [List.filter_eq_self]
     intro a ha
     obtain ⟨d,hd,rfl⟩:=List.mem_map.1 ha
     exact decide_eq_true (hne d hd)
   rw [this]
 refine ⟨e,?_,?_⟩
 · rw [hE2]
   have hbit:∀ i:Int,0≤i→i<(A.n:Int)→bitAt (A.had.set c.pc.toNat true) i=if i=c.pc then true else bitAt A.had i:=fun i h0 hi=>by
     by_cases e9:i=c.pc
     · rw [if_pos e9,e9,bitAt_same hlt]
     · rw [if_neg e9,bitAt_set (by have:=hB.1; omega)]
   refine ⟨?_,?_,fun i h0 hi hd=>?_,fun i h0 hi=>?_,fun i h0 hi hd=>?_,rfl,h1.2,fun d hd=>?_⟩
   · show ∃ p,A'.peers=[p]∧p.k=7∧(∀ i:Int,0≤i→i<(A'.n:Int)→bitAt p.fld i=true)∧p.un=true∧p.sn=false
     rw [a8,a1]; exact h.pe
   · exact h.wl.trans a1.symm
   · have hi:i<(A.n:Int):=by rw [← a1]; exact hi
     have hd:bitAt (A.had.set c.pc.toNat true) i=true:=hd
     rw [hbit i h0 hi] at hd
     by_cases e9:i=c.pc
     · rw [e9]; exact (h.lw _ hB.1 hB.2.1).1 hL
     · rw [if_neg e9] at hd; exact h.hw i h0 hi hd
   · have hi:i<(A.n:Int):=by rw [← a1]; exact hi
     show 0<A'.lv i ↔ _
     rw [a6]; exact h.lw i h0 hi
   · have hi:i<(A.n:Int):=by rw [← a1]; exact hi
     have hd:bitAt (A.had.set c.pc.toNat true) i=false:=hd
     rw [hbit i h0 hi] at hd
     by_cases e9:i=c.pc
     · rw [if_pos e9] at hd; cases hd
     · rw [if_neg e9] at hd
       have h3:=h.nw i h0 hi hd
       rw [← Bool.not_eq_true,whole_here] at h3 ⊢
       intro h4
       refine h3 fun d hdb=>?_
       have h5:d∈(A.here++[c]).filter (fun d=>decide (d.pc ≠ c.pc)):=h4 d (by show d∈A'.blocks i; rw [a5]; exact hdb)
       rcases List.mem_append.1 (List.mem_filter.1 h5).1 with h5 | h5
       · exact h5
       · rw [List.mem_singleton] at h5
         subst h5
         exact absurd (mem_blocks_pc hdb).symm e9
   · obtain ⟨g1,g2,g3,g4⟩:=h.lk d (List.mem_cons_of_mem _ hd)
     refine ⟨?_,fun hh=>?_,?_,?_⟩
     · show A'.isB d
       rw [a7]; exact g1
     · have h5:=(List.mem_filter.1 (show d∈(A.here++[c]).filter (fun d=>decide (d.pc ≠ c.pc)) from hh)).1
       rcases List.mem_append.1 h5 with h5 | h5
       · exact g2 h5
       · rw [List.mem_singleton] at h5
         subst h5
         exact h1.1 hd
     · show bitAt (A.had.set c.pc.toNat true) d.pc=false
       rw [hbit _ g1.1 g1.2.1,if_neg (hne d hd)]; exact g3
     · show 0<A'.lv d.pc
       rw [a6]; exact g4
 · rw [hE2]
   refine leftN_of 0 fun d=>?_
   rw [mem_leftL,mem_leftL,a7]
   show (A'.isB d∧(!bitAt (A.had.set c.pc.toNat true) d.pc && decide (0<A'.lv d.pc))=true∧d ∉ (A.here++[c]).filter (fun d=>decide (d.pc ≠ c.pc))) ↔ (A.isB d∧(!bitAt A'.had d.pc && decide (0<A'.lv d.pc))=true∧d ∉ A'.here)
   rw [a7,a2,a3]
   constructor
   · rintro ⟨g1,g2,g3⟩
     by_cases e9:d.pc=c.pc
     · rw [e9,bitAt_same hlt] at g2; cases g2
     · rw [bitAt_set (by have:=hB.1; have:=g1.1; omega)] at g2
       exact ⟨g1,g2,fun h4=>g3 (List.mem_filter.2 ⟨h4,decide_eq_true e9⟩)⟩
   · rintro ⟨g1,g2,g3⟩
     have e9:d.pc ≠ c.pc:=fun e9=>g3 (hin d (by rw [← e9]; exact g1.2.2))
     rw [bitAt_set (by have:=hB.1; have:=g1.1; omega)]
     exact ⟨g1,g2,fun h4=>g3 (List.mem_filter.1 h4).1⟩
theorem WhI.end_ (h:WhI A want []) (hI:PKI j A) (h0:A.leftN=0):A.had=want∧A.endB=true:=by
 have hl0:A.leftL=[]:=List.eq_nil_of_length_eq_zero (by rw [leftL_len]; exact h0)
 have hno:∀ i:Int,0≤i→i<(A.n:Int)→A.openB i=false:=fun i hi0 hi=>by
   rw [← Bool.not_eq_true]
   intro hO
   have hd:bitAt A.had i=false:=by
     unfold PK.openB at hO
     simp only [Bool.and_eq_true,Bool.not_eq_eq_eq_not,Bool.not_true] at hO
     exact hO.1
   have hw:=h.nw i hi0 hi hd
   rw [← Bool.not_eq_true,whole_here] at hw
   refine hw fun c hc=>Classical.byContradiction fun hh=>?_
   have hpc:=mem_blocks_pc hc
   subst hpc
   have h5:c∈A.leftL:=mem_leftL.2 ⟨⟨hi0,hi,hc⟩,hO,hh⟩
   rw [hl0] at h5
   cases h5
 have hl9:=hI.hadl
 have hw9:=h.wl
 constructor
 · refine List.ext_getElem (by rw [hl9,hw9]) fun i h1 h2=>?_
   have e1:bitAt A.had (i:Int)=A.had[i]:=by unfold bitAt; rw [Int.toNat_natCast,List.getD_eq_getElem?_getD,List.getElem?_eq_getElem h1]; rfl
   have e2:bitAt want (i:Int)=want[i]:=by unfold bitAt; rw [Int.toNat_natCast,List.getD_eq_getElem?_getD,List.getElem?_eq_getElem h2]; rfl
   have hi:(i:Int)<(A.n:Int):=by omega
   have k1:=h.hw (i:Int) (by omega) hi
   have k2:=h.lw (i:Int) (by omega) hi
   have k3:=hno (i:Int) (by omega) hi
   unfold PK.openB at k3
   rw [e1] at k1 k3
   rw [e2] at k1 k2
   cases h3:A.had[i] with
   | true=>exact (k1 h3).symm
   | false =>
     cases h4:want[i] with
     | false=>rfl
     | true =>
       rw [h3,decide_eq_true (k2.2 h4)] at k3
       cases k3
 · unfold PK.endB
   rw [List.all_eq_true]
   intro i hi
   have hi:=mem_idxs.1 hi
   rw [hno i hi.1 hi.2]
   rfl
end
theorem bitAt_rep {n:Nat} {b:Bool} {i:Int} (h0:0≤i) (h:i<(n:Int)):bitAt (List.replicate n b) i=b:=by
 unfold bitAt
 rw [List.getD_eq_getElem?_getD,List.getElem?_replicate,if_pos (by omega)]
 rfl
theorem bitAt_no {n:Nat} {i:Int}:bitAt (List.replicate n false) i=false:=by
 unfold bitAt
 rw [List.getD_eq_getElem?_getD,List.getElem?_replicate]
 split <;> rfl
def fullP (n:Nat):ByteArray:=fieldS (List.replicate n true)
def whole0 (n pz la:Nat) (sd:ByteArray) (ino:Bool):PK:={ newPK n pz la sd ino with peers:=[⟨7,List.replicate n true,List.replicate n false,List.replicate n false,true,false⟩] }
theorem whole_is {n pz la:Nat} {sd:ByteArray} {ino:Bool} (hn:n≤4096) :
   (newPK n pz la sd ino).joinE 7=0∧((newPK n pz la sd ino).joinA 7).hasFE 7 (fieldS (List.replicate n true))=0∧(((newPK n pz la sd ino).joinA 7).hasFA 7 (fieldS (List.replicate n true))).peE 7=0∧(((newPK n pz la sd ino).joinA 7).hasFA 7 (fieldS (List.replicate n true))).chokeA 7 false false=whole0 n pz la sd ino:=by
 have hl:(List.replicate n true).length=n:=List.length_replicate
 have hv:validF (n:Int) (fieldS (List.replicate n true))=true:=by
   have:=valid_fieldS (List.replicate n true) (by rw [hl]; exact hn)
   rwa [hl] at this
 have ht:truthsS n (fieldS (List.replicate n true))=List.replicate n true:=by
   have:=truths_fieldS (List.replicate n true)
   rwa [hl] at this
 have e1:(newPK n pz la sd ino).joinA 7={ newPK n pz la sd ino with peers:=[⟨7,List.replicate n false,List.replicate n false,List.replicate n false,false,false⟩] }:=rfl
 have e0:((newPK n pz la sd ino).joinA 7).hasFE 7 (fieldS (List.replicate n true))=0:=by
   rw [e1]
   unfold PK.hasFE
   exact (if_pos hv).trans rfl
 have e2:((newPK n pz la sd ino).joinA 7).hasFA 7 (fieldS (List.replicate n true))={ newPK n pz la sd ino with peers:=[⟨7,List.replicate n true,List.replicate n false,List.replicate n false,false,false⟩] }:=by
   unfold PK.hasFA
   rw [if_pos e0,e1]
   show ({ newPK n pz la sd ino with peers:=[⟨7,truthsS n (fieldS (List.replicate n true)),List.replicate n false,List.replicate n false,false,false⟩] }:PK)=_
   rw [ht]
 refine ⟨rfl,e0,by rw [e2]; rfl,by rw [e2]; rfl⟩
section
variable {A:PK} {j:Nat} {want:List Bool}
theorem nowhole (hI:PKI j A) (hh:A.here=[]) (i:Int):A.wholeB i=false:=by
 rw [← Bool.not_eq_true,whole_here]
 intro h
 obtain ⟨c,hc⟩:=List.exists_mem_of_length_pos (show 0<(A.blocks i).length from (blocks_len hI i).1)
 have:=h c hc
 rw [hh] at this
 cases this
theorem whole_start {n pz la:Nat} {sd:ByteArray} {ino:Bool} (hI:PKI j (whole0 n pz la sd ino)):WhI (whole0 n pz la sd ino) (List.replicate n true) []:=by
 refine ⟨⟨_,rfl,rfl,fun i h0 hi=>bitAt_rep h0 hi,rfl,rfl⟩,List.length_replicate,fun i h0 hi h=>?_,fun i h0 hi=>?_,fun i h0 hi _=>nowhole hI rfl i,rfl,List.nodup_nil,fun c hc=>(List.not_mem_nil hc).elim⟩
 · exact bitAt_rep (n:=n) h0 hi
 · rw [bitAt_rep (n:=n) (b:=true) h0 hi]
   have e:(whole0 n pz la sd ino).lv i=4:=by
     unfold PK.lv
     show ((List.replicate n (⟨4,0⟩:Wis)).getD i.toNat ⟨0,0⟩).lv=4
     have hi:i<(n:Int):=hi
     rw [List.getD_eq_getElem?_getD,List.getElem?_replicate,if_pos (by omega)]
     rfl
   rw [e]
   exact ⟨fun _=>rfl,fun _=>by decide⟩
theorem lv_set {A:PK} {q i:Int} {x:Wis} {w:List Wis} (hA:A.wish=w.set q.toNat x) (hq:0≤q) (hw:q.toNat<w.length) (hi:0≤i):A.lv i=if i=q then x.lv else (w.getD i.toNat ⟨0,0⟩).lv:=by
 unfold PK.lv
 rw [hA,List.getD_eq_getElem?_getD,List.getD_eq_getElem?_getD]
 by_cases e:i=q
 · rw [if_pos e,e,List.getElem?_set_self hw]; rfl
 · rw [if_neg e,List.getElem?_set_ne (by omega)]
theorem wishE_in {q:Int} {x:Wis} (he:A.wishE q x=0):0≤q∧q<(A.n:Int):=by
 unfold PK.wishE at he
 split at he
 · cases he
 · omega
theorem WhI.wish (h:WhI A want []) (hI:PKI j A) (hd:∀ i,bitAt A.had i=false) {q:Int} {x:Wis} (he:A.wishE q x=0):WhI (A.wishA q x) (want.set q.toNat (decide (0<x.lv))) []:=by
 have hq:0≤q∧q<(A.n:Int):=by
   unfold PK.wishE at he
   split at he
   · cases he
   · omega
 have e:A.wishA q x={ A with wish:=A.wish.set q.toNat x }:=if_pos he
 have hl:=hI.wishl
 have hw:=h.wl
 rw [e]
 refine ⟨h.pe,by rw [List.length_set]; exact h.wl,fun i h0 hi hb=>?_,fun i h0 hi=>?_,h.nw,h.sk,List.nodup_nil,fun c hc=>(List.not_mem_nil hc).elim⟩
 · have hb:bitAt A.had i=true:=hb
   rw [hd i] at hb
   cases hb
 · have h1:=lv_set (A:={ A with wish:=A.wish.set q.toNat x }) (i:=i) (x:=x) (w:=A.wish) rfl hq.1 (by omega) h0
   rw [h1]
   by_cases e9:i=q
   · rw [if_pos e9,e9,bitAt_same (by omega)]
     exact ⟨fun h=>decide_eq_true h,fun h=>of_decide_eq_true h⟩
   · rw [if_neg e9,bitAt_set (by omega)]
     exact h.lw i h0 hi
theorem wishA_no {q:Int} {x:Wis} (he:¬ A.wishE q x=0):A.wishA q x=A:=if_neg he
theorem wishA_had (A:PK) (q:Int) (x:Wis):(A.wishA q x).had=A.had∧(A.wishA q x).n=A.n:=by
 unfold PK.wishA
 split <;> exact ⟨rfl,rfl⟩
theorem wishE_n {A B:PK} (h:A.n=B.n) (q:Int) (x:Wis):A.wishE q x=B.wishE q x:=by
 unfold PK.wishE
 rw [h]
theorem left_le (hI:PKI j A):A.leftN≤192:=by
 rw [← leftL_len]
 unfold PK.leftL
 have h1:=flat_le (l:=idxs A.n) (f:=fun i=>(A.blocks i).filter fun c=>A.openB i && !decide (c∈A.here)) (b:=8) fun i _=>Nat.le_trans (List.length_filter_le _ _) (blocks_len hI i).2
 have h2:=hI.n24
 rw [idxs_len] at h1
 omega
end
theorem cl8:callable Tryz.prog 8=true:=by kernel_rfl
theorem cl9:callable Tryz.prog 9=true:=by kernel_rfl
theorem sz23:szO Tryz.prog 23=some 5:=by kernel_rfl
def inM (M:Cho→Option Bool) (l:List Cho):Prop:=∀ c,(M c).getD false=decide (c∈l)
abbrev DYf0 (n pz la:Int) (sd:ByteArray) (ino:Bool):Array Value:=#[.int .i64 n,.int .i64 pz,.int .i64 la,.string sd,.bool ino]
end Go.Proofs.YthmmfhdpkddniaaGreatDoor
