import Derived.Test.YthmmfhdpkddniaaGreatDoorXz
import Derived.Test.YthmmfhdpkddniaaGreatDoorOp
set_option linter.unusedSimpArgs false
set_option linter.unusedVariables false
namespace Go.Proofs.YthmmfhdpkddniaaGreatDoor
open Go.RowKit
structure Cpd {α κ ν:Type} (key:α→κ) (val:α→ν) (b:α→Nat) (ms ys:List α) (rem:List (κ × Nat)):Prop where
 nd:(ys.map key).Nodup
 fw:∀ y∈ys,∃ m∈ms,key y=key m∧val y=val m∧(key m,b m) ∉ rem
 bw:∀ m∈ms,(key m,b m)∈rem∨∃ y∈ys,key y=key m∧val y=val m
section
variable {α κ ν:Type} {key:α→κ} {val:α→ν} {b:α→Nat} {ms ys:List α} {rem rem':List (κ × Nat)}
theorem Cpd.step (h:Cpd key val b ms ys rem) (hn:(ms.map key).Nodup) {p:κ × Nat} (hp:p∈rem) (hr:∀ q,q∈rem' ↔ q∈rem∧q ≠ p) {i:Nat} {m y:α} (hm:ms[i]?=some m) (hk:key m=p.1) (hb:b m=p.2) (h1:key y=key m) (h2:val y=val m):Cpd key val b ms (ys++[y]) rem':=by
 have hpe:(key m,b m)=p:=Prod.ext hk hb
 have same:∀ m'∈ms,key m'=key m→m'=m:=fun m' hm' e=>by
   obtain ⟨q,hq⟩:=List.getElem?_of_mem hm'
   have:=key_at hn hq hm e
   subst this
   exact Option.some.inj (hq.symm.trans hm)
 refine ⟨?_,fun z hz=>?_,fun m' hm'=>?_⟩
 · rw [List.map_append,List.nodup_append]
   refine ⟨h.nd,by simp,fun a ha c hc e=>?_⟩
   obtain ⟨z,hz,rfl⟩:=List.mem_map.1 ha
   simp at hc
   subst hc
   obtain ⟨m',hm',e1,_,e3⟩:=h.fw z hz
   have:=same m' hm' (e1.symm.trans (e.trans h1))
   subst this
   exact e3 (by rw [hpe]; exact hp)
 · rcases List.mem_append.1 hz with hz | hz
   · obtain ⟨m',hm',e1,e2,e3⟩:=h.fw z hz
     exact ⟨m',hm',e1,e2,fun h4=>e3 ((hr _).1 h4).1⟩
   · rw [List.mem_singleton] at hz
     subst hz
     exact ⟨m,List.mem_of_getElem? hm,h1,h2,fun h4=>((hr _).1 h4).2 hpe⟩
 · by_cases e:key m'=key m
   · have:=same m' hm' e
     subst this
     exact .inr ⟨y,by simp,h1,h2⟩
   · rcases h.bw m' hm' with h3 | ⟨z,hz,e1,e2⟩
     · refine .inl ((hr _).2 ⟨h3,fun h4=>e ?_⟩)
       rw [← hpe] at h4
       exact congrArg Prod.fst h4
     · exact .inr ⟨z,List.mem_append_left _ hz,e1,e2⟩
theorem Cpd.kfd [DecidableEq κ] (h:Cpd key val b ms ys []) (hn:(ms.map key).Nodup) (p:κ):(kfd key ys p).map val=(Go.Proofs.YthmmfhdpkddniaaGreatDoor.kfd key ms p).map val:=by
 cases hq:Go.Proofs.YthmmfhdpkddniaaGreatDoor.kfd key ms p with
 | none =>
   have h1:=kfd_none hq
   rw [kfd_no fun y hy e=>by
     obtain ⟨m,hm,e1,_⟩:=h.fw y hy
     exact h1 m hm (e1.symm.trans e)]
 | some m =>
   obtain ⟨i,hi,hk⟩:=kfd_some hq
   rcases h.bw m (List.mem_of_getElem? hi) with h3 | ⟨z,hz,e1,e2⟩
   · cases h3
   · obtain ⟨q,hq2⟩:=List.getElem?_of_mem hz
     have h4:=kfd_at h.nd hq2
     rw [e1,hk] at h4
     rw [h4]
     exact congrArg some e2
end
structure OX (g:Nat) (X:XP) (A:PK) (j:Nat):Prop where
 at_:X.g=g
 ok:XOK X A
 inv:PKI j A
structure OZ (g:Nat) (Z:ZP) (A:PK) (j:Nat):Prop where
 at_:Z.g=g
 ok:ZOK Z A
 inv:PKI j A
def pcv (i:Int):Int:=if i=-2 then -1 else i
theorem join_p {g j:Nat} {X:XP} {A:PK} (h:OX g X A j) (k:Int) (hj:j≤90000) (w:World) (HS:S w [(XI X A)]):Calls Tryz.prog 12 #[.pointer (some ⟨g,0,none⟩),.int .i64 k] w fun e w'=>∃ Y:XP,OX g Y (A.joinA k) (j+1)∧e=.returned (.int .i64 (A.joinE k))∧S w' ([(XI Y (A.joinA k))]++[Old w (fps [(XI X A)])]):=by
 obtain ⟨rfl,hX,hI⟩:=h
 have h9:=join_x X A j hX hI k  w HS
 refine h9.mono ?_
 rintro e w' ⟨Y,hg,hY,he⟩
 exact ⟨Y,⟨hg,hY,(hI.join k).mono⟩,he⟩
theorem hasF_p {g j:Nat} {X:XP} {A:PK} (h:OX g X A j) (k:Int) (s:ByteArray) (hj:j≤90000) (w:World) (HS:S w [(XI X A)]):Calls Tryz.prog 13 #[.pointer (some ⟨g,0,none⟩),.int .i64 k,.string s] w fun e w'=>∃ Y:XP,OX g Y (A.hasFA k s) (j+1)∧e=.returned (.int .i64 (A.hasFE k s))∧S w' ([(XI Y (A.hasFA k s))]++[Old w (fps [(XI X A)])]):=by
 obtain ⟨rfl,hX,hI⟩:=h
 have h9:=hasF_x X A j hX hI k s  w HS
 refine h9.mono ?_
 rintro e w' ⟨Y,hg,hY,he⟩
 exact ⟨Y,⟨hg,hY,(hI.hasF k s).mono⟩,he⟩
theorem choke_p {g j:Nat} {X:XP} {A:PK} (h:OX g X A j) (k:Int) (ch:Bool) (kp:Bool) (hj:j≤90000) (w:World) (HS:S w [(XI X A)]):Calls Tryz.prog 14 #[.pointer (some ⟨g,0,none⟩),.int .i64 k,.bool ch,.bool kp] w fun e w'=>∃ Y:XP,OX g Y (A.chokeA k ch kp) (j+1)∧∃ p' c',e=.returned (.tuple #[.slice p' (A.chokeL k ch kp).length c',.int .i64 (A.peE k)])∧S w' ([Rw 44 3 p' (A.chokeL k ch kp).length c' (fl choL (A.chokeL k ch kp)),(XI Y (A.chokeA k ch kp))]++[Old w (fps [(XI X A)])]):=by
 obtain ⟨rfl,hX,hI⟩:=h
 have h9:=choke_x X A j hX hI k ch kp (by omega) w HS
 refine h9.mono ?_
 rintro e w' ⟨Y,hg,hY,he⟩
 exact ⟨Y,⟨hg,hY,(hI.choke k ch kp).mono⟩,he⟩
theorem wish_p {g j:Nat} {X:XP} {A:PK} (h:OX g X A j) (i:Int) (x:Wis) (hj:j≤90000) (w:World) (HS:S w [(XI X A)]):Calls Tryz.prog 15 #[.pointer (some ⟨g,0,none⟩),.int .i64 i,.agg #[.int .i64 (x.lv),.int .i64 (x.du)]] w fun e w'=>∃ Y:XP,OX g Y (A.wishA i x) (j+1)∧e=.returned (.int .i64 (A.wishE i x))∧S w' ([(XI Y (A.wishA i x))]++[Old w (fps [(XI X A)])]):=by
 obtain ⟨rfl,hX,hI⟩:=h
 have h9:=wish_x X A j hX hI i x  w HS
 refine h9.mono ?_
 rintro e w' ⟨Y,hg,hY,he⟩
 exact ⟨Y,⟨hg,hY,(hI.wish i x).mono⟩,he⟩
theorem wish_z {g j:Nat} {Z:ZP} {A:PK} (h:OZ g Z A j) (i:Int) (x:Wis) (hj:j≤90000) (w:World) (HS:S w [(ZI Z A)]):Calls Tryz.prog 16 #[.pointer (some ⟨g,0,none⟩),.int .i64 i,.agg #[.int .i64 (x.lv),.int .i64 (x.du)]] w fun e w'=>∃ Y:ZP,OZ g Y (A.wishA i x) (j+1)∧e=.returned (.int .i64 (A.wishE i x))∧S w' ([(ZI Y (A.wishA i x))]++[Old w (fps [(ZI Z A)])]):=by
 obtain ⟨rfl,hZ,hI⟩:=h
 have h9:=wish_r Z A j hZ hI i x  w HS
 refine h9.mono ?_
 rintro e w' ⟨Y,hg,hY,he⟩
 exact ⟨Y,⟨hg,hY,(hI.wish i x).mono⟩,he⟩
theorem next_p {g j:Nat} {X:XP} {A:PK} (h:OX g X A j) (k:Int) (most:Int) (hj:j≤90000) (hmo:okI most) (w:World) (HS:S w [(XI X A)]):Calls Tryz.prog 17 #[.pointer (some ⟨g,0,none⟩),.int .i64 k,.int .i64 most] w fun e w'=>∃ Y:XP,OX g Y (A.nextA k most) (j+1)∧∃ p' c',e=.returned (.tuple #[.slice p' (A.lookV k most).length c',.int .i64 (A.lookE k most)])∧S w' ([Rw 44 3 p' (A.lookV k most).length c' (fl choL (A.lookV k most)),(XI Y (A.nextA k most))]++[Old w (fps [(XI X A)])]):=by
 obtain ⟨rfl,hX,hI⟩:=h
 have h9:=next_x X A j hX hI k most hmo (by omega) w HS
 refine h9.mono ?_
 rintro e w' ⟨Y,hg,hY,he⟩
 exact ⟨Y,⟨hg,hY,hI.next k most⟩,he⟩
theorem here_p {g j:Nat} {X:XP} {A:PK} (h:OX g X A j) (k:Int) (c:Cho) (hj:j≤90000) (w:World) (HS:S w [(XI X A)]):Calls Tryz.prog 18 #[.pointer (some ⟨g,0,none⟩),.int .i64 k,.agg #[.int .i64 (c.pc),.int .i64 (c.bg),.int .i64 (c.ln)]] w fun e w'=>∃ Y:XP,OX g Y (A.hereA k c) (j+1)∧∃ p' c',e=.returned (.tuple #[.slice p' (A.hereL k c).length c',.bool (A.hereW k c),.int .i64 (A.hereE k c)])∧S w' ([Rw 110 4 p' (A.hereL k c).length c' (fl askL (A.hereL k c)),(XI Y (A.hereA k c))]++[Old w (fps [(XI X A)])]):=by
 obtain ⟨rfl,hX,hI⟩:=h
 have h9:=here_x X A j hX hI k c (by omega) w HS
 refine h9.mono ?_
 rintro e w' ⟨Y,hg,hY,he⟩
 exact ⟨Y,⟨hg,hY,hI.here k c⟩,he⟩
theorem done_p {g j:Nat} {X:XP} {A:PK} (h:OX g X A j) (i:Int) (b:Bool) (hj:j≤90000) (w:World) (HS:S w [(XI X A)]):Calls Tryz.prog 19 #[.pointer (some ⟨g,0,none⟩),.int .i64 i,.bool b] w fun e w'=>∃ Y:XP,OX g Y (A.doneA i b) (j+1)∧e=.returned (.int .i64 (A.doneE i))∧S w' ([(XI Y (A.doneA i b))]++[Old w (fps [(XI X A)])]):=by
 obtain ⟨rfl,hX,hI⟩:=h
 have h9:=done_x X A j hX hI i b (by omega) w HS
 refine h9.mono ?_
 rintro e w' ⟨Y,hg,hY,he⟩
 exact ⟨Y,⟨hg,hY,(hI.done i b).mono⟩,he⟩
theorem had_p {g j:Nat} {X:XP} {A:PK} (h:OX g X A j)  (hj:j≤90000) (w:World) (HS:S w [(XI X A)]):Calls Tryz.prog 20 #[.pointer (some ⟨g,0,none⟩)] w fun e w'=>e=.returned (.string (fieldS A.had))∧S w' ([(XI X A)]++[Old w (fps [(XI X A)])]):=by
 obtain ⟨rfl,hX,hI⟩:=h
 exact had_x X A j hX hI   w HS
theorem ending_p {g j:Nat} {X:XP} {A:PK} (h:OX g X A j)  (hj:j≤90000) (w:World) (HS:S w [(XI X A)]):Calls Tryz.prog 23 #[.pointer (some ⟨g,0,none⟩)] w fun e w'=>e=.returned (.bool A.endB)∧S w' ([(XI X A)]++[Old w (fps [(XI X A)])]):=by
 obtain ⟨rfl,hX,hI⟩:=h
 exact Ending_x X A j hX hI   w HS
theorem left_p {g j:Nat} {X:XP} {A:PK} (h:OX g X A j)  (hj:j≤90000) (w:World) (HS:S w [(XI X A)]):Calls Tryz.prog 22 #[.pointer (some ⟨g,0,none⟩)] w fun e w'=>e=.returned (.int .i64 (A.leftN:Int))∧S w' ([(XI X A)]++[Old w (fps [(XI X A)])]):=by
 obtain ⟨rfl,hX,hI⟩:=h
 exact left_x X A j hX hI   w HS
end Go.Proofs.YthmmfhdpkddniaaGreatDoor
