import Derived.Test.YthmmfhdpkddniaaGreatDoorYa
set_option maxRecDepth 20000
set_option maxHeartbeats 4000000
set_option linter.all false
namespace Go.Proofs.YthmmfhdpkddniaaGreatDoor
open Go.RowKit
structure OX (g:Nat) (X:XP) (A:PK) (j:Nat):Prop where
 at_:X.g=g
 ok:di X A
 inv:bQ j A
structure OZ (g:Nat) (Z:ZP) (A:PK) (j:Nat):Prop where
 at_:Z.g=g
 ok:fU Z A
 inv:bQ j A
def Ay (i:Int):Int:=if i=-2 then -1 else i
theorem Cm (i:Int):Ay i ≠ -2:=by unfold Ay; split <;> omega
theorem uK {A:PK} {k i:Int}:A.boE k (Ay i)=A.boE k i:=by
 unfold Ay
 split
 · rename_i h
   subst h
   unfold PK.boE
   rw [if_pos (.inr (.inl (by decide))),if_pos (.inr (.inl (by decide)))]
 · rfl
theorem Co {A:PK} {k i:Int} (h:A.boE k i=0):Ay i=i:=if_neg (by have:=(fQ h).2; omega)
theorem Ic {A:PK} {k i:Int} {b:Bool}:A.setA k (Ay i) b=A.setA k i b:=by
 unfold PK.setA
 rw [uK]
 by_cases h:A.boE k i=0
 · rw [if_pos h,if_pos h,Co h]
 · rw [if_neg h,if_neg h]
theorem CY {A:PK} {k i:Int}:A.allowA k (Ay i)=A.allowA k i:=by
 unfold PK.allowA
 rw [uK]
 by_cases h:A.boE k i=0
 · rw [if_pos h,if_pos h,Co h]
 · rw [if_neg h,if_neg h]
theorem Fz {A:PK} {k i:Int}:A.suggA k (Ay i)=A.suggA k i:=by
 unfold PK.suggA
 rw [uK]
 by_cases h:A.boE k i=0
 · rw [if_pos h,if_pos h,Co h]
 · rw [if_neg h,if_neg h]
theorem G9 {g j:Nat} {X:XP} {A:PK} (h:OX g X A j) (k:Int) (hj:j≤90000) (w:World) (HS:S w [(XI X A)]):Calls Tryz.prog 12 #[vP g,vI k] w fun e w'=>∃ Y:XP,OX g Y (A.joinA k) (j+1)∧e=.returned (vI (A.joinE k))∧S w' ([(XI Y (A.joinA k))]++[aB w (aT [(XI X A)])]):=by
 obtain ⟨rfl,hX,hI⟩:=h
 have h9:=Ol X A j hX hI k  w HS
 refine h9.mono ?_
 rintro e w' ⟨Y,hg,hY,he⟩
 exact ⟨Y,⟨hg,hY,(hI.join k).mono⟩,he⟩
theorem Oj {g j:Nat} {Z:ZP} {A:PK} (h:OZ g Z A j) (k:Int) (hj:j≤90000) (w:World) (HS:S w [(ZI Z A)]):Calls Tryz.prog 61 #[vP g,vI k] w fun e w'=>∃ Y:ZP,OZ g Y (A.joinA k) (j+1)∧e=.returned (vI (A.joinE k))∧S w' ([(ZI Y (A.joinA k))]++[aB w (aT [(ZI Z A)])]):=by
 obtain ⟨rfl,hZ,hI⟩:=h
 have h9:=Om Z A j hZ hI k  w HS
 refine h9.mono ?_
 rintro e w' ⟨Y,hg,hY,he⟩
 exact ⟨Y,⟨hg,hY,(hI.join k).mono⟩,he⟩
theorem Kt {g j:Nat} {X:XP} {A:PK} (h:OX g X A j) (k:Int) (hj:j≤90000) (w:World) (HS:S w [(XI X A)]):Calls Tryz.prog 28 #[vP g,vI k] w fun e w'=>∃ Y:XP,OX g Y (A.leaveA k) (j+1)∧∃ p' c',e=.returned (.tuple #[.slice p' (A.leaveL k).length c',vI (A.peE k)])∧S w' ([Rw 44 3 p' (A.leaveL k).length c' (fl aO (A.leaveL k)),(XI Y (A.leaveA k))]++[aB w (aT [(XI X A)])]):=by
 obtain ⟨rfl,hX,hI⟩:=h
 have h9:=Kq X A j hX hI k (by omega) w HS
 refine h9.mono ?_
 rintro e w' ⟨Y,hg,hY,he⟩
 exact ⟨Y,⟨hg,hY,(hI.leave k).mono⟩,he⟩
theorem Kp {g j:Nat} {Z:ZP} {A:PK} (h:OZ g Z A j) (k:Int) (hj:j≤90000) (w:World) (HS:S w [(ZI Z A)]):Calls Tryz.prog 62 #[vP g,vI k] w fun e w'=>∃ Y:ZP,OZ g Y (A.leaveA k) (j+1)∧∃ p' c',e=.returned (.tuple #[.slice p' (A.leaveL k).length c',vI (A.peE k)])∧S w' ([Rw 44 3 p' (A.leaveL k).length c' (fl aO (A.leaveL k)),(ZI Y (A.leaveA k))]++[aB w (aT [(ZI Z A)])]):=by
 obtain ⟨rfl,hZ,hI⟩:=h
 have h9:=Kr Z A j hZ hI k (by omega) w HS
 refine h9.mono ?_
 rintro e w' ⟨Y,hg,hY,he⟩
 exact ⟨Y,⟨hg,hY,(hI.leave k).mono⟩,he⟩
theorem Hf {g j:Nat} {X:XP} {A:PK} (h:OX g X A j) (k:Int) (s:ByteArray) (hj:j≤90000) (w:World) (HS:S w [(XI X A)]):Calls Tryz.prog 13 #[vP g,vI k,.string s] w fun e w'=>∃ Y:XP,OX g Y (A.hasFA k s) (j+1)∧e=.returned (vI (A.hasFE k s))∧S w' ([(XI Y (A.hasFA k s))]++[aB w (aT [(XI X A)])]):=by
 obtain ⟨rfl,hX,hI⟩:=h
 have h9:=OD X A j hX hI k s  w HS
 refine h9.mono ?_
 rintro e w' ⟨Y,hg,hY,he⟩
 exact ⟨Y,⟨hg,hY,(hI.hasF k s).mono⟩,he⟩
theorem OC {g j:Nat} {Z:ZP} {A:PK} (h:OZ g Z A j) (k:Int) (s:ByteArray) (hj:j≤90000) (w:World) (HS:S w [(ZI Z A)]):Calls Tryz.prog 63 #[vP g,vI k,.string s] w fun e w'=>∃ Y:ZP,OZ g Y (A.hasFA k s) (j+1)∧e=.returned (vI (A.hasFE k s))∧S w' ([(ZI Y (A.hasFA k s))]++[aB w (aT [(ZI Z A)])]):=by
 obtain ⟨rfl,hZ,hI⟩:=h
 have h9:=OE Z A j hZ hI k s  w HS
 refine h9.mono ?_
 rintro e w' ⟨Y,hg,hY,he⟩
 exact ⟨Y,⟨hg,hY,(hI.hasF k s).mono⟩,he⟩
theorem OB {g j:Nat} {X:XP} {A:PK} (h:OX g X A j) (k:Int) (i:Int) (hj:j≤90000) (w:World) (HS:S w [(XI X A)]):Calls Tryz.prog 64 #[vP g,vI k,vI i] w fun e w'=>∃ Y:XP,OX g Y (A.setA k i true) (j+1)∧e=.returned (vI (A.boE k i))∧S w' ([(XI Y (A.setA k i true))]++[aB w (aT [(XI X A)])]):=by
 obtain ⟨rfl,hX,hI⟩:=h
 have h9:=Oz X A j hX hI k i  w HS
 refine h9.mono ?_
 rintro e w' ⟨Y,hg,hY,he⟩
 exact ⟨Y,⟨hg,hY,(hI.set k i true).mono⟩,he⟩
theorem N9 {g j:Nat} {X:XP} {A:PK} (h:OX g X A j) (k:Int) (i:Int) (hj:j≤90000) (w:World) (HS:S w [(XI X A)]):Calls Tryz.prog 67 #[vP g,vI k,vI i] w fun e w'=>∃ Y:XP,OX g Y (A.setA k i false) (j+1)∧e=.returned (vI (A.boE k i))∧S w' ([(XI Y (A.setA k i false))]++[aB w (aT [(XI X A)])]):=by
 obtain ⟨rfl,hX,hI⟩:=h
 have h9:=N8 X A j hX hI k i  w HS
 refine h9.mono ?_
 rintro e w' ⟨Y,hg,hY,he⟩
 exact ⟨Y,⟨hg,hY,(hI.set k i false).mono⟩,he⟩
theorem He {g j:Nat} {Z:ZP} {A:PK} (h:OZ g Z A j) (k:Int) (i:Int) (b:Bool) (hj:j≤90000) (w:World) (HS:S w [(ZI Z A)]):Calls Tryz.prog 65 #[vP g,vI k,vI (Ay i),.bool b] w fun e w'=>∃ Y:ZP,OZ g Y (A.setA k i b) (j+1)∧e=.returned (vI (A.boE k i))∧S w' ([(ZI Y (A.setA k i b))]++[aB w (aT [(ZI Z A)])]):=by
 obtain ⟨rfl,hZ,hI⟩:=h
 have h9:=OA Z A j hZ hI k (Ay i) b (Cm i) w HS
 rw [uK,Ic] at h9
 refine h9.mono ?_
 rintro e w' ⟨Y,hg,hY,he⟩
 exact ⟨Y,⟨hg,hY,(hI.set k i b).mono⟩,he⟩
theorem EG {g j:Nat} {X:XP} {A:PK} (h:OX g X A j) (k:Int) (ch:Bool) (kp:Bool) (hj:j≤90000) (w:World) (HS:S w [(XI X A)]):Calls Tryz.prog 14 #[vP g,vI k,.bool ch,.bool kp] w fun e w'=>∃ Y:XP,OX g Y (A.chokeA k ch kp) (j+1)∧∃ p' c',e=.returned (.tuple #[.slice p' (A.chokeL k ch kp).length c',vI (A.peE k)])∧S w' ([Rw 44 3 p' (A.chokeL k ch kp).length c' (fl aO (A.chokeL k ch kp)),(XI Y (A.chokeA k ch kp))]++[aB w (aT [(XI X A)])]):=by
 obtain ⟨rfl,hX,hI⟩:=h
 have h9:=Ll X A j hX hI k ch kp (by omega) w HS
 refine h9.mono ?_
 rintro e w' ⟨Y,hg,hY,he⟩
 exact ⟨Y,⟨hg,hY,(hI.choke k ch kp).mono⟩,he⟩
theorem Lk {g j:Nat} {Z:ZP} {A:PK} (h:OZ g Z A j) (k:Int) (ch:Bool) (kp:Bool) (hj:j≤90000) (w:World) (HS:S w [(ZI Z A)]):Calls Tryz.prog 68 #[vP g,vI k,.bool ch,.bool kp] w fun e w'=>∃ Y:ZP,OZ g Y (A.chokeA k ch kp) (j+1)∧∃ p' c',e=.returned (.tuple #[.slice p' (A.chokeL k ch kp).length c',vI (A.peE k)])∧S w' ([Rw 44 3 p' (A.chokeL k ch kp).length c' (fl aO (A.chokeL k ch kp)),(ZI Y (A.chokeA k ch kp))]++[aB w (aT [(ZI Z A)])]):=by
 obtain ⟨rfl,hZ,hI⟩:=h
 have h9:=Lo Z A j hZ hI k ch kp (by omega) w HS
 refine h9.mono ?_
 rintro e w' ⟨Y,hg,hY,he⟩
 exact ⟨Y,⟨hg,hY,(hI.choke k ch kp).mono⟩,he⟩
theorem Mc {g j:Nat} {X:XP} {A:PK} (h:OX g X A j) (k:Int) (i:Int) (hj:j≤90000) (w:World) (HS:S w [(XI X A)]):Calls Tryz.prog 69 #[vP g,vI k,vI i] w fun e w'=>∃ Y:XP,OX g Y (A.allowA k i) (j+1)∧e=.returned (vI (A.boE k i))∧S w' ([(XI Y (A.allowA k i))]++[aB w (aT [(XI X A)])]):=by
 obtain ⟨rfl,hX,hI⟩:=h
 have h9:=Ma X A j hX hI k i  w HS
 refine h9.mono ?_
 rintro e w' ⟨Y,hg,hY,he⟩
 exact ⟨Y,⟨hg,hY,(hI.allow k i).mono⟩,he⟩
theorem L_ {g j:Nat} {Z:ZP} {A:PK} (h:OZ g Z A j) (k:Int) (i:Int) (hj:j≤90000) (w:World) (HS:S w [(ZI Z A)]):Calls Tryz.prog 70 #[vP g,vI k,vI (Ay i)] w fun e w'=>∃ Y:ZP,OZ g Y (A.allowA k i) (j+1)∧e=.returned (vI (A.boE k i))∧S w' ([(ZI Y (A.allowA k i))]++[aB w (aT [(ZI Z A)])]):=by
 obtain ⟨rfl,hZ,hI⟩:=h
 have h9:=Mb Z A j hZ hI k (Ay i) (Cm i) w HS
 rw [uK,CY] at h9
 refine h9.mono ?_
 rintro e w' ⟨Y,hg,hY,he⟩
 exact ⟨Y,⟨hg,hY,(hI.allow k i).mono⟩,he⟩
theorem Ng {g j:Nat} {X:XP} {A:PK} (h:OX g X A j) (k:Int) (i:Int) (hj:j≤90000) (w:World) (HS:S w [(XI X A)]):Calls Tryz.prog 71 #[vP g,vI k,vI i] w fun e w'=>∃ Y:XP,OX g Y (A.suggA k i) (j+1)∧e=.returned (vI (A.boE k i))∧S w' ([(XI Y (A.suggA k i))]++[aB w (aT [(XI X A)])]):=by
 obtain ⟨rfl,hX,hI⟩:=h
 have h9:=Fb X A j hX hI k i  w HS
 refine h9.mono ?_
 rintro e w' ⟨Y,hg,hY,he⟩
 exact ⟨Y,⟨hg,hY,(hI.sugg k i).mono⟩,he⟩
theorem Nf {g j:Nat} {Z:ZP} {A:PK} (h:OZ g Z A j) (k:Int) (i:Int) (hj:j≤90000) (w:World) (HS:S w [(ZI Z A)]):Calls Tryz.prog 72 #[vP g,vI k,vI (Ay i)] w fun e w'=>∃ Y:ZP,OZ g Y (A.suggA k i) (j+1)∧e=.returned (vI (A.boE k i))∧S w' ([(ZI Y (A.suggA k i))]++[aB w (aT [(ZI Z A)])]):=by
 obtain ⟨rfl,hZ,hI⟩:=h
 have h9:=Fe Z A j hZ hI k (Ay i) (Cm i) w HS
 rw [uK,Fz] at h9
 refine h9.mono ?_
 rintro e w' ⟨Y,hg,hY,he⟩
 exact ⟨Y,⟨hg,hY,(hI.sugg k i).mono⟩,he⟩
theorem Nm {g j:Nat} {X:XP} {A:PK} (h:OX g X A j) (k:Int) (b:Bool) (hj:j≤90000) (w:World) (HS:S w [(XI X A)]):Calls Tryz.prog 73 #[vP g,vI k,.bool b] w fun e w'=>∃ Y:XP,OX g Y (A.snubA k b) (j+1)∧e=.returned (vI (A.peE k))∧S w' ([(XI Y (A.snubA k b))]++[aB w (aT [(XI X A)])]):=by
 obtain ⟨rfl,hX,hI⟩:=h
 have h9:=Nk X A j hX hI k b  w HS
 refine h9.mono ?_
 rintro e w' ⟨Y,hg,hY,he⟩
 exact ⟨Y,⟨hg,hY,(hI.snub k b).mono⟩,he⟩
theorem Nj {g j:Nat} {Z:ZP} {A:PK} (h:OZ g Z A j) (k:Int) (b:Bool) (hj:j≤90000) (w:World) (HS:S w [(ZI Z A)]):Calls Tryz.prog 74 #[vP g,vI k,.bool b] w fun e w'=>∃ Y:ZP,OZ g Y (A.snubA k b) (j+1)∧e=.returned (vI (A.peE k))∧S w' ([(ZI Y (A.snubA k b))]++[aB w (aT [(ZI Z A)])]):=by
 obtain ⟨rfl,hZ,hI⟩:=h
 have h9:=Nl Z A j hZ hI k b  w HS
 refine h9.mono ?_
 rintro e w' ⟨Y,hg,hY,he⟩
 exact ⟨Y,⟨hg,hY,(hI.snub k b).mono⟩,he⟩
theorem M6 {g j:Nat} {X:XP} {A:PK} (h:OX g X A j) (i:Int) (x:o_) (hj:j≤90000) (w:World) (HS:S w [(XI X A)]):Calls Tryz.prog 15 #[vP g,vI i,.agg #[vI x.lv,vI x.du]] w fun e w'=>∃ Y:XP,OX g Y (A.wishA i x) (j+1)∧e=.returned (vI (A.wishE i x))∧S w' ([(XI Y (A.wishA i x))]++[aB w (aT [(XI X A)])]):=by
 obtain ⟨rfl,hX,hI⟩:=h
 have h9:=M4 X A j hX hI i x  w HS
 refine h9.mono ?_
 rintro e w' ⟨Y,hg,hY,he⟩
 exact ⟨Y,⟨hg,hY,(hI.wish i x).mono⟩,he⟩
theorem MZ {g j:Nat} {Z:ZP} {A:PK} (h:OZ g Z A j) (i:Int) (x:o_) (hj:j≤90000) (w:World) (HS:S w [(ZI Z A)]):Calls Tryz.prog 16 #[vP g,vI i,.agg #[vI x.lv,vI x.du]] w fun e w'=>∃ Y:ZP,OZ g Y (A.wishA i x) (j+1)∧e=.returned (vI (A.wishE i x))∧S w' ([(ZI Y (A.wishA i x))]++[aB w (aT [(ZI Z A)])]):=by
 obtain ⟨rfl,hZ,hI⟩:=h
 have h9:=M5 Z A j hZ hI i x  w HS
 refine h9.mono ?_
 rintro e w' ⟨Y,hg,hY,he⟩
 exact ⟨Y,⟨hg,hY,(hI.wish i x).mono⟩,he⟩
theorem G3 {g j:Nat} {X:XP} {A:PK} (h:OX g X A j) (k:Int) (most:Int) (hj:j≤90000) (hmo:cO most) (w:World) (HS:S w [(XI X A)]):Calls Tryz.prog 17 #[vP g,vI k,vI most] w fun e w'=>∃ Y:XP,OX g Y (A.nextA k most) (j+1)∧∃ p' c',e=.returned (.tuple #[.slice p' (A.lookV k most).length c',vI (A.lookE k most)])∧S w' ([Rw 44 3 p' (A.lookV k most).length c' (fl aO (A.lookV k most)),(XI Y (A.nextA k most))]++[aB w (aT [(XI X A)])]):=by
 obtain ⟨rfl,hX,hI⟩:=h
 have h9:=NW X A j hX hI k most hmo (by omega) w HS
 refine h9.mono ?_
 rintro e w' ⟨Y,hg,hY,he⟩
 exact ⟨Y,⟨hg,hY,hI.next k most⟩,he⟩
theorem NV {g j:Nat} {Z:ZP} {A:PK} (h:OZ g Z A j) (k:Int) (most:Int) (hj:j≤90000) (hmo:cO most) (w:World) (HS:S w [(ZI Z A)]):Calls Tryz.prog 75 #[vP g,vI k,vI most] w fun e w'=>∃ Y:ZP,OZ g Y (A.nextA k most) (j+1)∧∃ p' c',e=.returned (.tuple #[.slice p' (A.lookV k most).length c',vI (A.lookE k most)])∧S w' ([Rw 44 3 p' (A.lookV k most).length c' (fl aO (A.lookV k most)),(ZI Y (A.nextA k most))]++[aB w (aT [(ZI Z A)])]):=by
 obtain ⟨rfl,hZ,hI⟩:=h
 have h9:=NX Z A j hZ hI k most hmo (by omega) w HS
 refine h9.mono ?_
 rintro e w' ⟨Y,hg,hY,he⟩
 exact ⟨Y,⟨hg,hY,hI.next k most⟩,he⟩
theorem Oy {g j:Nat} {X:XP} {A:PK} (h:OX g X A j) (k:Int) (c:aV) (hj:j≤90000) (w:World) (HS:S w [(XI X A)]):Calls Tryz.prog 18 #[vP g,vI k,.agg #[vI c.pc,vI c.bg,vI c.ln]] w fun e w'=>∃ Y:XP,OX g Y (A.hereA k c) (j+1)∧∃ p' c',e=.returned (.tuple #[.slice p' (A.hereL k c).length c',.bool (A.hereW k c),vI (A.hereE k c)])∧S w' ([Rw 110 4 p' (A.hereL k c).length c' (fl askL (A.hereL k c)),(XI Y (A.hereA k c))]++[aB w (aT [(XI X A)])]):=by
 obtain ⟨rfl,hX,hI⟩:=h
 have h9:=Ow X A j hX hI k c (by omega) w HS
 refine h9.mono ?_
 rintro e w' ⟨Y,hg,hY,he⟩
 exact ⟨Y,⟨hg,hY,hI.here k c⟩,he⟩
theorem Ov {g j:Nat} {Z:ZP} {A:PK} (h:OZ g Z A j) (k:Int) (c:aV) (hj:j≤90000) (w:World) (HS:S w [(ZI Z A)]):Calls Tryz.prog 77 #[vP g,vI k,.agg #[vI c.pc,vI c.bg,vI c.ln]] w fun e w'=>∃ Y:ZP,OZ g Y (A.hereA k c) (j+1)∧∃ p' c',e=.returned (.tuple #[.slice p' (A.hereL k c).length c',.bool (A.hereW k c),vI (A.hereE k c)])∧S w' ([Rw 110 4 p' (A.hereL k c).length c' (fl askL (A.hereL k c)),(ZI Y (A.hereA k c))]++[aB w (aT [(ZI Z A)])]):=by
 obtain ⟨rfl,hZ,hI⟩:=h
 have h9:=Ox Z A j hZ hI k c (by omega) w HS
 refine h9.mono ?_
 rintro e w' ⟨Y,hg,hY,he⟩
 exact ⟨Y,⟨hg,hY,hI.here k c⟩,he⟩
theorem Qp {g j:Nat} {X:XP} {A:PK} (h:OX g X A j) (k:Int) (c:aV) (hj:j≤90000) (w:World) (HS:S w [(XI X A)]):Calls Tryz.prog 79 #[vP g,vI k,.agg #[vI c.pc,vI c.bg,vI c.ln]] w fun e w'=>∃ Y:XP,OX g Y (A.rejA k c) (j+1)∧e=.returned (vI (A.rejE k c))∧S w' ([(XI Y (A.rejA k c))]++[aB w (aT [(XI X A)])]):=by
 obtain ⟨rfl,hX,hI⟩:=h
 have h9:=Qn X A j hX hI k c (by omega) w HS
 refine h9.mono ?_
 rintro e w' ⟨Y,hg,hY,he⟩
 exact ⟨Y,⟨hg,hY,(hI.rej k c).mono⟩,he⟩
theorem Qm {g j:Nat} {Z:ZP} {A:PK} (h:OZ g Z A j) (k:Int) (c:aV) (hj:j≤90000) (w:World) (HS:S w [(ZI Z A)]):Calls Tryz.prog 80 #[vP g,vI k,.agg #[vI c.pc,vI c.bg,vI c.ln]] w fun e w'=>∃ Y:ZP,OZ g Y (A.rejA k c) (j+1)∧e=.returned (vI (A.rejE k c))∧S w' ([(ZI Y (A.rejA k c))]++[aB w (aT [(ZI Z A)])]):=by
 obtain ⟨rfl,hZ,hI⟩:=h
 have h9:=Qo Z A j hZ hI k c (by omega) w HS
 refine h9.mono ?_
 rintro e w' ⟨Y,hg,hY,he⟩
 exact ⟨Y,⟨hg,hY,(hI.rej k c).mono⟩,he⟩
theorem O5 {g j:Nat} {X:XP} {A:PK} (h:OX g X A j) (i:Int) (b:Bool) (hj:j≤90000) (w:World) (HS:S w [(XI X A)]):Calls Tryz.prog 19 #[vP g,vI i,.bool b] w fun e w'=>∃ Y:XP,OX g Y (A.doneA i b) (j+1)∧e=.returned (vI (A.doneE i))∧S w' ([(XI Y (A.doneA i b))]++[aB w (aT [(XI X A)])]):=by
 obtain ⟨rfl,hX,hI⟩:=h
 have h9:=O3 X A j hX hI i b (by omega) w HS
 refine h9.mono ?_
 rintro e w' ⟨Y,hg,hY,he⟩
 exact ⟨Y,⟨hg,hY,(hI.done i b).mono⟩,he⟩
theorem O2 {g j:Nat} {Z:ZP} {A:PK} (h:OZ g Z A j) (i:Int) (b:Bool) (hj:j≤90000) (w:World) (HS:S w [(ZI Z A)]):Calls Tryz.prog 81 #[vP g,vI i,.bool b] w fun e w'=>∃ Y:ZP,OZ g Y (A.doneA i b) (j+1)∧e=.returned (vI (A.doneE i))∧S w' ([(ZI Y (A.doneA i b))]++[aB w (aT [(ZI Z A)])]):=by
 obtain ⟨rfl,hZ,hI⟩:=h
 have h9:=O4 Z A j hZ hI i b (by omega) w HS
 refine h9.mono ?_
 rintro e w' ⟨Y,hg,hY,he⟩
 exact ⟨Y,⟨hg,hY,(hI.done i b).mono⟩,he⟩
theorem Nv {g j:Nat} {X:XP} {A:PK} (h:OX g X A j) (i:Int) (b:Bool) (hj:j≤90000) (w:World) (HS:S w [(XI X A)]):Calls Tryz.prog 82 #[vP g,vI i,.bool b] w fun e w'=>∃ Y:XP,OX g Y (A.setHA i b) (j+1)∧e=.returned (vI (A.inE i))∧S w' ([(XI Y (A.setHA i b))]++[aB w (aT [(XI X A)])]):=by
 obtain ⟨rfl,hX,hI⟩:=h
 have h9:=Nt X A j hX hI i b (by omega) w HS
 refine h9.mono ?_
 rintro e w' ⟨Y,hg,hY,he⟩
 exact ⟨Y,⟨hg,hY,(hI.setH i b).mono⟩,he⟩
theorem Ns {g j:Nat} {Z:ZP} {A:PK} (h:OZ g Z A j) (i:Int) (b:Bool) (hj:j≤90000) (w:World) (HS:S w [(ZI Z A)]):Calls Tryz.prog 83 #[vP g,vI i,.bool b] w fun e w'=>∃ Y:ZP,OZ g Y (A.setHA i b) (j+1)∧e=.returned (vI (A.inE i))∧S w' ([(ZI Y (A.setHA i b))]++[aB w (aT [(ZI Z A)])]):=by
 obtain ⟨rfl,hZ,hI⟩:=h
 have h9:=Nu Z A j hZ hI i b (by omega) w HS
 refine h9.mono ?_
 rintro e w' ⟨Y,hg,hY,he⟩
 exact ⟨Y,⟨hg,hY,(hI.setH i b).mono⟩,he⟩
theorem Oa {g j:Nat} {X:XP} {A:PK} (h:OX g X A j) (k:Int) (most:Int) (hj:j≤90000) (hmo:cO most) (w:World) (HS:S w [(XI X A)]):Calls Tryz.prog 46 #[.pointer (some ⟨g,0,none⟩),.int .i64 k,.int .i64 most] w fun e w'=>∃ p' c',e=.returned (.tuple #[.slice p' (A.lookV k most).length c',.int .i64 (A.lookE k most)])∧S w' ([Rw 44 3 p' (A.lookV k most).length c' (fl aO (A.lookV k most)),(XI X A)]++[aB w (aT [(XI X A)])]):=by
 obtain ⟨rfl,hX,hI⟩:=h
 exact G7 X A j hX hI k most hmo (by omega) w HS
theorem QA {g j:Nat} {X:XP} {A:PK} (h:OX g X A j)  (hj:j≤90000) (w:World) (HS:S w [(XI X A)]):Calls Tryz.prog 20 #[.pointer (some ⟨g,0,none⟩)] w fun e w'=>e=.returned (.string (fieldS A.had))∧S w' ([(XI X A)]++[aB w (aT [(XI X A)])]):=by
 obtain ⟨rfl,hX,hI⟩:=h
 exact Qy X A j hX hI   w HS
theorem Qx {g j:Nat} {Z:ZP} {A:PK} (h:OZ g Z A j)  (hj:j≤90000) (w:World) (HS:S w [(ZI Z A)]):Calls Tryz.prog 88 #[.pointer (some ⟨g,0,none⟩)] w fun e w'=>e=.returned (.string (fieldS A.had))∧S w' ([(ZI Z A)]++[aB w (aT [(ZI Z A)])]):=by
 obtain ⟨rfl,hZ,hI⟩:=h
 exact Qz Z A j hZ hI   w HS
theorem IV {g j:Nat} {X:XP} {A:PK} (h:OX g X A j)  (hj:j≤90000) (w:World) (HS:S w [(XI X A)]):Calls Tryz.prog 23 #[.pointer (some ⟨g,0,none⟩)] w fun e w'=>e=.returned (.bool A.endB)∧S w' ([(XI X A)]++[aB w (aT [(XI X A)])]):=by
 obtain ⟨rfl,hX,hI⟩:=h
 exact Jt X A j hX hI   w HS
theorem IU {g j:Nat} {Z:ZP} {A:PK} (h:OZ g Z A j)  (hj:j≤90000) (w:World) (HS:S w [(ZI Z A)]):Calls Tryz.prog 89 #[.pointer (some ⟨g,0,none⟩)] w fun e w'=>e=.returned (.bool A.endB)∧S w' ([(ZI Z A)]++[aB w (aT [(ZI Z A)])]):=by
 obtain ⟨rfl,hZ,hI⟩:=h
 exact BB Z A j hZ hI  (by omega) w HS
theorem Oh {g j:Nat} {X:XP} {A:PK} (h:OX g X A j)  (hj:j≤90000) (w:World) (HS:S w [(XI X A)]):Calls Tryz.prog 22 #[.pointer (some ⟨g,0,none⟩)] w fun e w'=>e=.returned (.int .i64 (A.leftN:Int))∧S w' ([(XI X A)]++[aB w (aT [(XI X A)])]):=by
 obtain ⟨rfl,hX,hI⟩:=h
 exact Oe X A j hX hI   w HS
theorem Od {g j:Nat} {Z:ZP} {A:PK} (h:OZ g Z A j)  (hj:j≤90000) (w:World) (HS:S w [(ZI Z A)]):Calls Tryz.prog 90 #[.pointer (some ⟨g,0,none⟩)] w fun e w'=>e=.returned (.int .i64 (A.leftN:Int))∧S w' ([(ZI Z A)]++[aB w (aT [(ZI Z A)])]):=by
 obtain ⟨rfl,hZ,hI⟩:=h
 exact Og Z A j hZ hI  (by omega) w HS
theorem Le {g j:Nat} {X:XP} {A:PK} (h:OX g X A j) (i:Int) (hj:j≤90000) (w:World) (HS:S w [(XI X A)]):Calls Tryz.prog 91 #[.pointer (some ⟨g,0,none⟩),.int .i64 i] w fun e w'=>e=.returned (.tuple #[.int .i64 (A.cntV i),.int .i64 (A.inE i)])∧S w' ([(XI X A)]++[aB w (aT [(XI X A)])]):=by
 obtain ⟨rfl,hX,hI⟩:=h
 exact Md X A j hX hI i  w HS
theorem Ld {g j:Nat} {Z:ZP} {A:PK} (h:OZ g Z A j) (i:Int) (hj:j≤90000) (w:World) (HS:S w [(ZI Z A)]):Calls Tryz.prog 92 #[.pointer (some ⟨g,0,none⟩),.int .i64 i] w fun e w'=>e=.returned (.tuple #[.int .i64 (A.cntV i),.int .i64 (A.inE i)])∧S w' ([(ZI Z A)]++[aB w (aT [(ZI Z A)])]):=by
 obtain ⟨rfl,hZ,hI⟩:=h
 exact EC Z A j hZ hI i  w HS
theorem OM {g j:Nat} {X:XP} {A:PK} (h:OX g X A j) (i:Int) (hj:j≤90000) (w:World) (HS:S w [(XI X A)]):Calls Tryz.prog 27 #[.pointer (some ⟨g,0,none⟩),.int .i64 i] w fun e w'=>∃ p' c',e=.returned (.tuple #[.slice p' (A.freeV i).length c',.int .i64 (A.inE i)])∧S w' ([Rw 44 3 p' (A.freeV i).length c' (fl aO (A.freeV i)),(XI X A)]++[aB w (aT [(XI X A)])]):=by
 obtain ⟨rfl,hX,hI⟩:=h
 exact OJ X A j hX hI i  w HS
theorem OI {g j:Nat} {Z:ZP} {A:PK} (h:OZ g Z A j) (i:Int) (hj:j≤90000) (w:World) (HS:S w [(ZI Z A)]):Calls Tryz.prog 93 #[.pointer (some ⟨g,0,none⟩),.int .i64 i] w fun e w'=>∃ p' c',e=.returned (.tuple #[.slice p' (A.freeV i).length c',.int .i64 (A.inE i)])∧S w' ([Rw 44 3 p' (A.freeV i).length c' (fl aO (A.freeV i)),(ZI Z A)]++[aB w (aT [(ZI Z A)])]):=by
 obtain ⟨rfl,hZ,hI⟩:=h
 exact Es Z A j hZ hI i (by omega) w HS
theorem KD {g j:Nat} {X:XP} {A:PK} (h:OX g X A j) (k:Int) (hj:j≤90000) (w:World) (HS:S w [(XI X A)]):Calls Tryz.prog 94 #[.pointer (some ⟨g,0,none⟩),.int .i64 k] w fun e w'=>e=.returned (.tuple #[.bool (A.intB k),.int .i64 (A.peE k)])∧S w' ([(XI X A)]++[aB w (aT [(XI X A)])]):=by
 obtain ⟨rfl,hX,hI⟩:=h
 exact Ap X A j hX hI k  w HS
theorem KB {g j:Nat} {Z:ZP} {A:PK} (h:OZ g Z A j) (k:Int) (hj:j≤90000) (w:World) (HS:S w [(ZI Z A)]):Calls Tryz.prog 95 #[.pointer (some ⟨g,0,none⟩),.int .i64 k] w fun e w'=>e=.returned (.tuple #[.bool (A.intB k),.int .i64 (A.peE k)])∧S w' ([(ZI Z A)]++[aB w (aT [(ZI Z A)])]):=by
 obtain ⟨rfl,hZ,hI⟩:=h
 exact KC Z A j hZ hI k  w HS
theorem LV {g j:Nat} {X:XP} {A:PK} (h:OX g X A j) (k:Int) (hj:j≤90000) (hko:cO k) (w:World) (HS:S w [(XI X A)]):Calls Tryz.prog 25 #[.pointer (some ⟨g,0,none⟩),.int .i64 k] w fun e w'=>∃ p' c',e=.returned (.slice p' (bO A.asked k).length c')∧S w' ([Rw 44 3 p' (bO A.asked k).length c' (fl aO (bO A.asked k)),(XI X A)]++[aB w (aT [(XI X A)])]):=by
 obtain ⟨rfl,hX,hI⟩:=h
 exact LU X A j hX hI k hko (by omega) w HS
theorem EP {g j:Nat} {Z:ZP} {A:PK} (h:OZ g Z A j) (k:Int) (hj:j≤90000) (w:World) (HS:S w [(ZI Z A)]):Calls Tryz.prog 96 #[.pointer (some ⟨g,0,none⟩),.int .i64 k] w fun e w'=>∃ p' c',e=.returned (.slice p' (bO A.asked k).length c')∧S w' ([Rw 44 3 p' (bO A.asked k).length c' (fl aO (bO A.asked k)),(ZI Z A)]++[aB w (aT [(ZI Z A)])]):=by
 obtain ⟨rfl,hZ,hI⟩:=h
 exact qP Z A j hZ hI k (by omega) w HS
theorem Kb {g j:Nat} {Z:ZP} {A:PK} (h:OZ g Z A j)  (hj:j≤90000) (w:World) (HS:S w [(ZI Z A)]):Calls Tryz.prog 26 #[.pointer (some ⟨g,0,none⟩)] w fun e w'=>∃ p' c',e=.returned (.slice p' (A.peers.map fV.k).length c')∧S w' ([Rw 3 1 p' (A.peers.map fV.k).length c' (fl cg (A.peers.map fV.k)),(ZI Z A)]++[aB w (aT [(ZI Z A)])]):=by
 obtain ⟨rfl,hZ,hI⟩:=h
 exact Kc Z A j hZ hI   w HS
theorem vF (i:Int)  (w:World):Calls Tryz.prog 66 #[vI i] w fun e w'=>e=.returned (vI (Ay i))∧S w' [aB w no]:=by
 have H0:=S.old w
 refine en Tryz.func66 ?_
 refine ah [0] ?_
 refine dz ?_
 by_cases H2:(i:Int)=-2
 ·
  refine bm H2 ?_
  refine aQ ?_
  refine af ?_
  have he:Ay i=-1:=if_pos H2
  exact ⟨by rw [he]; rfl,H0.tk [0]⟩
 refine br H2 ?_
 refine cp ?_
 refine af ?_
 have he:Ay i=i:=if_neg H2
 exact ⟨by rw [he]; rfl,H0.tk [0]⟩
theorem RH:Tryz.prog.eqGuardType Tryz.prog.depth 110=false:=by kernel_rfl
theorem LQ {xo yo:Operand} {w:World} (a:Int × aV):iM Tryz.prog .neq 110 xo yo (.agg #[.int .i64 a.1,.int .i64 a.2.pc,.int .i64 a.2.bg,.int .i64 a.2.ln]) (.agg #[.int .i64 a.1,.int .i64 a.2.pc,.int .i64 a.2.bg,.int .i64 a.2.ln]) w (.bool false):=by
 unfold iM
 simp only [Sem.run_bind,run_eqGuard_agg w .neq 110 xo yo _ _ RH,Result.andThen_ok]
 simp [go_sem]
theorem lz (l:List aV) (hl:l.length≤1099511627776) (p:Option Addr) (c:Nat) (q:Option Addr) (d:Nat)  (w:World) (hr:bz w p l.length c 3 (fl aO l)) (hq:bz w q l.length d 3 (fl aO l)):Calls Tryz.prog 29 #[.slice p l.length c,.slice q l.length d] w fun e w'=>e=.returned (.bool true)∧S w' [aB w no]:=by
 have H0:=S.old w
 refine en Tryz.func29 ?_
 refine ah [0,1] ?_
 refine eG ?_
 refine bP (v:=.bool (!decide (((l.length:Int):Int)=(l.length:Int)))) (hb:=eh) ?_
 refine cD ?_
 refine kw rfl ?_
 refine eG ?_
 refine cQ (ι:=Nat) (fun i=>[(0,.slice p l.length c),(1,.slice q l.length d),(12,vI l.length),(13,vI i)]) (fun i wx=>(i≤l.length)∧S wx [aB w no]) (fun i=>l.length - i) (0) ⟨Nat.zero_le _,H0⟩ ?_
 rintro i H7 ⟨hi,H2⟩
 refine ah [0,1,12,13] ?_
 refine aC ?_
 refine g_seq ?_
 by_cases H4:((i:Int):Int)<(l.length:Int)
 ·
  refine bm H4 ?_
  refine dz ?_
  refine g_seq ?_
  refine oP (by kernel_rfl) (by kernel_rfl) H2 ?_
  iterate 2 refine kJ (fun _ _=>xm) ?_
  refine kJ (fun _ _=>eZ i ((H2.exReads (k:=0) rfl hr (fun _ _ _ h=>h)).some (by omega))) ?_
  obtain ⟨x4,H3⟩:=(H2.exReads (k:=0) rfl hr (fun _ _ _ h=>h)).exL cN i
  refine kJ (v:=.agg #[vI x4.pc,vI x4.bg,vI x4.ln]) (fun _ H=>bc (vs:=aO x4) i (H.exReads (k:=0) rfl hr (fun _ _ _ h=>h)) (by omega) rfl rfl Tryz.underlying44 rfl dE (by rfl) (cN.flAt H3)) ?_
  iterate 2 refine kJ (fun _ _=>xm) ?_
  refine kJ (fun _ _=>eZ i ((H2.exReads (k:=0) rfl hq (fun _ _ _ h=>h)).some (by omega))) ?_
  refine kJ (v:=.agg #[vI x4.pc,vI x4.bg,vI x4.ln]) (fun _ H=>bc (vs:=aO x4) i (H.exReads (k:=0) rfl hq (fun _ _ _ h=>h)) (by omega) rfl rfl Tryz.underlying44 rfl dE (by rfl) (cN.flAt H3)) ?_
  refine kJ (v:=.bool (!decide (x4=x4))) (fun _ _=>ai rfl rfl rfl (Hr x4 x4)) ?_
  refine tG (fun H5 H6=>?_)
  refine aR ?_
  refine kw rfl ?_
  refine aC ?_
  refine ah [0,1,12,13] ?_
  refine aR ?_
  refine gI i ?_
  refine ae ?_
  refine bD (i:=(i)) ((i+1)) ⟨by omega,H6⟩
 refine br H4 ?_
 refine eG ?_
 refine af ?_
 exact ⟨rfl,H2.tk [0]⟩
theorem Jo (l:List (Int × aV)) (hl:l.length≤1099511627776) (p:Option Addr) (c:Nat) (q:Option Addr) (d:Nat)  (w:World) (hr:bz w p l.length c 4 (fl askL l)) (hq:bz w q l.length d 4 (fl askL l)):Calls Tryz.prog 78 #[.slice p l.length c,.slice q l.length d] w fun e w'=>e=.returned (.bool true)∧S w' [aB w no]:=by
 have H0:=S.old w
 refine en Tryz.func78 ?_
 refine ah [0,1] ?_
 refine eG ?_
 refine bP (v:=.bool (!decide (((l.length:Int):Int)=(l.length:Int)))) (hb:=eh) ?_
 refine cD ?_
 refine kw rfl ?_
 refine eG ?_
 refine cQ (ι:=Nat) (fun i=>[(0,.slice p l.length c),(1,.slice q l.length d),(12,vI l.length),(13,vI i)]) (fun i wx=>(i≤l.length)∧S wx [aB w no]) (fun i=>l.length - i) (0) ⟨Nat.zero_le _,H0⟩ ?_
 rintro i H7 ⟨hi,H2⟩
 refine ah [0,1,12,13] ?_
 refine aC ?_
 refine g_seq ?_
 by_cases H4:((i:Int):Int)<(l.length:Int)
 ·
  refine bm H4 ?_
  refine dz ?_
  refine g_seq ?_
  refine oP (by kernel_rfl) (by kernel_rfl) H2 ?_
  iterate 2 refine kJ (fun _ _=>xm) ?_
  refine kJ (fun _ _=>eZ i ((H2.exReads (k:=0) rfl hr (fun _ _ _ h=>h)).some (by omega))) ?_
  obtain ⟨x4,H3⟩:=(H2.exReads (k:=0) rfl hr (fun _ _ _ h=>h)).exL lC i
  refine kJ (v:=.agg #[vI x4.1,vI x4.2.pc,vI x4.2.bg,vI x4.2.ln]) (fun _ H=>bc (vs:=askL x4) i (H.exReads (k:=0) rfl hr (fun _ _ _ h=>h)) (by omega) rfl rfl Tryz.underlying110 rfl Mn (by rfl) (lC.flAt H3)) ?_
  iterate 2 refine kJ (fun _ _=>xm) ?_
  refine kJ (fun _ _=>eZ i ((H2.exReads (k:=0) rfl hq (fun _ _ _ h=>h)).some (by omega))) ?_
  refine kJ (v:=.agg #[vI x4.1,vI x4.2.pc,vI x4.2.bg,vI x4.2.ln]) (fun _ H=>bc (vs:=askL x4) i (H.exReads (k:=0) rfl hq (fun _ _ _ h=>h)) (by omega) rfl rfl Tryz.underlying110 rfl Mn (by rfl) (lC.flAt H3)) ?_
  refine kJ (v:=.bool false) (fun _ _=>ai rfl rfl rfl (LQ x4)) ?_
  refine tG (fun H5 H6=>?_)
  refine aR ?_
  refine g_cond_f rfl rfl ?_
  refine aC ?_
  refine ah [0,1,12,13] ?_
  refine aR ?_
  refine gI i ?_
  refine ae ?_
  refine bD (i:=(i)) ((i+1)) ⟨by omega,H6⟩
 refine br H4 ?_
 refine eG ?_
 refine af ?_
 exact ⟨rfl,H2.tk [0]⟩
end Go.Proofs.YthmmfhdpkddniaaGreatDoor
