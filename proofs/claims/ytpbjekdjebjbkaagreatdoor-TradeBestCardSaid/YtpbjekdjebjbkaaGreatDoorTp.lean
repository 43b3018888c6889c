import Derived.Test.YtpbjekdjebjbkaaGreatDoorTn
set_option linter.unusedSimpArgs false
set_option linter.unusedVariables false
namespace Go.Proofs.YtpbjekdjebjbkaaGreatDoor
open Go.RowKit
set_option maxRecDepth 20000 in
theorem fd_gives_1 : Finds Tryz.prog 92 (.agg #[]) "covey/trade.gives" 112 (.agg #[]) := fun w => by kernel_rfl
set_option maxRecDepth 20000 in
theorem fd_gives_2 : Finds Tryz.prog 93 (.agg #[]) "covey/trade.gives" 199 (.agg #[]) := fun w => by kernel_rfl
set_option maxRecDepth 20000 in
theorem fd_gives_3 : Finds Tryz.prog 94 (.agg #[]) "covey/trade.gives" 201 (.agg #[]) := fun w => by kernel_rfl
set_option maxRecDepth 20000 in
theorem fd_gives_4 : Finds Tryz.prog 95 (.agg #[]) "covey/trade.gives" 203 (.agg #[]) := fun w => by kernel_rfl
set_option maxRecDepth 20000 in
theorem fd_gives_5 : Finds Tryz.prog 96 (.agg #[]) "covey/trade.gives" 208 (.agg #[]) := fun w => by kernel_rfl
set_option maxRecDepth 20000 in
theorem fd_gives_6 (b : Nat) : Finds Tryz.prog 97 (.pointer (some ⟨b, 0, none⟩)) "covey/trade.gives" 213 (.pointer (some ⟨b, 0, none⟩)) := fun w => by kernel_rfl
set_option maxRecDepth 20000 in
theorem fd_gives_7 : Finds Tryz.prog 102 (.agg #[]) "covey/trade.gives" 226 (.agg #[]) := fun w => by kernel_rfl
set_option maxRecDepth 20000 in
theorem fd_behind_1 : Finds Tryz.prog 92 (.agg #[]) "covey/trade.behind" 110 (.agg #[]) := fun w => by kernel_rfl
set_option maxRecDepth 20000 in
theorem fd_behind_2 : Finds Tryz.prog 93 (.agg #[]) "covey/trade.behind" 110 (.agg #[]) := fun w => by kernel_rfl
set_option maxRecDepth 20000 in
theorem fd_behind_3 : Finds Tryz.prog 94 (.agg #[]) "covey/trade.behind" 110 (.agg #[]) := fun w => by kernel_rfl
set_option maxRecDepth 20000 in
theorem fd_behind_4 : Finds Tryz.prog 95 (.agg #[]) "covey/trade.behind" 110 (.agg #[]) := fun w => by kernel_rfl
set_option maxRecDepth 20000 in
theorem fd_behind_5 : Finds Tryz.prog 96 (.agg #[]) "covey/trade.behind" 110 (.agg #[]) := fun w => by kernel_rfl
set_option maxRecDepth 20000 in
theorem fd_behind_6 (b : Nat) : Finds Tryz.prog 97 (.pointer (some ⟨b, 0, none⟩)) "covey/trade.behind" 211 (.pointer (some ⟨b, 0, none⟩)) := fun w => by kernel_rfl
set_option maxRecDepth 20000 in
theorem fd_behind_7 : Finds Tryz.prog 102 (.agg #[]) "covey/trade.behind" 110 (.agg #[]) := fun w => by kernel_rfl
set_option maxRecDepth 20000 in
theorem fd_copied_1 : Finds Tryz.prog 92 (.agg #[]) "covey/trade.copied" 111 (.agg #[]) := fun w => by kernel_rfl
set_option maxRecDepth 20000 in
theorem fd_copied_2 : Finds Tryz.prog 93 (.agg #[]) "covey/trade.copied" 198 (.agg #[]) := fun w => by kernel_rfl
set_option maxRecDepth 20000 in
theorem fd_copied_3 : Finds Tryz.prog 94 (.agg #[]) "covey/trade.copied" 200 (.agg #[]) := fun w => by kernel_rfl
set_option maxRecDepth 20000 in
theorem fd_copied_4 : Finds Tryz.prog 95 (.agg #[]) "covey/trade.copied" 202 (.agg #[]) := fun w => by kernel_rfl
set_option maxRecDepth 20000 in
theorem fd_copied_5 : Finds Tryz.prog 96 (.agg #[]) "covey/trade.copied" 207 (.agg #[]) := fun w => by kernel_rfl
set_option maxRecDepth 20000 in
theorem fd_copied_6 (b : Nat) : Finds Tryz.prog 97 (.pointer (some ⟨b, 0, none⟩)) "covey/trade.copied" 212 (.pointer (some ⟨b, 0, none⟩)) := fun w => by kernel_rfl
set_option maxRecDepth 20000 in
theorem fd_copied_7 : Finds Tryz.prog 102 (.agg #[]) "covey/trade.copied" 225 (.agg #[]) := fun w => by kernel_rfl
noncomputable def giveP (n:Nat) (rt:Int) (G:List (List (List Int))) (me:Int) (s:Sp):Sp:=if s.k=6 then { s with C:=(tyrV n rt G s.P me).C } else s
def behP (n:Nat) (rt:Int) (G:List (List (List Int))) (me:Int) (s:Sp):Sp:=
 if s.k=6 then { s with P:=(behF s.C (fun i=>lastV G i me) rt (othV n me) (s.P,s.B)).1,B:=(behF s.C (fun i=>lastV G i me) rt (othV n me) (s.P,s.B)).2 } else s
def spN (k:Int):Sp:=⟨k,fun _=>none,fun _=>none,fun _=>none⟩
theorem set_self {α:Type} {l:List α} {i:Nat} {x:α} (h:l[i]?=some x):l.set i x=l:=by
 obtain ⟨hi,rfl⟩:=List.getElem?_eq_some_iff.1 h
 exact List.set_getElem_self hi
theorem SgI_6 {s:Sg} (h:s.k=6):SgI s=TyI s:=if_pos h
theorem SgI_n {s:Sg} (h:¬ s.k=6):SgI s=Big []:=if_neg h
theorem ty_1 {s:Sg} (h:s.k=1):s.ty=92:=by
 unfold Sg.ty
 rw [h]; rfl
theorem va_1 {s:Sg} (h:s.k=1):s.va=.agg #[]:=by
 unfold Sg.va
 rw [h]; rfl
theorem ty_2 {s:Sg} (h:s.k=2):s.ty=93:=by
 unfold Sg.ty
 rw [h]; rfl
theorem va_2 {s:Sg} (h:s.k=2):s.va=.agg #[]:=by
 unfold Sg.va
 rw [h]; rfl
theorem ty_3 {s:Sg} (h:s.k=3):s.ty=94:=by
 unfold Sg.ty
 rw [h]; rfl
theorem va_3 {s:Sg} (h:s.k=3):s.va=.agg #[]:=by
 unfold Sg.va
 rw [h]; rfl
theorem ty_4 {s:Sg} (h:s.k=4):s.ty=95:=by
 unfold Sg.ty
 rw [h]; rfl
theorem va_4 {s:Sg} (h:s.k=4):s.va=.agg #[]:=by
 unfold Sg.va
 rw [h]; rfl
theorem ty_5 {s:Sg} (h:s.k=5):s.ty=96:=by
 unfold Sg.ty
 rw [h]; rfl
theorem va_5 {s:Sg} (h:s.k=5):s.va=.agg #[]:=by
 unfold Sg.va
 rw [h]; rfl
theorem ty_6 {s:Sg} (h:s.k=6):s.ty=97:=by
 unfold Sg.ty
 rw [h]; rfl
theorem va_6 {s:Sg} (h:s.k=6):s.va=.pointer (some ⟨s.b,0,none⟩):=by
 unfold Sg.va
 rw [h]; rfl
theorem ty_7 {s:Sg} (h:s.k=7):s.ty=102:=by
 unfold Sg.ty
 rw [h]; rfl
theorem va_7 {s:Sg} (h:s.k=7):s.va=.agg #[]:=by
 unfold Sg.va
 rw [h]; rfl
theorem gives_all (g : Nat) (seed : ByteArray) (pp : Option Addr) (pc : Nat) (ps : List Pl) (sp : Option Addr) (sc sn : Nat) (tp : Option Addr) (tc tn : Nat) (vp : Option Addr) (vc vn : Nat) (bp : Option Addr) (bc : Nat) (bs : List (Ro Int)) (pl gs : List Rd) (gp : Option Addr) (gc : Nat) (hG : GsOK ps.length pl gs) (hgl : gs.length ≤ 200) (h2p : 2 ≤ ps.length) (hnp : ps.length ≤ 9) (hsd : seed.size ≤ 100) (hbl : bs.length = ps.length) (hbw : ∀ x ∈ bs, x.l.length = ps.length) (ss : List Sg) (i : Nat) (pm : Pl) (hm : ps[i]? = some pm) (hr0 : 0 ≤ pm.rt ∧ pm.rt ≤ 1000000) (s : Sg) (hs : ss[i]? = some s) (hk : 1 ≤ s.k ∧ s.k ≤ 7) (hP : ∀ j v, s.P j = some v → 0 ≤ v ∧ v ≤ 1000000) : ∃ f rv, Finds Tryz.prog s.ty s.va "covey/trade.gives" f rv ∧ callable Tryz.prog f = true ∧ ∀ w, S w [Ob g (.cells #[.slice gp gs.length gc, .string seed, .slice pp ps.length pc, .slice sp sn sc, .slice tp tn tc, .slice vp vn vc, .slice bp bs.length bc] 61 (0, 0)), Rw 39 1 gp gs.length gc (fl rowL gs), Rw 27 2 pp ps.length pc (fl plL ps), (Pool pl), Rw 43 1 bp bs.length bc (fl rowL bs), (Lst BwI bs), (Lst SgI ss)] → Calls Tryz.prog f #[rv, .pointer (some ⟨g, 0, none⟩), .int .i64 (i : Int)] w fun e w' => ∃ p' c' s', e = .returned (.slice p' (giveV seed ps.length pm.rt (gs.map Rd.v) (bs.map Ro.l) s.sp i).length c') ∧ s'.sp = giveP ps.length pm.rt (gs.map Rd.v) i s.sp ∧ sgL s' = sgL s ∧ s'.b = s.b ∧ (s.k = 6 → ∃ c, s'.cg = some c) ∧ S w' ([Rw 3 1 p' (giveV seed ps.length pm.rt (gs.map Rd.v) (bs.map Ro.l) s.sp i).length c' (fl intL (giveV seed ps.length pm.rt (gs.map Rd.v) (bs.map Ro.l) s.sp i)), Ob g (.cells #[.slice gp gs.length gc, .string seed, .slice pp ps.length pc, .slice sp sn sc, .slice tp tn tc, .slice vp vn vc, .slice bp bs.length bc] 61 (0, 0)), Rw 39 1 gp gs.length gc (fl rowL gs), Rw 27 2 pp ps.length pc (fl plL ps), (Pool pl), Rw 43 1 bp bs.length bc (fl rowL bs), (Lst BwI bs), (Lst SgI (ss.set i s'))] ++ [Old w (fps [Ob g (.cells #[.slice gp gs.length gc, .string seed, .slice pp ps.length pc, .slice sp sn sc, .slice tp tn tc, .slice vp vn vc, .slice bp bs.length bc] 61 (0, 0)), Rw 39 1 gp gs.length gc (fl rowL gs), Rw 27 2 pp ps.length pc (fl plL ps), (Pool pl), Rw 43 1 bp bs.length bc (fl rowL bs), (Lst BwI bs), (Lst SgI ss)])]) := by
 have h7:s.k=1∨s.k=2∨s.k=3∨s.k=4∨s.k=5∨s.k=6∨s.k=7:=by omega
 rcases h7 with h | h | h | h | h | h | h
 · refine ⟨112,.agg #[],by rw [ty_1 h,va_1 h]; exact fd_gives_1,by kernel_rfl,fun w HS=>?_⟩
   have H:=HS.beginI
   refine (fairly_s g seed pp pc ps sp sc sn tp tc tn vp vc vn bp bc bs.length pl gs gp gc hG hgl hnp (i:Int) (by omega) pm (by rw [Int.toNat_natCast]; exact hm) pm.rt rfl hr0 bs hbl hbw hsd w (H.takes [0,1,2,3,4,5] (by decide))).mono ?_
   rintro e w' ⟨p',c',rfl,h2⟩
   have h3:=H.absorbI (new:=[Rw 3 1 p' (fairV seed ps.length pm.rt (gs.map Rd.v) (bs.map Ro.l) i).length c' (fl intL (fairV seed ps.length pm.rt (gs.map Rd.v) (bs.map Ro.l) i)),Ob g (.cells #[.slice gp gs.length gc,.string seed,.slice pp ps.length pc,.slice sp sn sc,.slice tp tn tc,.slice vp vn vc,.slice bp bs.length bc] 61 (0,0)),Rw 39 1 gp gs.length gc (fl rowL gs),Rw 27 2 pp ps.length pc (fl plL ps),(Pool pl),Rw 43 1 bp bs.length bc (fl rowL bs),(Lst BwI bs)]) [0,1,2,3,4,5] h2
   have hk6:¬ s.sp.k=6:=by show ¬ s.k=6; omega
   have hv:(giveV seed ps.length pm.rt (gs.map Rd.v) (bs.map Ro.l) s.sp i)=(fairV seed ps.length pm.rt (gs.map Rd.v) (bs.map Ro.l) i):=by
     unfold giveV
     have e0:s.sp.k=1:=h
     rw [e0]; rfl
   refine ⟨p',c',s,by rw [hv],by unfold giveP; rw [if_neg hk6],rfl,rfl,fun h9=>absurd h9 (by omega),?_⟩
   rw [hv,set_self hs]
   exact h3.takes [0,1,2,3,4,5,6,7,8] (by decide)
 · refine ⟨199,.agg #[],by rw [ty_2 h,va_2 h]; exact fd_gives_2,by kernel_rfl,fun w HS=>?_⟩
   have H:=HS.beginI
   refine (freely_s g seed pp pc ps sp sc sn tp tc tn vp vc vn bp bc bs.length gs gp gc hnp (i:Int) (by omega) pm (by rw [Int.toNat_natCast]; exact hm) pm.rt rfl hr0 w (H.takes [0,2] (by decide))).mono ?_
   rintro e w' ⟨p',c',rfl,h2⟩
   have h3:=H.absorbI (new:=[Rw 3 1 p' (evnV ps.length pm.rt []).length c' (fl intL (evnV ps.length pm.rt [])),Ob g (.cells #[.slice gp gs.length gc,.string seed,.slice pp ps.length pc,.slice sp sn sc,.slice tp tn tc,.slice vp vn vc,.slice bp bs.length bc] 61 (0,0)),Rw 27 2 pp ps.length pc (fl plL ps)]) [0,2] h2
   have hk6:¬ s.sp.k=6:=by show ¬ s.k=6; omega
   have hv:(giveV seed ps.length pm.rt (gs.map Rd.v) (bs.map Ro.l) s.sp i)=(evnV ps.length pm.rt []):=by
     unfold giveV
     have e0:s.sp.k=2:=h
     rw [e0]; rfl
   refine ⟨p',c',s,by rw [hv],by unfold giveP; rw [if_neg hk6],rfl,rfl,fun h9=>absurd h9 (by omega),?_⟩
   rw [hv,set_self hs]
   exact h3.takes [0,1,3,2,4,5,6,7,8] (by decide)
 · refine ⟨201,.agg #[],by rw [ty_3 h,va_3 h]; exact fd_gives_3,by kernel_rfl,fun w HS=>?_⟩
   have H:=HS.beginI
   refine (openly_s g seed pp pc ps sp sc sn tp tc tn vp vc vn bp bc bs.length gs gp gc hnp (i:Int) (by omega) pm (by rw [Int.toNat_natCast]; exact hm) pm.rt rfl hr0 w (H.takes [0,2] (by decide))).mono ?_
   rintro e w' ⟨p',c',rfl,h2⟩
   have h3:=H.absorbI (new:=[Rw 3 1 p' (evnV ps.length pm.rt (othV ps.length i)).length c' (fl intL (evnV ps.length pm.rt (othV ps.length i))),Ob g (.cells #[.slice gp gs.length gc,.string seed,.slice pp ps.length pc,.slice sp sn sc,.slice tp tn tc,.slice vp vn vc,.slice bp bs.length bc] 61 (0,0)),Rw 27 2 pp ps.length pc (fl plL ps)]) [0,2] h2
   have hk6:¬ s.sp.k=6:=by show ¬ s.k=6; omega
   have hv:(giveV seed ps.length pm.rt (gs.map Rd.v) (bs.map Ro.l) s.sp i)=(evnV ps.length pm.rt (othV ps.length i)):=by
     unfold giveV
     have e0:s.sp.k=3:=h
     rw [e0]; rfl
   refine ⟨p',c',s,by rw [hv],by unfold giveP; rw [if_neg hk6],rfl,rfl,fun h9=>absurd h9 (by omega),?_⟩
   rw [hv,set_self hs]
   exact h3.takes [0,1,3,2,4,5,6,7,8] (by decide)
 · refine ⟨203,.agg #[],by rw [ty_4 h,va_4 h]; exact fd_gives_4,by kernel_rfl,fun w HS=>?_⟩
   have H:=HS.beginI
   refine (grimly_s g seed pp pc ps sp sc sn tp tc tn vp vc vn bp bc bs.length pl gs gp gc hG hgl hnp (i:Int) (by omega) pm (by rw [Int.toNat_natCast]; exact hm) pm.rt rfl hr0 w (H.takes [0,1,2,3] (by decide))).mono ?_
   rintro e w' ⟨p',c',rfl,h2⟩
   have h3:=H.absorbI (new:=[Rw 3 1 p' (grimV ps.length pm.rt (gs.map Rd.v) i).length c' (fl intL (grimV ps.length pm.rt (gs.map Rd.v) i)),Ob g (.cells #[.slice gp gs.length gc,.string seed,.slice pp ps.length pc,.slice sp sn sc,.slice tp tn tc,.slice vp vn vc,.slice bp bs.length bc] 61 (0,0)),Rw 39 1 gp gs.length gc (fl rowL gs),Rw 27 2 pp ps.length pc (fl plL ps),(Pool pl)]) [0,1,2,3] h2
   have hk6:¬ s.sp.k=6:=by show ¬ s.k=6; omega
   have hv:(giveV seed ps.length pm.rt (gs.map Rd.v) (bs.map Ro.l) s.sp i)=(grimV ps.length pm.rt (gs.map Rd.v) i):=by
     unfold giveV
     have e0:s.sp.k=4:=h
     rw [e0]; rfl
   refine ⟨p',c',s,by rw [hv],by unfold giveP; rw [if_neg hk6],rfl,rfl,fun h9=>absurd h9 (by omega),?_⟩
   rw [hv,set_self hs]
   exact h3.takes [0,1,2,3,4,5,6,7,8] (by decide)
 · refine ⟨208,.agg #[],by rw [ty_5 h,va_5 h]; exact fd_gives_5,by kernel_rfl,fun w HS=>?_⟩
   have H:=HS.beginI
   refine (bestly_s g seed pp pc ps sp sc sn tp tc tn vp vc vn bp bc bs.length pl gs gp gc hG hgl hnp (i:Int) (by omega) pm (by rw [Int.toNat_natCast]; exact hm) pm.rt rfl hr0 h2p w (H.takes [0,1,2,3] (by decide))).mono ?_
   rintro e w' ⟨p',c',rfl,h2⟩
   have h3:=H.absorbI (new:=[Rw 3 1 p' (bestV ps.length pm.rt (gs.map Rd.v) i).length c' (fl intL (bestV ps.length pm.rt (gs.map Rd.v) i)),Ob g (.cells #[.slice gp gs.length gc,.string seed,.slice pp ps.length pc,.slice sp sn sc,.slice tp tn tc,.slice vp vn vc,.slice bp bs.length bc] 61 (0,0)),Rw 39 1 gp gs.length gc (fl rowL gs),Rw 27 2 pp ps.length pc (fl plL ps),(Pool pl)]) [0,1,2,3] h2
   have hk6:¬ s.sp.k=6:=by show ¬ s.k=6; omega
   have hv:(giveV seed ps.length pm.rt (gs.map Rd.v) (bs.map Ro.l) s.sp i)=(bestV ps.length pm.rt (gs.map Rd.v) i):=by
     unfold giveV
     have e0:s.sp.k=5:=h
     rw [e0]; rfl
   refine ⟨p',c',s,by rw [hv],by unfold giveP; rw [if_neg hk6],rfl,rfl,fun h9=>absurd h9 (by omega),?_⟩
   rw [hv,set_self hs]
   exact h3.takes [0,1,2,3,4,5,6,7,8] (by decide)
 · refine ⟨213,.pointer (some ⟨s.b,0,none⟩),by rw [ty_6 h,va_6 h]; exact fd_gives_6 s.b,by kernel_rfl,fun w HS=>?_⟩
   have H:=HS.beginI
   have h1:=S.lstOut (F:=SgI) (H.takes [6,0,1,2,3,4,5,7] (by decide)) hs
   rw [SgI_6 h] at h1
   have h2:=S.unbig (L:=[_,_,_,_]) h1
   refine (tyrgives_s s.b s.pg s.bg s.cg s.P hP g seed pp pc ps sp sc sn tp tc tn vp vc vn bp bc bs.length pl gs gp gc hG hgl hnp (i:Int) (by omega) pm (by rw [Int.toNat_natCast]; exact hm) pm.rt rfl hr0 w (h2.takes [0,1,5,6,7,8] (by decide))).mono ?_
   rintro e w' ⟨p',c',mg,rfl,h4⟩
   have h5:=h2.absorbI (new:=[Rw 3 1 p' (tyrV ps.length pm.rt (gs.map Rd.v) s.P i).o.length c' (fl intL (tyrV ps.length pm.rt (gs.map Rd.v) s.P i).o),Ob s.b (.cells #[.map (some s.pg),.map (some s.bg),.map (some mg)] 101 (0,0)),intMp s.pg s.P,boolMp mg (tyrV ps.length pm.rt (gs.map Rd.v) s.P i).C,Ob g (.cells #[.slice gp gs.length gc,.string seed,.slice pp ps.length pc,.slice sp sn sc,.slice tp tn tc,.slice vp vn vc,.slice bp bs.length bc] 61 (0,0)),Rw 39 1 gp gs.length gc (fl rowL gs),Rw 27 2 pp ps.length pc (fl plL ps),(Pool pl)]) [0,1,5,6,7,8] h4
   have hv:(giveV seed ps.length pm.rt (gs.map Rd.v) (bs.map Ro.l) s.sp i)=(tyrV ps.length pm.rt (gs.map Rd.v) s.P i).o:=by
     unfold giveV
     have e0:s.sp.k=6:=h
     rw [e0]; rfl
   have h6:=S.big (L:=[_,_,_,_]) (h5.takes [1,2,8,3,10,0,4,5,6,7,11,12,13] (by decide))
   have h7:S w' (SgI ({ s with cg:=some mg,C:=(tyrV ps.length pm.rt (gs.map Rd.v) s.P i).C }:Sg) :: Lst SgI (ss.eraseIdx i) :: [Rw 3 1 p' (tyrV ps.length pm.rt (gs.map Rd.v) s.P i).o.length c' (fl intL (tyrV ps.length pm.rt (gs.map Rd.v) s.P i).o),Ob g (.cells #[.slice gp gs.length gc,.string seed,.slice pp ps.length pc,.slice sp sn sc,.slice tp tn tc,.slice vp vn vc,.slice bp bs.length bc] 61 (0,0)),Rw 39 1 gp gs.length gc (fl rowL gs),Rw 27 2 pp ps.length pc (fl plL ps),(Pool pl),Rw 43 1 bp bs.length bc (fl rowL bs),(Lst BwI bs),Old w (fps [Ob g (.cells #[.slice gp gs.length gc,.string seed,.slice pp ps.length pc,.slice sp sn sc,.slice tp tn tc,.slice vp vn vc,.slice bp bs.length bc] 61 (0,0)),Rw 39 1 gp gs.length gc (fl rowL gs),Rw 27 2 pp ps.length pc (fl plL ps),(Pool pl),Rw 43 1 bp bs.length bc (fl rowL bs),(Lst BwI bs),(Lst SgI ss)])]):=by
     rw [SgI_6 (s:=({ s with cg:=some mg,C:=(tyrV ps.length pm.rt (gs.map Rd.v) s.P i).C }:Sg)) h]; exact h6
   have h8:=S.lstIn h7 (List.getElem?_eq_some_iff.1 hs).1
   refine ⟨p',c',({ s with cg:=some mg,C:=(tyrV ps.length pm.rt (gs.map Rd.v) s.P i).C }:Sg),by rw [hv],by unfold giveP; rw [if_pos (show s.sp.k=6 from h)]; rfl,rfl,rfl,fun _=>⟨mg,rfl⟩,?_⟩
   rw [hv]
   exact h8.takes [1,2,3,4,5,6,7,0,8] (by decide)
 · refine ⟨226,.agg #[],by rw [ty_7 h,va_7 h]; exact fd_gives_7,by kernel_rfl,fun w HS=>?_⟩
   have H:=HS.beginI
   refine (mirrored_s g seed pp pc ps sp sc sn tp tc tn vp vc vn bp bc bs.length pl gs gp gc hG hgl hnp (i:Int) (by omega) pm (by rw [Int.toNat_natCast]; exact hm) pm.rt rfl hr0 w (H.takes [0,1,2,3] (by decide))).mono ?_
   rintro e w' ⟨p',c',rfl,h2⟩
   have h3:=H.absorbI (new:=[Rw 3 1 p' (mirV ps.length pm.rt (gs.map Rd.v) i).length c' (fl intL (mirV ps.length pm.rt (gs.map Rd.v) i)),Ob g (.cells #[.slice gp gs.length gc,.string seed,.slice pp ps.length pc,.slice sp sn sc,.slice tp tn tc,.slice vp vn vc,.slice bp bs.length bc] 61 (0,0)),Rw 39 1 gp gs.length gc (fl rowL gs),Rw 27 2 pp ps.length pc (fl plL ps),(Pool pl)]) [0,1,2,3] h2
   have hk6:¬ s.sp.k=6:=by show ¬ s.k=6; omega
   have hv:(giveV seed ps.length pm.rt (gs.map Rd.v) (bs.map Ro.l) s.sp i)=(mirV ps.length pm.rt (gs.map Rd.v) i):=by
     unfold giveV
     have e0:s.sp.k=7:=h
     rw [e0]; rfl
   refine ⟨p',c',s,by rw [hv],by unfold giveP; rw [if_neg hk6],rfl,rfl,fun h9=>absurd h9 (by omega),?_⟩
   rw [hv,set_self hs]
   exact h3.takes [0,1,2,3,4,5,6,7,8] (by decide)
set_option maxRecDepth 20000 in
set_option maxHeartbeats 4000000 in
set_option maxRecDepth 20000 in
set_option maxHeartbeats 4000000 in
theorem plainb_s (g:Nat) (me:Int)  (w:World):Calls Tryz.prog 110 #[.agg #[],.pointer (some ⟨g,0,none⟩),.int .i64 me] w fun e w'=>e=.returned (.tuple #[])∧S w' [Old w no]:=by
 have H0:=S.old w
 refine enter 6 Tryz.func110 rfl rfl rfl ?_
 refine g_weak [(0,.agg #[]),(1,.pointer (some ⟨g,0,none⟩)),(2,.int .i64 me)] ⟨rfl,rfl,rfl,trivial⟩ ?_
 refine g_region ?_
 refine l_of (s_box H0 (wt0 rfl) rfl rfl rfl rfl ?_)
 intro g1 wq2 H3
 refine g_nil ?_
 refine fin_end [] [] rfl trivial ?_
 exact ⟨rfl,H3.mask [false,true]⟩
theorem behind_all (g : Nat) (seed : ByteArray) (pp : Option Addr) (pc : Nat) (ps : List Pl) (sp : Option Addr) (sc sn : Nat) (tp : Option Addr) (tc tn : Nat) (vp : Option Addr) (vc vn : Nat) (bp : Option Addr) (bc : Nat) (bs : List (Ro Int)) (pl gs : List Rd) (gp : Option Addr) (gc : Nat) (hG : GsOK ps.length pl gs) (hgl : gs.length ≤ 200) (h2p : 2 ≤ ps.length) (hnp : ps.length ≤ 9) (hsd : seed.size ≤ 100) (hbl : bs.length = ps.length) (hbw : ∀ x ∈ bs, x.l.length = ps.length) (ss : List Sg) (i : Nat) (pm : Pl) (hm : ps[i]? = some pm) (hr0 : 0 ≤ pm.rt ∧ pm.rt ≤ 1000000) (s : Sg) (hs : ss[i]? = some s) (hk : 1 ≤ s.k ∧ s.k ≤ 7) (hP : ∀ j v, s.P j = some v → 0 ≤ v ∧ v ≤ 1000000) (Kb : Int) (hK : 0 ≤ Kb ∧ Kb ≤ 1000000) (hB : ∀ j v, s.B j = some v → 0 ≤ v ∧ v ≤ Kb) (hcg : s.k = 6 → ∃ c, s.cg = some c) : ∃ f rv, Finds Tryz.prog s.ty s.va "covey/trade.behind" f rv ∧ callable Tryz.prog f = true ∧ ∀ w, S w [Ob g (.cells #[.slice gp gs.length gc, .string seed, .slice pp ps.length pc, .slice sp sn sc, .slice tp tn tc, .slice vp vn vc, .slice bp bs.length bc] 61 (0, 0)), Rw 39 1 gp gs.length gc (fl rowL gs), Rw 27 2 pp ps.length pc (fl plL ps), (Pool pl), Rw 43 1 bp bs.length bc (fl rowL bs), (Lst BwI bs), (Lst SgI ss)] → Calls Tryz.prog f #[rv, .pointer (some ⟨g, 0, none⟩), .int .i64 (i : Int)] w fun e w' => ∃ s', e = .returned (.tuple #[]) ∧ s'.sp = behP ps.length pm.rt (gs.map Rd.v) i s.sp ∧ sgL s' = sgL s ∧ s'.b = s.b ∧ S w' ([Ob g (.cells #[.slice gp gs.length gc, .string seed, .slice pp ps.length pc, .slice sp sn sc, .slice tp tn tc, .slice vp vn vc, .slice bp bs.length bc] 61 (0, 0)), Rw 39 1 gp gs.length gc (fl rowL gs), Rw 27 2 pp ps.length pc (fl plL ps), (Pool pl), Rw 43 1 bp bs.length bc (fl rowL bs), (Lst BwI bs), (Lst SgI (ss.set i s'))] ++ [Old w (fps [Ob g (.cells #[.slice gp gs.length gc, .string seed, .slice pp ps.length pc, .slice sp sn sc, .slice tp tn tc, .slice vp vn vc, .slice bp bs.length bc] 61 (0, 0)), Rw 39 1 gp gs.length gc (fl rowL gs), Rw 27 2 pp ps.length pc (fl plL ps), (Pool pl), Rw 43 1 bp bs.length bc (fl rowL bs), (Lst BwI bs), (Lst SgI ss)])]) := by
 have h7:s.k=1∨s.k=2∨s.k=3∨s.k=4∨s.k=5∨s.k=6∨s.k=7:=by omega
 rcases h7 with h | h | h | h | h | h | h
 · refine ⟨110,.agg #[],by rw [ty_1 h,va_1 h]; exact fd_behind_1,by kernel_rfl,fun w HS=>?_⟩
   have H:=HS.beginI
   refine (plainb_s g i w).mono ?_
   rintro e w' ⟨rfl,h2⟩
   have hk6:¬ s.sp.k=6:=by show ¬ s.k=6; omega
   refine ⟨s,rfl,by unfold behP; rw [if_neg hk6],rfl,rfl,?_⟩
   rw [set_self hs]
   exact H.absorb (new:=[]) h2
 · refine ⟨110,.agg #[],by rw [ty_2 h,va_2 h]; exact fd_behind_2,by kernel_rfl,fun w HS=>?_⟩
   have H:=HS.beginI
   refine (plainb_s g i w).mono ?_
   rintro e w' ⟨rfl,h2⟩
   have hk6:¬ s.sp.k=6:=by show ¬ s.k=6; omega
   refine ⟨s,rfl,by unfold behP; rw [if_neg hk6],rfl,rfl,?_⟩
   rw [set_self hs]
   exact H.absorb (new:=[]) h2
 · refine ⟨110,.agg #[],by rw [ty_3 h,va_3 h]; exact fd_behind_3,by kernel_rfl,fun w HS=>?_⟩
   have H:=HS.beginI
   refine (plainb_s g i w).mono ?_
   rintro e w' ⟨rfl,h2⟩
   have hk6:¬ s.sp.k=6:=by show ¬ s.k=6; omega
   refine ⟨s,rfl,by unfold behP; rw [if_neg hk6],rfl,rfl,?_⟩
   rw [set_self hs]
   exact H.absorb (new:=[]) h2
 · refine ⟨110,.agg #[],by rw [ty_4 h,va_4 h]; exact fd_behind_4,by kernel_rfl,fun w HS=>?_⟩
   have H:=HS.beginI
   refine (plainb_s g i w).mono ?_
   rintro e w' ⟨rfl,h2⟩
   have hk6:¬ s.sp.k=6:=by show ¬ s.k=6; omega
   refine ⟨s,rfl,by unfold behP; rw [if_neg hk6],rfl,rfl,?_⟩
   rw [set_self hs]
   exact H.absorb (new:=[]) h2
 · refine ⟨110,.agg #[],by rw [ty_5 h,va_5 h]; exact fd_behind_5,by kernel_rfl,fun w HS=>?_⟩
   have H:=HS.beginI
   refine (plainb_s g i w).mono ?_
   rintro e w' ⟨rfl,h2⟩
   have hk6:¬ s.sp.k=6:=by show ¬ s.k=6; omega
   refine ⟨s,rfl,by unfold behP; rw [if_neg hk6],rfl,rfl,?_⟩
   rw [set_self hs]
   exact H.absorb (new:=[]) h2
 · refine ⟨211,.pointer (some ⟨s.b,0,none⟩),by rw [ty_6 h,va_6 h]; exact fd_behind_6 s.b,by kernel_rfl,fun w HS=>?_⟩
   have H:=HS.beginI
   obtain ⟨c,hc⟩:=hcg h
   have h1:=S.lstOut (F:=SgI) (H.takes [6,0,1,2,3,4,5,7] (by decide)) hs
   rw [SgI_6 h] at h1
   unfold TyI at h1
   rw [hc] at h1
   have h2:=S.unbig (L:=[_,_,_,boolMp c s.C]) h1
   refine (behind_s s.b s.pg s.bg c s.P s.B s.C hP Kb hK hB g seed pp pc ps sp sc sn tp tc tn vp vc vn bp bc bs.length pl gs gp gc hG hgl hnp (i:Int) (by omega) pm (by rw [Int.toNat_natCast]; exact hm) pm.rt rfl hr0 w (h2.takes [0,1,2,3,5,6,7,8] (by decide))).mono ?_
   rintro e w' ⟨rfl,h4⟩
   have h5:=h2.absorbI (new:=[Ob s.b (.cells #[.map (some s.pg),.map (some s.bg),.map (some c)] 101 (0,0)),intMp s.pg (behF s.C (fun j=>lastV (gs.map Rd.v) j i) pm.rt (othV ps.length i) (s.P,s.B)).1,intMp s.bg (behF s.C (fun j=>lastV (gs.map Rd.v) j i) pm.rt (othV ps.length i) (s.P,s.B)).2,boolMp c s.C,Ob g (.cells #[.slice gp gs.length gc,.string seed,.slice pp ps.length pc,.slice sp sn sc,.slice tp tn tc,.slice vp vn vc,.slice bp bs.length bc] 61 (0,0)),Rw 39 1 gp gs.length gc (fl rowL gs),Rw 27 2 pp ps.length pc (fl plL ps),(Pool pl)]) [0,1,2,3,5,6,7,8] h4
   have h6:=S.big (L:=[_,_,_,_]) (h5.takes [0,1,2,3,8,4,5,6,7,9,10,11] (by decide))
   have h7:S w' (SgI ({ s with P:=(behF s.C (fun j=>lastV (gs.map Rd.v) j i) pm.rt (othV ps.length i) (s.P,s.B)).1,B:=(behF s.C (fun j=>lastV (gs.map Rd.v) j i) pm.rt (othV ps.length i) (s.P,s.B)).2 }:Sg) :: Lst SgI (ss.eraseIdx i) :: [Ob g (.cells #[.slice gp gs.length gc,.string seed,.slice pp ps.length pc,.slice sp sn sc,.slice tp tn tc,.slice vp vn vc,.slice bp bs.length bc] 61 (0,0)),Rw 39 1 gp gs.length gc (fl rowL gs),Rw 27 2 pp ps.length pc (fl plL ps),(Pool pl),Rw 43 1 bp bs.length bc (fl rowL bs),(Lst BwI bs),Old w (fps [Ob g (.cells #[.slice gp gs.length gc,.string seed,.slice pp ps.length pc,.slice sp sn sc,.slice tp tn tc,.slice vp vn vc,.slice bp bs.length bc] 61 (0,0)),Rw 39 1 gp gs.length gc (fl rowL gs),Rw 27 2 pp ps.length pc (fl plL ps),(Pool pl),Rw 43 1 bp bs.length bc (fl rowL bs),(Lst BwI bs),(Lst SgI ss)])]):=by
     rw [SgI_6 (s:=({ s with P:=(behF s.C (fun j=>lastV (gs.map Rd.v) j i) pm.rt (othV ps.length i) (s.P,s.B)).1,B:=(behF s.C (fun j=>lastV (gs.map Rd.v) j i) pm.rt (othV ps.length i) (s.P,s.B)).2 }:Sg)) h]; unfold TyI; dsimp only; rw [hc]; exact h6
   have h8:=S.lstIn h7 (List.getElem?_eq_some_iff.1 hs).1
   refine ⟨({ s with P:=(behF s.C (fun j=>lastV (gs.map Rd.v) j i) pm.rt (othV ps.length i) (s.P,s.B)).1,B:=(behF s.C (fun j=>lastV (gs.map Rd.v) j i) pm.rt (othV ps.length i) (s.P,s.B)).2 }:Sg),rfl,by unfold behP; rw [if_pos (show s.sp.k=6 from h)]; rfl,rfl,rfl,?_⟩
   exact h8.takes [1,2,3,4,5,6,0,7] (by decide)
 · refine ⟨110,.agg #[],by rw [ty_7 h,va_7 h]; exact fd_behind_7,by kernel_rfl,fun w HS=>?_⟩
   have H:=HS.beginI
   refine (plainb_s g i w).mono ?_
   rintro e w' ⟨rfl,h2⟩
   have hk6:¬ s.sp.k=6:=by show ¬ s.k=6; omega
   refine ⟨s,rfl,by unfold behP; rw [if_neg hk6],rfl,rfl,?_⟩
   rw [set_self hs]
   exact H.absorb (new:=[]) h2
theorem copied_all (s : Sg) (hk : 1 ≤ s.k ∧ s.k ≤ 7) : ∃ f rv, Finds Tryz.prog s.ty s.va "covey/trade.copied" f rv ∧ callable Tryz.prog f = true ∧ ∀ w, S w [SgI s] → Calls Tryz.prog f #[rv] w fun e w' => ∃ s' : Sg, e = .returned (.iface s'.ty s'.va) ∧ s'.sp = s.sp ∧ S w' ([SgI s', SgI s] ++ [Old w (fps [SgI s])]) := by
 have h7:s.k=1∨s.k=2∨s.k=3∨s.k=4∨s.k=5∨s.k=6∨s.k=7:=by omega
 rcases h7 with h | h | h | h | h | h | h
 · refine ⟨111,.agg #[],by rw [ty_1 h,va_1 h]; exact fd_copied_1,by kernel_rfl,fun w HS=>?_⟩
   have H:=HS.beginI
   refine (fairly_c w).mono ?_
   rintro e w' ⟨rfl,h2⟩
   refine ⟨s,by rw [ty_1 h,va_1 h],rfl,?_⟩
   have h3:=H.absorb (new:=[]) h2
   have h4:=S.addNil h3
   rw [← SgI_n (s:=s) (by omega)] at h4
   exact h4
 · refine ⟨198,.agg #[],by rw [ty_2 h,va_2 h]; exact fd_copied_2,by kernel_rfl,fun w HS=>?_⟩
   have H:=HS.beginI
   refine (freely_c w).mono ?_
   rintro e w' ⟨rfl,h2⟩
   refine ⟨s,by rw [ty_2 h,va_2 h],rfl,?_⟩
   have h3:=H.absorb (new:=[]) h2
   have h4:=S.addNil h3
   rw [← SgI_n (s:=s) (by omega)] at h4
   exact h4
 · refine ⟨200,.agg #[],by rw [ty_3 h,va_3 h]; exact fd_copied_3,by kernel_rfl,fun w HS=>?_⟩
   have H:=HS.beginI
   refine (openly_c w).mono ?_
   rintro e w' ⟨rfl,h2⟩
   refine ⟨s,by rw [ty_3 h,va_3 h],rfl,?_⟩
   have h3:=H.absorb (new:=[]) h2
   have h4:=S.addNil h3
   rw [← SgI_n (s:=s) (by omega)] at h4
   exact h4
 · refine ⟨202,.agg #[],by rw [ty_4 h,va_4 h]; exact fd_copied_4,by kernel_rfl,fun w HS=>?_⟩
   have H:=HS.beginI
   refine (grimly_c w).mono ?_
   rintro e w' ⟨rfl,h2⟩
   refine ⟨s,by rw [ty_4 h,va_4 h],rfl,?_⟩
   have h3:=H.absorb (new:=[]) h2
   have h4:=S.addNil h3
   rw [← SgI_n (s:=s) (by omega)] at h4
   exact h4
 · refine ⟨207,.agg #[],by rw [ty_5 h,va_5 h]; exact fd_copied_5,by kernel_rfl,fun w HS=>?_⟩
   have H:=HS.beginI
   refine (bestly_c w).mono ?_
   rintro e w' ⟨rfl,h2⟩
   refine ⟨s,by rw [ty_5 h,va_5 h],rfl,?_⟩
   have h3:=H.absorb (new:=[]) h2
   have h4:=S.addNil h3
   rw [← SgI_n (s:=s) (by omega)] at h4
   exact h4
 · refine ⟨212,.pointer (some ⟨s.b,0,none⟩),by rw [ty_6 h,va_6 h]; exact fd_copied_6 s.b,by kernel_rfl,fun w HS=>?_⟩
   have H:=HS.beginI
   have H1:S w (TyI s :: [Old w (fps [SgI s])]):=by rw [← SgI_6 h]; exact H
   unfold TyI at H1
   cases hc:s.cg with
   | some c =>
     rw [hc] at H1
     have h2:=S.unbig (L:=[_,_,_,boolMp c s.C]) H1
     refine (tycopy_s s.b s.pg s.bg c s.P s.B s.C w (h2.takes [0,1,2,3] (by decide))).mono ?_
     rintro e w' ⟨b2,pg2,bg2,cg2,rfl,h4⟩
     have h5:=h2.absorbI (new:=[Ob b2 (.cells #[.map (some pg2),.map (some bg2),.map (some cg2)] 101 (0,0)),intMp pg2 s.P,intMp bg2 s.B,boolMp cg2 s.C,Ob s.b (.cells #[.map (some s.pg),.map (some s.bg),.map (some c)] 101 (0,0)),intMp s.pg s.P,intMp s.bg s.B,boolMp c s.C]) [0,1,2,3] h4
     have h6:=S.big (L:=[_,_,_,_]) (h5.takes [4,5,6,7,0,1,2,3,8] (by decide))
     have h7:=S.big (L:=[_,_,_,_]) (h6.takes [1,2,3,4,0,5] (by decide))
     refine ⟨⟨s.k,b2,pg2,bg2,some cg2,s.P,s.B,s.C⟩,by rw [ty_6 (s:=⟨s.k,b2,pg2,bg2,some cg2,s.P,s.B,s.C⟩) h,va_6 (s:=⟨s.k,b2,pg2,bg2,some cg2,s.P,s.B,s.C⟩) h],rfl,?_⟩
     rw [SgI_6 (s:=⟨s.k,b2,pg2,bg2,some cg2,s.P,s.B,s.C⟩) h]
     have e1:SgI s=Big [Ob s.b (.cells #[.map (some s.pg),.map (some s.bg),.map (some c)] 101 (0,0)),intMp s.pg s.P,intMp s.bg s.B,boolMp c s.C]:=by rw [SgI_6 h]; unfold TyI; rw [hc]; rfl
     rw [e1] at h7 ⊢
     exact h7
   | none =>
     rw [hc] at H1
     have h2:=S.unbig (L:=[_,_,_,ChI none s.C]) H1
     refine (tycopy_n s.b s.pg s.bg s.P s.B w (h2.takes [0,1,2] (by decide))).mono ?_
     rintro e w' ⟨b2,pg2,bg2,rfl,h4⟩
     have h5:=h2.absorbI (new:=[Ob b2 (.cells #[.map (some pg2),.map (some bg2),.map none] 101 (0,0)),intMp pg2 s.P,intMp bg2 s.B,Ob s.b (.cells #[.map (some s.pg),.map (some s.bg),.map none] 101 (0,0)),intMp s.pg s.P,intMp s.bg s.B]) [0,1,2] h4
     have h5b:=S.addNil h5
     have h6:=S.big (L:=[_,_,_,_]) (h5b.takes [4,5,6,7,0,1,2,3,8] (by decide))
     have h7:=S.big (L:=[_,_,_,_]) (h6.takes [2,3,4,1,0,5] (by decide))
     refine ⟨⟨s.k,b2,pg2,bg2,none,s.P,s.B,s.C⟩,by rw [ty_6 (s:=⟨s.k,b2,pg2,bg2,none,s.P,s.B,s.C⟩) h,va_6 (s:=⟨s.k,b2,pg2,bg2,none,s.P,s.B,s.C⟩) h],rfl,?_⟩
     rw [SgI_6 (s:=⟨s.k,b2,pg2,bg2,none,s.P,s.B,s.C⟩) h]
     have e1:SgI s=Big [Ob s.b (.cells #[.map (some s.pg),.map (some s.bg),.map none] 101 (0,0)),intMp s.pg s.P,intMp s.bg s.B,ChI none s.C]:=by rw [SgI_6 h]; unfold TyI; rw [hc]
     rw [e1] at h7 ⊢
     exact h7
 · refine ⟨225,.agg #[],by rw [ty_7 h,va_7 h]; exact fd_copied_7,by kernel_rfl,fun w HS=>?_⟩
   have H:=HS.beginI
   refine (mirrored_c w).mono ?_
   rintro e w' ⟨rfl,h2⟩
   refine ⟨s,by rw [ty_7 h,va_7 h],rfl,?_⟩
   have h3:=H.absorb (new:=[]) h2
   have h4:=S.addNil h3
   rw [← SgI_n (s:=s) (by omega)] at h4
   exact h4
theorem made_all (k:Int) (hk:1≤k∧k≤7) (w:World):Calls Tryz.prog 27 #[.int .i64 k] w fun e w'=>∃ s:Sg,e=.returned (.iface s.ty s.va)∧s.sp=spN k∧S w' ([SgI s]++[Old w no]):=by
 have h7:k=1∨k=2∨k=3∨k=4∨k=5∨k=6∨k=7:=by omega
 rcases h7 with rfl | rfl | rfl | rfl | rfl | rfl | rfl
 · refine (made_1 w).mono ?_
   rintro e w' ⟨rfl,h2⟩
   refine ⟨(⟨1,0,0,0,none,fun _=>none,fun _=>none,fun _=>none⟩:Sg),by rw [ty_1 (s:=(⟨1,0,0,0,none,fun _=>none,fun _=>none,fun _=>none⟩:Sg)) rfl,va_1 (s:=(⟨1,0,0,0,none,fun _=>none,fun _=>none,fun _=>none⟩:Sg)) rfl],rfl,?_⟩
   rw [SgI_n (s:=(⟨1,0,0,0,none,fun _=>none,fun _=>none,fun _=>none⟩:Sg)) (by decide)]
   exact S.addNil h2
 · refine (made_2 w).mono ?_
   rintro e w' ⟨rfl,h2⟩
   refine ⟨(⟨2,0,0,0,none,fun _=>none,fun _=>none,fun _=>none⟩:Sg),by rw [ty_2 (s:=(⟨2,0,0,0,none,fun _=>none,fun _=>none,fun _=>none⟩:Sg)) rfl,va_2 (s:=(⟨2,0,0,0,none,fun _=>none,fun _=>none,fun _=>none⟩:Sg)) rfl],rfl,?_⟩
   rw [SgI_n (s:=(⟨2,0,0,0,none,fun _=>none,fun _=>none,fun _=>none⟩:Sg)) (by decide)]
   exact S.addNil h2
 · refine (made_3 w).mono ?_
   rintro e w' ⟨rfl,h2⟩
   refine ⟨(⟨3,0,0,0,none,fun _=>none,fun _=>none,fun _=>none⟩:Sg),by rw [ty_3 (s:=(⟨3,0,0,0,none,fun _=>none,fun _=>none,fun _=>none⟩:Sg)) rfl,va_3 (s:=(⟨3,0,0,0,none,fun _=>none,fun _=>none,fun _=>none⟩:Sg)) rfl],rfl,?_⟩
   rw [SgI_n (s:=(⟨3,0,0,0,none,fun _=>none,fun _=>none,fun _=>none⟩:Sg)) (by decide)]
   exact S.addNil h2
 · refine (made_4 w).mono ?_
   rintro e w' ⟨rfl,h2⟩
   refine ⟨(⟨4,0,0,0,none,fun _=>none,fun _=>none,fun _=>none⟩:Sg),by rw [ty_4 (s:=(⟨4,0,0,0,none,fun _=>none,fun _=>none,fun _=>none⟩:Sg)) rfl,va_4 (s:=(⟨4,0,0,0,none,fun _=>none,fun _=>none,fun _=>none⟩:Sg)) rfl],rfl,?_⟩
   rw [SgI_n (s:=(⟨4,0,0,0,none,fun _=>none,fun _=>none,fun _=>none⟩:Sg)) (by decide)]
   exact S.addNil h2
 · refine (made_5 w).mono ?_
   rintro e w' ⟨rfl,h2⟩
   refine ⟨(⟨5,0,0,0,none,fun _=>none,fun _=>none,fun _=>none⟩:Sg),by rw [ty_5 (s:=(⟨5,0,0,0,none,fun _=>none,fun _=>none,fun _=>none⟩:Sg)) rfl,va_5 (s:=(⟨5,0,0,0,none,fun _=>none,fun _=>none,fun _=>none⟩:Sg)) rfl],rfl,?_⟩
   rw [SgI_n (s:=(⟨5,0,0,0,none,fun _=>none,fun _=>none,fun _=>none⟩:Sg)) (by decide)]
   exact S.addNil h2
 · refine (made_6 w).mono ?_
   rintro e w' ⟨b2,pg2,bg2,rfl,h2⟩
   refine ⟨(⟨6,b2,pg2,bg2,none,fun _=>none,fun _=>none,fun _=>none⟩:Sg),by rw [ty_6 (s:=(⟨6,b2,pg2,bg2,none,fun _=>none,fun _=>none,fun _=>none⟩:Sg)) rfl,va_6 (s:=(⟨6,b2,pg2,bg2,none,fun _=>none,fun _=>none,fun _=>none⟩:Sg)) rfl],rfl,?_⟩
   have h3:=S.addNil h2
   have h4:=S.big (L:=[_,_,_,_]) (h3.takes [1,2,3,0,4] (by decide))
   rw [SgI_6 (s:=(⟨6,b2,pg2,bg2,none,fun _=>none,fun _=>none,fun _=>none⟩:Sg)) rfl]
   exact h4
 · refine (made_7 w).mono ?_
   rintro e w' ⟨rfl,h2⟩
   refine ⟨(⟨7,0,0,0,none,fun _=>none,fun _=>none,fun _=>none⟩:Sg),by rw [ty_7 (s:=(⟨7,0,0,0,none,fun _=>none,fun _=>none,fun _=>none⟩:Sg)) rfl,va_7 (s:=(⟨7,0,0,0,none,fun _=>none,fun _=>none,fun _=>none⟩:Sg)) rfl],rfl,?_⟩
   rw [SgI_n (s:=(⟨7,0,0,0,none,fun _=>none,fun _=>none,fun _=>none⟩:Sg)) (by decide)]
   exact S.addNil h2
def mapK {α:Type} (f:Nat→α→α) (k:Nat) (l:List α):List α:=l.mapIdx fun i x=>if i<k then f i x else x
section
variable {α β:Type} {f:Nat→α→α} {k i:Nat} {l:List α} {x y:α}
theorem mapK_len:(mapK f k l).length=l.length:=by unfold mapK; rw [List.length_mapIdx]
theorem mapK_get (f:Nat→α→α) (k i:Nat) (l:List α):(mapK f k l)[i]?=(l[i]?).map fun x=>if i<k then f i x else x:=by unfold mapK; rw [List.getElem?_mapIdx]
theorem mapK_zero:mapK f 0 l=l:=by
 apply List.ext_getElem?
 intro i
 rw [mapK_get]
 cases l[i]? <;> simp
theorem mapK_at (h:k≤i):(mapK f k l)[i]?=l[i]?:=by
 rw [mapK_get]
 cases l[i]? with
 | none=>rfl
 | some x=>show some (if i<k then f i x else x)=_; rw [if_neg (by omega)]
theorem mapK_lt (h:i<k) (hx:l[i]?=some x):(mapK f k l)[i]?=some (f i x):=by
 rw [mapK_get,hx]
 show some (if i<k then f i x else x)=_
 rw [if_pos h]
theorem mapK_succ (h:l[k]?=some x):mapK f (k+1) l=(mapK f k l).set k (f k x):=by
 apply List.ext_getElem?
 intro i
 rw [List.getElem?_set,mapK_get,mapK_get,mapK_len]
 by_cases e:k=i
 · subst e
   rw [if_pos rfl,if_pos (List.getElem?_eq_some_iff.1 h).1,h]
   show some (if k<k+1 then f k x else x)=_
   rw [if_pos (by omega)]
 · rw [if_neg e]
   cases l[i]? with
   | none=>rfl
   | some y =>
     show some (if i<k+1 then f i y else y)=some (if i<k then f i y else y)
     by_cases h1:i<k
     · rw [if_pos h1,if_pos (by omega)]
     · rw [if_neg h1,if_neg (by omega)]
theorem mapK_all {P:α→Prop} (h1:∀ x∈l,P x) (h2:∀ i x,l[i]?=some x→P (f i x)):∀ x∈mapK f k l,P x:=fun y hy=>by
 obtain ⟨i,hi⟩:=List.getElem?_of_mem hy
 rw [mapK_get] at hi
 cases hx:l[i]? with
 | none=>rw [hx] at hi; cases hi
 | some x =>
   rw [hx] at hi
   have e:(if i<k then f i x else x)=y:=Option.some.inj hi
   split at e
   · rw [← e]; exact h2 i x hx
   · rw [← e]; exact h1 x (List.mem_of_getElem? hx)
end
def rtA (ps:List Pl) (i:Nat):Int:=((ps[i]?).map Pl.rt).getD 0
def ssA (ss:List Sp) (i:Nat):Sp:=(ss[i]?).getD (spN 0)
theorem rtA_is {ps:List Pl} {i:Nat} {pm:Pl} (h:ps[i]?=some pm):rtA ps i=pm.rt:=by unfold rtA; rw [h]; rfl
theorem ssA_is {ss:List Sp} {i:Nat} {s:Sp} (h:ss[i]?=some s):ssA ss i=s:=by unfold ssA; rw [h]; rfl
noncomputable def rowR (A:GA) (i:Nat):List Int:=giveV A.sd A.ps.length (rtA A.ps i) A.gv A.bw (ssA A.ss i) i
noncomputable def roundR (A:GA):List (List Int):=(List.range A.ps.length).map (rowR A)
theorem rowR_is {A:GA} {i:Nat} {pm:Pl} {s:Sp} (hm:A.ps[i]?=some pm) (hs:A.ss[i]?=some s):rowR A i=giveV A.sd A.ps.length pm.rt A.gv A.bw s i:=by
 unfold rowR
 rw [rtA_is hm,ssA_is hs]
noncomputable def gvP (A:GA) (j:Nat) (s:Sp):Sp:=giveP A.ps.length (rtA A.ps j) A.gv j s
def bhP (ps:List Pl) (G:List (List (List Int))) (j:Nat) (s:Sp):Sp:=behP ps.length (rtA ps j) G j s
def addL (g row:List Int):List Int:=mapK (fun t x=>x+row.getD t 0) row.length g
def gotF (rows:List (List Int)) (got:List Int):List Int:=rows.foldl addL got
def gaveF (rows:List (List Int)) (gave:List Int):List Int:=mapK (fun j x=>x+sumI (rows.getD j [])) rows.length gave
def bwF (rows bw:List (List Int)):List (List Int):=mapK (fun j b=>addL b (rows.getD j [])) rows.length bw
noncomputable def stepA (A:GA):GA:={ A with ss:=mapK (bhP A.ps (A.gv++[roundR A])) A.ps.length (mapK (gvP A) A.ps.length A.ss),gv:=A.gv++[roundR A],got:=gotF (roundR A) A.got,gave:=gaveF (roundR A) A.gave,bw:=bwF (roundR A) A.bw }
theorem gotF_snoc (rows:List (List Int)) (r:List Int) (got:List Int):gotF (rows++[r]) got=addL (gotF rows got) r:=by
 unfold gotF
 rw [List.foldl_append]; rfl
theorem addL_len (g row:List Int):(addL g row).length=g.length:=mapK_len
theorem gotF_len:∀ (rows:List (List Int)) (got:List Int),(gotF rows got).length=got.length
 | [],_=>rfl
 | a :: r,got=>by
   show (gotF r (addL got a)).length=_
   rw [gotF_len r,addL_len]
def BdL (B:Int) (l:List Int):Prop:=∀ x∈l,0≤x∧x≤B
theorem BdL.at {B:Int} {l:List Int} (h:BdL B l) {i:Nat} {x:Int} (hx:l[i]?=some x):0≤x∧x≤B:=h x (List.mem_of_getElem? hx)
theorem BdL.getD {B:Int} {l:List Int} (h:BdL B l) (hB:0≤B) (i:Nat):0≤l.getD i 0∧l.getD i 0≤B:=by
 rw [List.getD_eq_getElem?_getD]
 cases hx:l[i]? with
 | none=>exact ⟨Int.le_refl _,hB⟩
 | some x=>exact h.at hx
theorem BdL.up {B C:Int} {l:List Int} (h:BdL B l) (hc:B≤C):BdL C l:=fun x hx=>⟨(h x hx).1,Int.le_trans (h x hx).2 hc⟩
theorem addL_bd {B R:Int} {g row:List Int} (hg:BdL B g) (hr:BdL R row) (hR:0≤R):BdL (B+R) (addL g row):=by
 unfold addL
 refine mapK_all (hg.up (by omega)) fun i x hx=>?_
 have h1:=hg.at hx
 have h2:=hr.getD hR i
 show 0≤x+row.getD i 0∧_≤B+R
 omega
theorem giveP_k (n:Nat) (rt:Int) (G:List (List (List Int))) (me:Int) (s:Sp):(giveP n rt G me s).k=s.k∧(giveP n rt G me s).P=s.P∧(giveP n rt G me s).B=s.B:=by
 unfold giveP
 split <;> exact ⟨rfl,rfl,rfl⟩
theorem behP_k (n:Nat) (rt:Int) (G:List (List (List Int))) (me:Int) (s:Sp):(behP n rt G me s).k=s.k:=by
 unfold behP
 split <;> rfl
theorem fl_map {α:Type} {enc:α→List Value} {a b:List α} (h:a.map enc=b.map enc):fl enc a=fl enc b:=by
 unfold fl
 rw [List.flatMap_def,List.flatMap_def,h]
theorem sgL_ty {a b:Sg} (h:sgL a=sgL b):a.ty=b.ty∧a.va=b.va:=by
 unfold sgL at h
 injection h with h1 h2
 injection h1 with h3 h4
 exact ⟨h3,h4⟩
theorem map_setS {α β:Type} {f:α→β} {l:List α} {i:Nat} {x y:α} (hx:l[i]?=some x) (h:f y=f x):(l.set i y).map f=l.map f:=by
 rw [List.map_set,h]
 exact set_self (by rw [List.getElem?_map,hx]; rfl)
theorem getD_atT {α:Type} {l:List α} {i:Nat} {x d:α} (h:l[i]?=some x):l.getD i d=x:=by rw [List.getD_eq_getElem?_getD,h]; rfl
theorem gs_snoc {n:Nat} {pl gs:List Rd} {rd:Rd} (h:GsOK n pl gs) (hr:RdOK n rd.v):GsOK n (pl++[rd]) (gs++[rd]) where
 mem r hm:=by
   rcases List.mem_append.1 hm with hm | hm
   · exact List.mem_append_left _ (h.mem r hm)
   · exact List.mem_append_right _ hm
 ok r hm:=by
   rcases List.mem_append.1 hm with hm | hm
   · exact h.ok r hm
   · rw [List.mem_singleton.1 hm]; exact hr
theorem cg_step {ssl:List Sg} {i:Nat} {s9:Sg} (h:∀ j y,j<i→ssl[j]?=some y→y.k=6→∃ c,y.cg=some c) (h9:s9.k=6→∃ c,s9.cg=some c):∀ j y,j<i+1→(ssl.set i s9)[j]?=some y→y.k=6→∃ c,y.cg=some c:=fun j y hj hy h6=>by
 rw [List.getElem?_set] at hy
 by_cases e:i=j
 · rw [if_pos e] at hy
   split at hy
   · obtain rfl:=Option.some.inj hy
     exact h9 h6
   · cases hy
 · rw [if_neg e] at hy
   exact h j y (by omega) hy h6
theorem mem_le_sum:∀ {l:List Int},(∀ y∈l,0≤y)→∀ x∈l,x≤sumI l
 | a :: l,h,x,hx=>by
   rw [sumI_cons]
   have h0:0≤sumI l:=by
     clear hx
     induction l with
     | nil=>exact Int.le_refl _
     | cons b l ih =>
       rw [sumI_cons]
       have h1:=h b (List.mem_cons_of_mem _ List.mem_cons_self)
       have h2:=ih fun y hy=>by
         rcases List.mem_cons.1 hy with hy | hy
         · exact h y (by rw [hy]; exact List.mem_cons_self)
         · exact h y (List.mem_cons_of_mem _ (List.mem_cons_of_mem _ hy))
       omega
   have h1:=h a List.mem_cons_self
   rcases List.mem_cons.1 hx with rfl | hx
   · omega
   · have:=mem_le_sum (fun y hy=>h y (List.mem_cons_of_mem _ hy)) x hx
     omega
end Go.Proofs.YtpbjekdjebjbkaaGreatDoor
