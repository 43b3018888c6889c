import Derived.Test.YthmmfhdpkddniaaGreatDoorXi
set_option maxRecDepth 20000
set_option maxHeartbeats 4000000
set_option linter.all false
namespace Go.Proofs.YthmmfhdpkddniaaGreatDoor
open Go.RowKit
theorem di.ndA {X:XP} {A B:PK} {j:Nat} (hX:di X B) (hI:bQ j A) (e:B.peers=A.peers:=by rfl):(X.ms.map Mt.k).Nodup:=by rw [hX.ks,e]; exact hI.nd
theorem Ir (m:Mt) (x:aV)  (w:World) (HS:S w [fN [],Ob m.b (.cells #[.string ((fieldS m.fld)),.map (some m.am),.map (some m.sm),.bool m.ch,.bool m.sn,.slice m.ap m.asked.length m.ac] 88 (0,0)),Mp (Value.int .i64) Value.bool cO m.am (cX m.alw),Mp (Value.int .i64) Value.bool cO m.sm (cX m.sug),Rw 44 3 m.ap m.asked.length m.ac (fl aO m.asked)]):Calls Tryz.prog 85 #[.agg #[vI x.pc,vI x.bg,vI x.ln]] w fun e w'=>e=.returned (.bool ((fun _:aV=>true) x))∧S w' ([fN [],Ob m.b (.cells #[.string ((fieldS m.fld)),.map (some m.am),.map (some m.sm),.bool m.ch,.bool m.sn,.slice m.ap m.asked.length m.ac] 88 (0,0)),Mp (Value.int .i64) Value.bool cO m.am (cX m.alw),Mp (Value.int .i64) Value.bool cO m.sm (cX m.sug),Rw 44 3 m.ap m.asked.length m.ac (fl aO m.asked)]++[aB w (aT [fN [],Ob m.b (.cells #[.string ((fieldS m.fld)),.map (some m.am),.map (some m.sm),.bool m.ch,.bool m.sn,.slice m.ap m.asked.length m.ac] 88 (0,0)),Mp (Value.int .i64) Value.bool cO m.am (cX m.alw),Mp (Value.int .i64) Value.bool cO m.sm (cX m.sug),Rw 44 3 m.ap m.asked.length m.ac (fl aO m.asked)])]):=by
 have H0:=HS.beginI
 refine en Tryz.func85 ?_
 refine ah [0] ?_
 refine iF ?_
 refine l_of (fq H0 ?_)
 intro g1 H2 H3
 refine a_ ?_
 refine af ?_
 exact ⟨rfl,H3.tk [1,2,3,4,5,6]⟩
theorem It (m:Mt):kg Tryz.prog 85 #[] #[] (fN [(fN []),Ob m.b (.cells #[.string ((fieldS m.fld)),.map (some m.am),.map (some m.sm),.bool m.ch,.bool m.sn,.slice m.ap m.asked.length m.ac] 88 (0,0)),Mp (Value.int .i64) Value.bool cO m.am (cX m.alw),Mp (Value.int .i64) Value.bool cO m.sm (cX m.sug),Rw 44 3 m.ap m.asked.length m.ac (fl aO m.asked)]) (fun x:aV=>[.agg #[.int .i64 x.pc,.int .i64 x.bg,.int .i64 x.ln]]) (fun x=>.bool ((fun _:aV=>true) x)) (fun _:aV=>True):=
 kg.ofBig (by kernel_rfl) fun x hx w HS=>Ir m  x w HS
theorem KH (m:Mt) (b:Nat) (c:aV) (x:aV)  (w:World) (HS:S w [Ob b (.cells #[vI c.pc,vI c.bg,vI c.ln] 44 (0,0)),Ob m.b (.cells #[.string ((fieldS m.fld)),.map (some m.am),.map (some m.sm),.bool m.ch,.bool m.sn,.slice m.ap m.asked.length m.ac] 88 (0,0)),Mp (Value.int .i64) Value.bool cO m.am (cX m.alw),Mp (Value.int .i64) Value.bool cO m.sm (cX m.sug),Rw 44 3 m.ap m.asked.length m.ac (fl aO m.asked)]):Calls Tryz.prog 53 #[.agg #[vI x.pc,vI x.bg,vI x.ln],vP b] w fun e w'=>e=.returned (.bool ((fun x:aV=>decide (x=c)) x))∧S w' ([Ob b (.cells #[vI c.pc,vI c.bg,vI c.ln] 44 (0,0)),Ob m.b (.cells #[.string ((fieldS m.fld)),.map (some m.am),.map (some m.sm),.bool m.ch,.bool m.sn,.slice m.ap m.asked.length m.ac] 88 (0,0)),Mp (Value.int .i64) Value.bool cO m.am (cX m.alw),Mp (Value.int .i64) Value.bool cO m.sm (cX m.sug),Rw 44 3 m.ap m.asked.length m.ac (fl aO m.asked)]++[aB w (aT [Ob b (.cells #[vI c.pc,vI c.bg,vI c.ln] 44 (0,0)),Ob m.b (.cells #[.string ((fieldS m.fld)),.map (some m.am),.map (some m.sm),.bool m.ch,.bool m.sn,.slice m.ap m.asked.length m.ac] 88 (0,0)),Mp (Value.int .i64) Value.bool cO m.am (cX m.alw),Mp (Value.int .i64) Value.bool cO m.sm (cX m.sug),Rw 44 3 m.ap m.asked.length m.ac (fl aO m.asked)])]):=by
 have H0:=HS.beginI
 refine en Tryz.func53 ?_
 refine ah [0,1] ?_
 refine iF ?_
 refine l_of (fq H0 ?_)
 intro g1 H2 H3
 refine aC ?_
 refine w_v (fS H3 0) ?_
 refine w_v (fS H3 1) ?_
 refine bP (v:=.bool (decide (x=c))) (hb:=(wO x c)) ?_
 refine aC ?_
 refine af ?_
 exact ⟨rfl,H3.tk [1,2,3,4,5,6]⟩
theorem KJ (b:Nat) (m:Mt) (c:aV):kg Tryz.prog 53 #[] #[.pointer (some ⟨b,0,none⟩)] (fN [Ob b (.cells #[.int .i64 (c.pc),.int .i64 (c.bg),.int .i64 (c.ln)] 44 (0,0)),Ob m.b (.cells #[.string ((fieldS m.fld)),.map (some m.am),.map (some m.sm),.bool m.ch,.bool m.sn,.slice m.ap m.asked.length m.ac] 88 (0,0)),Mp (Value.int .i64) Value.bool cO m.am (cX m.alw),Mp (Value.int .i64) Value.bool cO m.sm (cX m.sug),Rw 44 3 m.ap m.asked.length m.ac (fl aO m.asked)]) (fun x:aV=>[.agg #[.int .i64 x.pc,.int .i64 x.bg,.int .i64 x.ln]]) (fun x=>.bool ((fun x:aV=>decide (x=c)) x)) (fun _:aV=>True):=
 kg.ofBig (by kernel_rfl) fun x hx w HS=>KH m b c x w HS
theorem NJ (m:Mt) (b:Nat) (c:aV) (x:aV)  (w:World) (HS:S w [Ob b (.cells #[vI c.pc,vI c.bg,vI c.ln] 44 (0,0)),Ob m.b (.cells #[.string ((fieldS m.fld)),.map (some m.am),.map (some m.sm),.bool m.ch,.bool m.sn,.slice m.ap m.asked.length m.ac] 88 (0,0)),Mp (Value.int .i64) Value.bool cO m.am (cX m.alw),Mp (Value.int .i64) Value.bool cO m.sm (cX m.sug),Rw 44 3 m.ap m.asked.length m.ac (fl aO m.asked)]):Calls Tryz.prog 127 #[.agg #[vI x.pc,vI x.bg,vI x.ln],vP b] w fun e w'=>e=.returned (.bool ((fun x:aV=>decide (x=c)) x))∧S w' ([Ob b (.cells #[vI c.pc,vI c.bg,vI c.ln] 44 (0,0)),Ob m.b (.cells #[.string ((fieldS m.fld)),.map (some m.am),.map (some m.sm),.bool m.ch,.bool m.sn,.slice m.ap m.asked.length m.ac] 88 (0,0)),Mp (Value.int .i64) Value.bool cO m.am (cX m.alw),Mp (Value.int .i64) Value.bool cO m.sm (cX m.sug),Rw 44 3 m.ap m.asked.length m.ac (fl aO m.asked)]++[aB w (aT [Ob b (.cells #[vI c.pc,vI c.bg,vI c.ln] 44 (0,0)),Ob m.b (.cells #[.string ((fieldS m.fld)),.map (some m.am),.map (some m.sm),.bool m.ch,.bool m.sn,.slice m.ap m.asked.length m.ac] 88 (0,0)),Mp (Value.int .i64) Value.bool cO m.am (cX m.alw),Mp (Value.int .i64) Value.bool cO m.sm (cX m.sug),Rw 44 3 m.ap m.asked.length m.ac (fl aO m.asked)])]):=by
 have H0:=HS.beginI
 refine en Tryz.func127 ?_
 refine ah [0,1] ?_
 refine iF ?_
 refine l_of (fq H0 ?_)
 intro g1 H2 H3
 refine aC ?_
 refine w_v (fS H3 0) ?_
 refine w_v (fS H3 1) ?_
 refine bP (v:=.bool (decide (x=c))) (hb:=(wO x c)) ?_
 refine aC ?_
 refine af ?_
 exact ⟨rfl,H3.tk [1,2,3,4,5,6]⟩
theorem NK (b:Nat) (m:Mt) (c:aV):kg Tryz.prog 127 #[] #[.pointer (some ⟨b,0,none⟩)] (fN [Ob b (.cells #[.int .i64 (c.pc),.int .i64 (c.bg),.int .i64 (c.ln)] 44 (0,0)),Ob m.b (.cells #[.string ((fieldS m.fld)),.map (some m.am),.map (some m.sm),.bool m.ch,.bool m.sn,.slice m.ap m.asked.length m.ac] 88 (0,0)),Mp (Value.int .i64) Value.bool cO m.am (cX m.alw),Mp (Value.int .i64) Value.bool cO m.sm (cX m.sug),Rw 44 3 m.ap m.asked.length m.ac (fl aO m.asked)]) (fun x:aV=>[.agg #[.int .i64 x.pc,.int .i64 x.bg,.int .i64 x.ln]]) (fun x=>.bool ((fun x:aV=>decide (x=c)) x)) (fun _:aV=>True):=
 kg.ofBig (by kernel_rfl) fun x hx w HS=>NJ m b c x w HS
theorem I_ (m:Mt) (b:Nat) (i:Int) (x:aV)  (w:World) (HS:S w [Ob b (.cells #[vI i] 3 (0,0)),Ob m.b (.cells #[.string ((fieldS m.fld)),.map (some m.am),.map (some m.sm),.bool m.ch,.bool m.sn,.slice m.ap m.asked.length m.ac] 88 (0,0)),Mp (Value.int .i64) Value.bool cO m.am (cX m.alw),Mp (Value.int .i64) Value.bool cO m.sm (cX m.sug),Rw 44 3 m.ap m.asked.length m.ac (fl aO m.asked)]):Calls Tryz.prog 111 #[.agg #[vI x.pc,vI x.bg,vI x.ln],vP b] w fun e w'=>e=.returned (.bool ((fun c:aV=>decide (c.pc=i)) x))∧S w' ([Ob b (.cells #[vI i] 3 (0,0)),Ob m.b (.cells #[.string ((fieldS m.fld)),.map (some m.am),.map (some m.sm),.bool m.ch,.bool m.sn,.slice m.ap m.asked.length m.ac] 88 (0,0)),Mp (Value.int .i64) Value.bool cO m.am (cX m.alw),Mp (Value.int .i64) Value.bool cO m.sm (cX m.sug),Rw 44 3 m.ap m.asked.length m.ac (fl aO m.asked)]++[aB w (aT [Ob b (.cells #[vI i] 3 (0,0)),Ob m.b (.cells #[.string ((fieldS m.fld)),.map (some m.am),.map (some m.sm),.bool m.ch,.bool m.sn,.slice m.ap m.asked.length m.ac] 88 (0,0)),Mp (Value.int .i64) Value.bool cO m.am (cX m.alw),Mp (Value.int .i64) Value.bool cO m.sm (cX m.sug),Rw 44 3 m.ap m.asked.length m.ac (fl aO m.asked)])]):=by
 have H0:=HS.beginI
 refine en Tryz.func111 ?_
 refine ah [0,1] ?_
 refine iF ?_
 refine l_of (fq H0 ?_)
 intro g1 H2 H3
 refine cS ?_
 refine af ?_
 exact ⟨rfl,H3.tk [1,2,3,4,5,6]⟩
theorem Ja (b:Nat) (m:Mt) (i:Int):kg Tryz.prog 111 #[] #[.pointer (some ⟨b,0,none⟩)] (fN [Ob b (.cells #[.int .i64 i] 3 (0,0)),Ob m.b (.cells #[.string ((fieldS m.fld)),.map (some m.am),.map (some m.sm),.bool m.ch,.bool m.sn,.slice m.ap m.asked.length m.ac] 88 (0,0)),Mp (Value.int .i64) Value.bool cO m.am (cX m.alw),Mp (Value.int .i64) Value.bool cO m.sm (cX m.sug),Rw 44 3 m.ap m.asked.length m.ac (fl aO m.asked)]) (fun x:aV=>[.agg #[.int .i64 x.pc,.int .i64 x.bg,.int .i64 x.ln]]) (fun x=>.bool ((fun c:aV=>decide (c.pc=i)) x)) (fun _:aV=>True):=
 kg.ofBig (by kernel_rfl) fun x hx w HS=>I_ m b i x w HS
theorem Jc (m:Mt) (b:Nat) (x:aV) (hx:0≤x.pc∧x.pc≤100)  (w:World) (HS:S w [Ob b (.cells #[vP m.b] 79 (0,0)),Ob m.b (.cells #[.string ((fieldS m.fld)),.map (some m.am),.map (some m.sm),.bool m.ch,.bool m.sn,.slice m.ap m.asked.length m.ac] 88 (0,0)),Mp (Value.int .i64) Value.bool cO m.am (cX m.alw),Mp (Value.int .i64) Value.bool cO m.sm (cX m.sug),Rw 44 3 m.ap m.asked.length m.ac (fl aO m.asked)]):Calls Tryz.prog 44 #[.agg #[vI x.pc,vI x.bg,vI x.ln],vP b] w fun e w'=>e=.returned (.bool ((fun c:aV=>!aF m.alw c.pc) x))∧S w' ([Ob b (.cells #[vP m.b] 79 (0,0)),Ob m.b (.cells #[.string ((fieldS m.fld)),.map (some m.am),.map (some m.sm),.bool m.ch,.bool m.sn,.slice m.ap m.asked.length m.ac] 88 (0,0)),Mp (Value.int .i64) Value.bool cO m.am (cX m.alw),Mp (Value.int .i64) Value.bool cO m.sm (cX m.sug),Rw 44 3 m.ap m.asked.length m.ac (fl aO m.asked)]++[aB w (aT [Ob b (.cells #[vP m.b] 79 (0,0)),Ob m.b (.cells #[.string ((fieldS m.fld)),.map (some m.am),.map (some m.sm),.bool m.ch,.bool m.sn,.slice m.ap m.asked.length m.ac] 88 (0,0)),Mp (Value.int .i64) Value.bool cO m.am (cX m.alw),Mp (Value.int .i64) Value.bool cO m.sm (cX m.sug),Rw 44 3 m.ap m.asked.length m.ac (fl aO m.asked)])]):=by
 have H0:=HS.beginI
 refine en Tryz.func44 ?_
 refine ah [0,1] ?_
 refine iF ?_
 refine l_of (fq H0 ?_)
 intro g1 H4 H3
 refine ae ?_
 refine g_seq ?_
 refine g_aS [] [] H3 (fun H2 H5=>?_)
 refine eY 0 1 H5 ?_
 refine aU 1 H5 ?_
 refine aU 2 H5 ?_
 refine eY 3 2 H5 ?_
 refine aU 4 H5 ?_
 refine eY 5 0 H5 ?_
 refine bT (v:=.bool ((aF m.alw x.pc))) 6 rfl H5 (fun _ H=>aH (bU (x:=x.pc) (iG Tryz.underlying86 Tryz.underlying3) H 3 rfl rfl rfl rfl (⟨by omega,by omega⟩) Jw) (by rw [Cq,xE (by omega)])) ?_
 refine bT (v:=.bool (!((aF m.alw x.pc)))) 7 rfl H5 (fun _ _=>cj (b:=(aF m.alw x.pc)) rfl rfl) ?_
 refine bG (i:=8) ?_
 refine iW xa ?_
 refine bF H5 ?_
 refine fP ?_
 refine ae ?_
 refine af ?_
 exact ⟨rfl,H5.tk [1,2,3,4,5,6]⟩
theorem Jd (b:Nat) (m:Mt):kg Tryz.prog 44 #[] #[.pointer (some ⟨b,0,none⟩)] (fN [Ob b (.cells #[.pointer (some ⟨m.b,0,none⟩)] 79 (0,0)),Ob m.b (.cells #[.string ((fieldS m.fld)),.map (some m.am),.map (some m.sm),.bool m.ch,.bool m.sn,.slice m.ap m.asked.length m.ac] 88 (0,0)),Mp (Value.int .i64) Value.bool cO m.am (cX m.alw),Mp (Value.int .i64) Value.bool cO m.sm (cX m.sug),Rw 44 3 m.ap m.asked.length m.ac (fl aO m.asked)]) (fun x:aV=>[.agg #[.int .i64 x.pc,.int .i64 x.bg,.int .i64 x.ln]]) (fun x=>.bool ((fun c:aV=>!aF m.alw c.pc) x)) (fun c:aV=>0≤c.pc∧c.pc≤100):=
 kg.ofBig (by kernel_rfl) fun x hx w HS=>Jc m b x hx w HS
theorem RR:aI Tryz.prog 43=true:=by kernel_rfl
theorem di.left {Y:XP} {B:PK} {j q:Nat} {m:Mt} {k:Int} (hY:di Y B) (hI:bQ j B) (hq:Y.ms[q]?=some m) (hk:m.k=k):di { Y with ms:=Y.ms.eraseIdx q } { B with peers:=B.peers.filter fun p=>decide (p.k ≠ k) }:=by
 refine ⟨?_,fun x hx=>hY.ask x (List.mem_of_mem_eraseIdx hx),hY.bn,hY.bf⟩
 show (Y.ms.eraseIdx q).map Mt.pe=B.peers.filter fun p=>decide (p.k ≠ k)
 rw [sZ,hY.ms,uE hI.nd (hY.at hq)]
 show B.peers.filter (fun p=>decide (p.k ≠ m.k))=_
 rw [hk]
theorem F2 {α:Type} (l:List α):(l.filter fun _=>true)=l:=List.filter_eq_self.2 fun _ _=>rfl
theorem Kq (X:XP) (A:PK) (j:Nat) (hX:di X A) (hI:bQ j A) (k:Int) (hj:j≤100000)  (w:World) (HS:S w [(XI X A)]):Calls Tryz.prog 28 #[vP X.g,vI k] w fun e w'=>∃ (Y:XP),Y.g=X.g∧di Y (A.leaveA k)∧∃ p' c',e=.returned (.tuple #[.slice p' (A.leaveL k).length c',vI (A.peE k)])∧S w' ([Rw 44 3 p' (A.leaveL k).length c' (fl aO (A.leaveL k)),(XI Y (A.leaveA k))]++[aB w (aT [(XI X A)])]):=by
 have H0:=HS.bu
 have h8:=hI.a8
 refine mG Tryz.func28 ?_
 refine ah [0,1] ?_
 refine ae ?_
 refine l_of (cA H0 l_ ?_)
 intro g1 x5 H3
 refine ae ?_
 refine l_of (eM (bh rfl) rfl (dc rfl rfl rfl) ?_)
 refine aE ?_
 by_cases H6:(A.peE k)=0
 ·
  have H9:=H3.b7 [1,2,3,4,5,6,7,0,8]
  refine l_of (aG (qb X A j hX hI k H6 _ (H9.tk [0])) ?_)
  rintro _ g9 ⟨H5,m6,H7,H8,rfl,x4⟩
  have x3:=H9.au x4
  refine bW ?_
  refine a_ ?_
  have g3:S _ [_,_,_,_,_,_,_,_,_,_]:=S.big (L:=[]) x3
  refine l_of (aG (wK X A j A.here hX hI (by omega) k H5 m6 H7 H8 (fun _:aV=>true) 85 #[] #[] (fN []) (fun _:aV=>True) (It m6) (fun _ _=>trivial) _ (g3.tk [0,1,6,5,7])) ?_)
  rintro _ g8 ⟨H2,H4,bs16,hY17,h3,h5,rfl,h6⟩
  replace h6:S _ [_,_,_,_,_,_,_,_,_,_,_]:=g3.abI (new:=[_,_,_,_,_,_]) [0,1,6,5,7] h6 rfl
  have hol9:(m6.asked.filter (fun _:aV=>true)).length≤m6.asked.length:=List.length_filter_le _ _
  have g2:=h6; rw [← gm (m':=({ m6 with ap:=H2,ac:=H4,asked:=m6.asked.filter fun y9=>!(fun _:aV=>true) y9 }:Mt)) (di.ndA hX hI) H7 rfl rfl] at g2
  refine bW ?_
  refine eG ?_
  refine l_of (wW (x:=k) (iG Tryz.underlying80 Tryz.underlying3) g2 8 (bh rfl) rfl rfl rfl rfl rfl ((by have h9:=vh H6; exact ⟨by omega,by omega⟩)) ?_)
  intro g7 x2
  refine cD ?_
  refine ah [4,5] ?_
  refine aC ?_
  refine l_of (eu x2 9 ?_)
  intro g6 x1
  refine ae ?_
  refine cY ?_
  refine dV (cT g1 _) ?_
  rintro _ _ h2 ⟨⟨rfl,h1⟩,rfl⟩
  replace h1:=x1.ab0 h1
  refine jb h1 9 ?_
  have h4:(X.ms.set H5 ({ m6 with ap:=H2,ac:=H4,asked:=m6.asked.filter fun y9=>!(fun _:aV=>true) y9 }:Mt))[H5]?=some ({ m6 with ap:=H2,ac:=H4,asked:=m6.asked.filter fun y9=>!(fun _:aV=>true) y9 }:Mt):=List.getElem?_set_self (List.getElem?_eq_some_iff.1 H7).1
  have hD9:=S.lstDrop (h1.tk [4,2,6,7,8,3,5,0,10]) h4
  have hM9:gV ((X.ms.set H5 ({ m6 with ap:=H2,ac:=H4,asked:=m6.asked.filter fun y9=>!(fun _:aV=>true) y9 }:Mt)).eraseIdx H5)=pX (gV (X.ms.set H5 ({ m6 with ap:=H2,ac:=H4,asked:=m6.asked.filter fun y9=>!(fun _:aV=>true) y9 }:Mt))) k:=(FG (di.nd hY17 (bQ.sub hI (jU _ _ _))) h4).trans (congrArg (pX (gV (X.ms.set H5 ({ m6 with ap:=H2,ac:=H4,asked:=m6.asked.filter fun y9=>!(fun _:aV=>true) y9 }:Mt)))) H8)
  have hF9:S h2 [X0 X A,X1 X A,X2 X A,Mp (Value.int .i64) j_ cO X.mg (gV ((X.ms.set H5 ({ m6 with ap:=H2,ac:=H4,asked:=m6.asked.filter fun y9=>!(fun _:aV=>true) y9 }:Mt)).eraseIdx H5)),(bM fA ((X.ms.set H5 ({ m6 with ap:=H2,ac:=H4,asked:=m6.asked.filter fun y9=>!(fun _:aV=>true) y9 }:Mt)).eraseIdx H5)),Mp pQ j_ qE X.bg (gZ bs16),(bM g_ bs16),Rw 44 3 h3 ((m6.asked.filter (fun _:aV=>true)).length) h5 (fl aO (m6.asked.filter (fun _:aV=>true))),aB w (aT [(XI X A)])]:=by rw [hM9]; exact hD9.tk [1,2,3,4,0,5,6,7,8]
  have hL9:A.leaveL k=bO A.asked k:=if_pos H6
  have hA9:A.leaveA k={ A with asked:=cx A.asked k (fun _=>true),peers:=A.peers.filter fun p=>decide (p.k ≠ k) }:=if_pos H6
  have ho9:(m6.asked.filter (fun _:aV=>true))=bO A.asked k:=by rw [F2,hX.ask m6 (List.mem_of_getElem? H7),H8]
  rw [ho9] at hF9
  rw [hL9,hA9,H6,ho9]
  exact ⟨({ X with ms:=((X.ms.set H5 ({ m6 with ap:=H2,ac:=H4,asked:=m6.asked.filter fun y9=>!(fun _:aV=>true) y9 }:Mt)).eraseIdx H5),bs:=bs16 }:XP),rfl,di.left hY17 (bQ.sub hI (jU _ _ _)) h4 H8,_,_,rfl,(S.big (L:=[_,_,_,_,_,_,_]) hF9).tk [1,0,2]⟩
 have g0:=H3.b7 [1,2,3,4,5,6,7,0,8]
 refine l_of (aG (su X A j hX hI k H6 _ (g0.tk [0])) ?_)
 rintro _ g5 ⟨rfl,x0⟩
 have h7:=g0.au x0
 refine bB ?_
 refine aA ?_
 refine aX ?_
 refine dV (bC g1 (A.peE k) (0) [] _ (h7.ob (k:=7) rfl)) ?_
 rintro _ _ g4 ⟨⟨rfl,h0⟩,rfl⟩
 replace h0:=h7.aK 7 h0
 refine jb h0 0 ?_
 have hL9:A.leaveL k=[]:=if_neg H6
 have hA9:A.leaveA k=A:=if_neg H6
 rw [hL9,hA9]
 exact ⟨X,rfl,hX,none,0,rfl,(h0.b7 [1,2,3,4,5,6,7,8]).nilFl 44 3 aO⟩
theorem NI {A:PK} {k:Int} {c:aV} (h:¬ A.boE k c.pc=0):A.rejE k c=A.boE k c.pc:=by
 unfold PK.rejE
 by_cases hn:c.pc<0
 · rw [if_pos hn]; exact (if_pos (.inr (.inl hn))).symm
 · rw [if_neg hn,if_pos h]
theorem Lb {A:PK} {k:Int} {c:aV} (h:k ∉ cn A.asked c):cx A.asked k (fun x=>decide (x=c))=A.asked:=by
 unfold cx
 rw [List.filter_eq_self]
 intro a ha
 by_cases h1:a.1=k <;> by_cases h2:a.2=c <;> simp [h1,h2]
 exact h (gp.2 (by rw [← h1,← h2]; exact ha))
theorem Qn (X:XP) (A:PK) (j:Nat) (hX:di X A) (hI:bQ j A) (k:Int) (c:aV) (hj:j≤100000)  (w:World) (HS:S w [(XI X A)]):Calls Tryz.prog 79 #[vP X.g,vI k,.agg #[vI c.pc,vI c.bg,vI c.ln]] w fun e w'=>∃ (Y:XP),Y.g=X.g∧di Y (A.rejA k c)∧e=.returned (vI (A.rejE k c))∧S w' ([(XI Y (A.rejA k c))]++[aB w (aT [(XI X A)])]):=by
 have H0:=HS.bu
 have h8:=hI.a8
 refine mG Tryz.func79 ?_
 refine ah [0,1,2] ?_
 refine iF ?_
 refine l_of (fq H0 ?_)
 intro g1 k0 H3
 refine l_of (cA H3 l_ ?_)
 intro g4 b9 H6
 refine ae ?_
 refine l_of (eM (bh rfl) rfl (dc rfl rfl rfl) ?_)
 refine a_ ?_
 by_cases H4:(A.boE k c.pc)=0
 ·
  have x0:=H6.b7 [2,3,4,5,6,7,8,0,1,9]
  refine l_of (aG (wH X A j hX hI k c.pc H4 _ (x0.tk [0])) ?_)
  rintro _ c8 ⟨h1,m9,H5,H9,rfl,b8⟩
  have g3:=x0.au b8
  refine bW ?_
  refine aE ?_
  refine w_v (fS g3 8) ?_
  by_cases H2:A.isB c
  ·
   refine l_of (fZ g3 [0,1,2,3,4,5,6,7,8,9] (PW X A j hX hI c (fQ (by assumption)).2 H2 _) ?_)
   intro c7 g9
   refine aQ ?_
   refine w_v (h_ rfl rfl rfl) ?_
   refine l_of (aG (wK X A j A.here hX hI (by omega) k h1 m9 H5 H9 (fun x:aV=>decide (x=c)) 127 #[] #[vP g1] (Ob g1 (.cells #[vI c.pc,vI c.bg,vI c.ln] 44 (0,0))) (fun _:aV=>True) (NK g1 m9 c) (fun _ _=>trivial) _ (g9.tk [8,0,5,4,6])) ?_)
   rintro _ c6 ⟨H7,H8,bs23,hY24,w8,w9,rfl,g2⟩
   replace g2:S _ [_,_,_,_,_,_,_,_,_,_,_]:=g9.abI (new:=[_,_,_,_,_,_]) [8,0,5,4,6] g2 rfl
   have hol9:(m9.asked.filter (fun x:aV=>decide (x=c))).length≤m9.asked.length:=List.length_filter_le _ _
   have g0:=g2; rw [← gm (m':=({ m9 with ap:=H7,ac:=H8,asked:=m9.asked.filter fun y9=>!(fun x:aV=>decide (x=c)) y9 }:Mt)) (di.ndA hX hI) H5 rfl rfl] at g0
   refine bW ?_
   refine ae ?_
   by_cases h0:(0:Int)<((m9.asked.filter (fun x:aV=>decide (x=c))).length:Int)
   ·
    refine l_of (cz g0 (ez (decide ((0:Int)<((m9.asked.filter (fun x:aV=>decide (x=c))).length:Int))) 20 (dt h0) _) ?_)
    intro x9 b6
    refine cD ?_
    refine ah [6] ?_
    refine iF ?_
    refine l_of (eu b6 9 ?_)
    intro x8 b2
    refine ae ?_
    refine cY ?_
    refine dV (cT g4 _) ?_
    rintro _ _ x7 ⟨⟨rfl,h6⟩,rfl⟩
    replace h6:=b2.ab0 h6
    refine fG h6 9 ?_
    have hma9:m9.asked=bO A.asked k:=by rw [hX.ask m9 (List.mem_of_getElem? H5),H9]
    have hin:k∈cn A.asked c:=by obtain ⟨c9,hc9⟩:=List.exists_mem_of_length_pos (show 0<(m9.asked.filter (fun x:aV=>decide (x=c))).length by omega); obtain ⟨h7,h8⟩:=List.mem_filter.1 hc9; have h8:c9=c:=of_decide_eq_true h8; subst h8; rw [hma9] at h7; exact gp.2 (gq.1 h7)
    have hE:A.rejE k c=0:=by unfold PK.rejE; rw [if_neg (by have h9:=(fQ H4).2; omega),if_neg (fun h9=>h9 H4),if_neg (fun h9=>h9 H2)]; exact if_neg (fun h9=>h9 hin)
    have hA9:A.rejA k c={ A with asked:=cx A.asked k fun x=>decide (x=c) }:=if_pos hE
    rw [hA9,hE]
    exact ⟨({ X with ms:=(X.ms.set h1 ({ m9 with ap:=H7,ac:=H8,asked:=m9.asked.filter fun y9=>!(fun x:aV=>decide (x=c)) y9 }:Mt)),bs:=bs23 }:XP),rfl,hY24,rfl,(h6.b7 [2,6,7,8,4,3,5,10])⟩
   refine l_of (aG (fh (decide ((0:Int)<((m9.asked.filter (fun x:aV=>decide (x=c))).length:Int))) 20 (df h0) _) ?_)
   rintro _ x6 ⟨rfl,h5⟩
   replace h5:=g0.ab0 h5
   refine bB ?_
   refine aA ?_
   refine aX ?_
   refine dV (bC g4 20 (0) [] _ (h5.ob (k:=9) rfl)) ?_
   rintro _ _ x5 ⟨⟨rfl,h4⟩,rfl⟩
   replace h4:=h5.aK 9 h4
   refine fG h4 0 ?_
   have hma9:m9.asked=bO A.asked k:=by rw [hX.ask m9 (List.mem_of_getElem? H5),H9]
   have hno:k ∉ cn A.asked c:=fun h9=>h0 (by have h8:0<(m9.asked.filter (fun x:aV=>decide (x=c))).length:=List.length_pos_of_mem (List.mem_filter.2 ⟨by rw [hma9]; exact gq.2 (gp.1 h9),dt rfl⟩); omega)
   have hE:A.rejE k c=20:=by unfold PK.rejE; rw [if_neg (by have h9:=(fQ H4).2; omega),if_neg (fun h9=>h9 H4),if_neg (fun h9=>h9 H2)]; exact if_pos hno
   have hA9:A.rejA k c=A:=by unfold PK.rejA; rw [hE]; exact if_neg (by decide)
   have hdel:cx A.asked k (fun x=>decide (x=c))=A.asked:=Lb hno
   rw [hA9,hE]
   have hY9:di ({ X with ms:=(X.ms.set h1 ({ m9 with ap:=H7,ac:=H8,asked:=m9.asked.filter fun y9=>!(fun x:aV=>decide (x=c)) y9 }:Mt)),bs:=bs23 }:XP) A:=by have h9:=hY24; rw [hdel] at h9; exact h9
   have hS9:=(h4.b7 [3,7,8,9,5,4,6,10])
   skip
   exact ⟨({ X with ms:=(X.ms.set h1 ({ m9 with ap:=H7,ac:=H8,asked:=m9.asked.filter fun y9=>!(fun x:aV=>decide (x=c)) y9 }:Mt)),bs:=bs23 }:XP),rfl,hY9,rfl,hS9⟩
  have g8:=g3.b7 [0,1,2,3,4,5,6,7,8,9]
  refine l_of (aG (PX X A j hX hI c (fQ (by assumption)).2 H2 _ (g8.tk [0])) ?_)
  rintro _ x4 ⟨rfl,b1⟩
  have g7:=g8.au b1
  refine bB ?_
  refine aA ?_
  refine aX ?_
  refine dV (bC g4 1 (0) [] _ (g7.ob (k:=7) rfl)) ?_
  rintro _ _ x3 ⟨⟨rfl,h3⟩,rfl⟩
  replace h3:=g7.aK 7 h3
  refine fG h3 0 ?_
  have hE:A.rejE k c=1:=by unfold PK.rejE; rw [if_neg (by have h9:=(fQ H4).2; omega),if_neg (fun h9=>h9 H4),if_pos H2]
  have hA9:A.rejA k c=A:=by unfold PK.rejA; rw [hE]; exact if_neg (by decide)
  rw [hA9]
  exact ⟨X,rfl,hX,(by rw [hE]; rfl),(h3.b7 [1,2,3,4,5,6,7,9])⟩
 have g6:=H6.b7 [2,3,4,5,6,7,8,0,1,9]
 refine l_of (aG (wI X A j hX hI k c.pc H4 _ (g6.tk [0])) ?_)
 rintro _ x2 ⟨rfl,b0⟩
 have g5:=g6.au b0
 refine bB ?_
 refine aA ?_
 refine aX ?_
 refine dV (bC g4 (A.boE k c.pc) (0) [] _ (g5.ob (k:=7) rfl)) ?_
 rintro _ _ x1 ⟨⟨rfl,h2⟩,rfl⟩
 replace h2:=g5.aK 7 h2
 refine fG h2 0 ?_
 have hE:A.rejE k c=A.boE k c.pc:=NI H4
 have hA9:A.rejA k c=A:=by unfold PK.rejA; rw [hE]; exact if_neg H4
 rw [hA9]
 exact ⟨X,rfl,hX,(by rw [hE]; rfl),(h2.b7 [1,2,3,4,5,6,7,9])⟩
end Go.Proofs.YthmmfhdpkddniaaGreatDoor
