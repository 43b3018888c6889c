import Derived.Test.YtpbjekdjebjbkaaGreatDoorFm
import Derived.Test.YtpbjekdjebjbkaaGreatDoorTh
import Derived.Test.YtpbjekdjebjbkaaGreatDoorTk
set_option maxRecDepth 20000
set_option maxHeartbeats 4000000
set_option linter.unusedSimpArgs false
set_option linter.unusedVariables false
namespace Go.Proofs.YtpbjekdjebjbkaaGreatDoor
open Go.RowKit
theorem must_t {P:Int→Option Int} {rt i:Int} (h:(P i).isSome=true):mustV P rt i=(P i).getD 0:=by
 unfold mustV
 cases e:P i with
 | none=>rw [e] at h; cases h
 | some v=>rfl
theorem must_f {P:Int→Option Int} {rt i:Int} (h:(P i).isSome=false):mustV P rt i=rt / 4:=by
 unfold mustV
 cases e:P i with
 | none=>rfl
 | some v=>rw [e] at h; cases h
theorem must_bd {P:Int→Option Int} {rt:Int} (hP:∀ i v,P i=some v→0≤v∧v≤1000000) (hr:0≤rt∧rt≤1000000) (i:Int):0≤mustV P rt i∧mustV P rt i≤1000000:=by
 unfold mustV
 cases e:P i with
 | none=>show 0≤rt / 4∧rt / 4≤1000000; omega
 | some v=>exact hP i v e
theorem mul_bd {x y:Int} (hx:0≤x∧x≤1000000) (hy:0≤y∧y≤1000000):0≤x * y∧x * y≤1000000000000:=by
 have h1:=Int.mul_nonneg hx.1 hy.1
 have h2:x * y≤1000000 * 1000000:=Int.mul_le_mul hx.2 hy.2 hy.1 (by decide)
 omega
theorem mV_int (l:List Int):mV (Value.int .i64) l=fl intL l:=by
 unfold mV fl
 rfl
theorem sort_i (l:List Int) (p:Option Addr) (c:Nat) (hl:l.length≤20) (cm:Int→Int→Int) (gc:Nat) (fi ca:Array Value) (X:Item) (hc:Cmps Tryz.prog gc fi ca X (Value.int .i64) cm l) (w:World) (HS:S w [Rw 3 1 p l.length c (fl intL l),X]) :
   Calls Tryz.prog 217 #[.slice p l.length c,.func (.func gc) fi ca] w fun e w'=>e=.returned (.tuple #[])∧S w' ([Rw 3 1 p l.length c (fl intL (stableS 0 cm l)),X]++[Old w (fps [Rw 3 1 p l.length c (fl intL l),X])]):=by
 have h:=sortStable_i 0 (Value.int .i64) (fun _=>rfl) (fun _=>rfl) (fun _=>rfl) l l.length rfl p c (by omega) cm gc fi ca X hc hl w
 rw [mV_int,mV_int] at h
 exact h HS
theorem tyrF_snoc (m:Int→Int) (n:Nat) (rt:Int) (l:List Int) (x:Int):tyrF m n rt (l++[x])=tyrS m (tyrF m n rt l) x:=by
 unfold tyrF
 rw [List.foldl_append]; rfl
theorem tyr_stay (m:Int→Int):∀ (l:List Int) {s:TyR},s.stop=true→l.foldl (tyrS m) s=s
 | [],s,_=>rfl
 | a :: l,s,h=>by
   rw [List.foldl_cons,show tyrS m s a=s from by unfold tyrS; rw [if_pos h]]
   exact tyr_stay m l h
theorem tyr_brk {m:Int→Int} {n:Nat} {rt:Int} {l:List Int} {i:Nat} {x:Int} {s:TyR} (hx:l[i]?=some x) (hs:s=tyrF m n rt (l.take i)) (hst:s.stop=false) (hlt:s.left<m x):tyrF m n rt l={ s with stop:=true }:=by
 obtain ⟨hi,hxe⟩:=List.getElem?_eq_some_iff.1 hx
 have e:l=l.take (i+1)++l.drop (i+1):=(List.take_append_drop _ _).symm
 rw [e,take_snocT hx]
 unfold tyrF
 rw [List.foldl_append,List.foldl_append]
 have e2:(l.take i).foldl (tyrS m) ⟨List.replicate n 0,fun _=>none,rt,false⟩=s:=hs.symm
 rw [e2]
 show (l.drop (i+1)).foldl (tyrS m) (tyrS m s x)=_
 rw [show tyrS m s x={ s with stop:=true } from by unfold tyrS; rw [if_neg (by rw [hst]; decide),if_pos hlt]]
 exact tyr_stay m _ rfl
abbrev DTl1 (b pg bg:Nat) (cg:Option Nat):=Ob b (.cells #[.map (some pg),.map (some bg),.map cg] 101 (0,0))
theorem must_s (b pg bg:Nat) (cg:Option Nat) (P:Int→Option Int) (hP:∀ i v,P i=some v→0≤v∧v≤1000000) (g:Nat) (gp:Option Addr) (gc gn:Nat) (seed:ByteArray) (pp:Option Addr) (pc:Nat) (ps:List Pl) (sp:Option Addr) (sc sn:Nat) (tp:Option Addr) (tc tn:Nat) (vp:Option Addr) (vc vn:Nat) (bp:Option Addr) (bc bn:Nat) (me:Int) (h0m:0≤me) (pm:Pl) (hm:ps[me.toNat]?=some pm) (rt:Int) (hrt:pm.rt=rt) (hr0:0≤rt∧rt≤1000000) (i:Int) (hi:okI i)  (w:World) (HS:S w [DTl1 b pg bg cg,Mp (Value.int .i64) (Value.int .i64) okI pg P,Ob g (.cells #[.slice gp gn gc,.string seed,.slice pp ps.length pc,.slice sp sn sc,.slice tp tn tc,.slice vp vn vc,.slice bp bn bc] 61 (0,0)),Rw 27 2 pp ps.length pc (fl plL ps)]):Calls Tryz.prog 214 #[.pointer (some ⟨b,0,none⟩),.pointer (some ⟨g,0,none⟩),.int .i64 me,.int .i64 i] w fun e w'=>e=.returned (.int .i64 (mustV P rt i))∧S w' ([DTl1 b pg bg cg,Mp (Value.int .i64) (Value.int .i64) okI pg P,Ob g (.cells #[.slice gp gn gc,.string seed,.slice pp ps.length pc,.slice sp sn sc,.slice tp tn tc,.slice vp vn vc,.slice bp bn bc] 61 (0,0)),Rw 27 2 pp ps.length pc (fl plL ps)]++[Old w (fps [DTl1 b pg bg cg,Mp (Value.int .i64) (Value.int .i64) okI pg P,Ob g (.cells #[.slice gp gn gc,.string seed,.slice pp ps.length pc,.slice sp sn sc,.slice tp tn tc,.slice vp vn vc,.slice bp bn bc] 61 (0,0)),Rw 27 2 pp ps.length pc (fl plL ps)])]):=by
 have H0:=HS.beginI
 have hmp:=(List.getElem?_eq_some_iff.1 hm).1
 refine enter 32 Tryz.func214 rfl rfl rfl ?_
 refine g_wk [(0,_),(1,_),(2,_),(3,_)] ?_
 refine w_s ?_
 refine w_k8 ?_
 refine w_v (v:=.tuple #[.int .i64 (((P i).getD 0)),.bool ((P i).isSome)]) (ex_cast (x_lookup (x:=i) (intTy Tryz.underlying98 Tryz.underlying3) H0 1 rfl rfl rfl rfl (hi) ze3) (by rw [look_I _])) ?_
 refine w_k9 ?_
 refine w_v (x_not (b:=(P i).isSome) rfl rfl) ?_
 refine w_e ?_
 rcases Bool.eq_false_or_eq_true ((P i).isSome) with hb1 | hb1
 ·
  refine g_cond_f rfl (neg_of hb1) ?_
  refine w_k7 ?_
  refine fin_r [.tmp 8] [.int .i64 (((P i).getD 0))] ?_
  rw [must_t hb1]
  exact ⟨rfl,(H0.tk [0,1,2,3,4])⟩
 ·
  refine g_cond_t rfl (neg_of hb1) ?_
  refine w_k6 ?_
  refine w_v (x_i ((me).toNat) (H0.rr 3)) ?_
  refine w_v (v:=.pointer ((pp).map fun q=>q.add (((me).toNat) * 2+1))) (ex_cast (x_fieldAddrG (m:=((me).toNat) * 2) ((H0.rr 3).some (by omega)) rfl rfl fo27_1) rfl) ?_
  obtain ⟨x2,hx2⟩:=(H0.rr 3).exL plE ((me).toNat)
  have hrx:x2.rt=rt:=by rw [show x2=pm from Option.some.inj (hx2.symm.trans hm)]; exact hrt
  refine w_v (v:=.int .i64 rt) (ex_cast (x_loadF1 (i:=1) (j:=((me).toNat)) plE (H0.rr 3) hx2 rfl rfl Tryz.underlying3 rfl rfl) (by rw [hrx])) ?_
  refine w_b (v:=.int .i64 (rt / 4)) (hb:=(b_quo (by omega) (quo64 (by omega)))) ?_
  refine w_k4 ?_
  refine fin_r [.tmp 8] [.int .i64 (rt / 4)] ?_
  rw [must_f hb1]
  exact ⟨rfl,(H0.tk [0,1,2,3,4])⟩
abbrev DTl0 (g:Nat) (gp:Option Addr) (gs:List Rd) (gc:Nat) (seed:ByteArray) (pp:Option Addr) (ps:List Pl) (pc:Nat) (sp:Option Addr) (sn sc:Nat) (tp:Option Addr) (tn tc:Nat) (vp:Option Addr) (vn vc:Nat) (bp:Option Addr) (bn bc:Nat):=Ob g (.cells #[.slice gp gs.length gc,.string seed,.slice pp ps.length pc,.slice sp sn sc,.slice tp tn tc,.slice vp vn vc,.slice bp bn bc] 61 (0,0))
abbrev DTl2 (ug g:Nat):=Ob ug (.cells #[.pointer (some ⟨g,0,none⟩)] 29 (0,0))
abbrev DTl3 (ut b:Nat):=Ob ut (.cells #[.pointer (some ⟨b,0,none⟩)] 97 (0,0))
theorem tyr1_s (ug um ut:Nat) (b pg bg:Nat) (cg:Option Nat) (P:Int→Option Int) (hP:∀ i v,P i=some v→0≤v∧v≤1000000) (g:Nat) (seed:ByteArray) (pp:Option Addr) (pc:Nat) (ps:List Pl) (sp:Option Addr) (sc sn:Nat) (tp:Option Addr) (tc tn:Nat) (vp:Option Addr) (vc vn:Nat) (bp:Option Addr) (bc bn:Nat) (pl gs:List Rd) (gp:Option Addr) (gc:Nat) (hG:GsOK ps.length pl gs) (hgl:gs.length≤200) (hnp:ps.length≤9) (me:Int) (h0m:0≤me) (pm:Pl) (hm:ps[me.toNat]?=some pm) (rt:Int) (hrt:pm.rt=rt) (hr0:0≤rt∧rt≤1000000) (a z:Int) (ha:0≤a∧a<ps.length) (hb:0≤z∧z<ps.length)  (w:World) (HS:S w [DTl2 ug g,Ob um (.cells #[.int .i64 me] 3 (0,0)),DTl3 ut b,DTl1 b pg bg cg,Mp (Value.int .i64) (Value.int .i64) okI pg P,DTl0 g gp gs gc seed pp ps pc sp sn sc tp tn tc vp vn vc bp bn bc,Rw 39 1 gp gs.length gc (fl rowL gs),Rw 27 2 pp ps.length pc (fl plL ps),(Pool pl)]):Calls Tryz.prog 218 #[.int .i64 a,.int .i64 z,.pointer (some ⟨ug,0,none⟩),.pointer (some ⟨um,0,none⟩),.pointer (some ⟨ut,0,none⟩)] w fun e w'=>e=.returned (.int .i64 (tyrC (gs.map Rd.v) P rt me a z))∧S w' ([DTl2 ug g,Ob um (.cells #[.int .i64 me] 3 (0,0)),DTl3 ut b,DTl1 b pg bg cg,Mp (Value.int .i64) (Value.int .i64) okI pg P,DTl0 g gp gs gc seed pp ps pc sp sn sc tp tn tc vp vn vc bp bn bc,Rw 39 1 gp gs.length gc (fl rowL gs),Rw 27 2 pp ps.length pc (fl plL ps),(Pool pl)]++[Old w (fps [DTl2 ug g,Ob um (.cells #[.int .i64 me] 3 (0,0)),DTl3 ut b,DTl1 b pg bg cg,Mp (Value.int .i64) (Value.int .i64) okI pg P,DTl0 g gp gs gc seed pp ps pc sp sn sc tp tn tc vp vn vc bp bn bc,Rw 39 1 gp gs.length gc (fl rowL gs),Rw 27 2 pp ps.length pc (fl plL ps),(Pool pl)])]):=by
 have H0:=HS.beginI
 have hmp:=(List.getElem?_eq_some_iff.1 hm).1
 refine enter 48 Tryz.func218 rfl rfl rfl ?_
 refine g_wk [(0,_),(1,_),(2,_),(3,_),(4,_)] ?_
 refine w_s ?_
 refine w_k2 ?_
 refine g_seq ?_
 refine g_anyY [] (fun wx=>S wx [DTl2 ug g,Ob um (.cells #[.int .i64 me] 3 (0,0)),DTl0 g gp gs gc seed pp ps pc sp sn sc tp tn tc vp vn vc bp bn bc]) (fun wx=>S wx [DTl2 ug g,Ob um (.cells #[.int .i64 me] 3 (0,0)),DTl0 g gp gs gc seed pp ps pc sp sn sc tp tn tc vp vn vc bp bn bc]) [] (by kernel_rfl) H0 (fun wq1 H2=>?_)
 have cm1:=H2.mask [true,true,false,false,false,true,false,false,false,false]
 refine y_t 0 rfl cm1 (fun _ H=>xl H 0) ?_
 refine y_p 1 rfl (fun _=>xn) ?_
 refine y_p 2 rfl (fun _=>xf 0) ?_
 refine y_t (v:=.agg #[.slice gp gs.length gc]) 3 rfl cm1 (fun _ H=>x_loadA H 2 rfl rfl Tryz.underlying58 rfl sz58 rfl rfl rfl) ?_
 refine y_p 4 rfl (fun _=>xm) ?_
 refine y_t 5 rfl cm1 (fun _ H=>xl H 1) ?_
 refine y_t 7 rfl cm1 (fun _ H=>xl H 0) ?_
 refine y_p 8 rfl (fun _=>xn) ?_
 refine y_p 9 rfl (fun _=>xf 0) ?_
 refine y_t (v:=.agg #[.slice gp gs.length gc]) 10 rfl cm1 (fun _ H=>x_loadA H 2 rfl rfl Tryz.underlying58 rfl sz58 rfl rfl rfl) ?_
 refine y_p 11 rfl (fun _=>xm) ?_
 refine y_t 12 rfl cm1 (fun _ H=>xl H 1) ?_
 refine y_one (i:=6) (by kernel_rfl) rfl ?_
 refine s_cl (tlast_s ps.length pl gs gp gc hnp hG hgl a me ha ⟨h0m,by omega⟩ _ (H2.tk [6,8])) ?_
 rintro _ wq4 ⟨rfl,H5⟩
 replace H5:S _ [_,_,_,_,_,_,_,_,_,_]:=H2.abI (new:=[_,_]) [6,8] H5 rfl
 have hlbq3:=lastV_bd hG a me
 refine b_ret rfl rfl ?_
 have cm2:=H5.mask [false,false,true,true,false,false,false,true,false,false]
 refine y_k cm2 cm2 ?_
 refine y_one (i:=13) (by kernel_rfl) rfl ?_
 refine s_cl (tlast_s ps.length pl gs gp gc hnp hG hgl z me hb ⟨h0m,by omega⟩ _ (H5.tk [0,1])) ?_
 rintro _ wq7 ⟨rfl,H8⟩
 replace H8:S _ [_,_,_,_,_,_,_,_,_,_]:=H5.abI (new:=[_,_]) [0,1] H8 rfl
 have hlbq6:=lastV_bd hG z me
 refine b_ret rfl rfl ?_
 have cm3:=H8.mask [false,false,true,true,false,false,false,true,false,false]
 refine y_k cm3 cm3 ?_
 refine y_p 14 rfl (fun _=>xa) ?_
 refine y_p 15 rfl (fun _=>xa) ?_
 refine y_done (by kernel_rfl) ?_
 refine w_k6 ?_
 by_cases hb9:((lastV (gs.map Rd.v) a me):Int)=0
 ·
  iterate 2 refine w_n (decide_eq_true hb9) ?_
  refine w_v (x_pick_t rfl rfl (decide_eq_true hb9) rfl) ?_
  refine w_e ?_
  refine g_cond_t rfl rfl ?_
  refine w_k3 ?_
  refine w_b (v:=.int .i64 ((lastV (gs.map Rd.v) z me) - (lastV (gs.map Rd.v) a me))) (hb:=(b_sub (w64 (by omega)))) ?_
  refine w_k4 ?_
  refine fin_r [.tmp 7] [.int .i64 ((lastV (gs.map Rd.v) z me) - (lastV (gs.map Rd.v) a me))] ?_
  exact ⟨by unfold tyrC; first | (rw [if_pos (by omega)]; rfl) | (rw [if_neg (by omega)]; rfl),(H8.tk [2,3,4,5,6,7,0,8,1,9])⟩
 ·
  refine w_g (decide_eq_false hb9) xm ?_
  refine w_g (decide_eq_false hb9) (x_bin rfl rfl rfl b_eql) ?_
  refine w_v (x_pick_f rfl rfl (decide_eq_false hb9) rfl) ?_
  refine w_e ?_
  by_cases hb10:((lastV (gs.map Rd.v) z me):Int)=0
  ·
   refine g_ct hb10 ?_
   refine w_k3 ?_
   refine w_b (v:=.int .i64 ((lastV (gs.map Rd.v) z me) - (lastV (gs.map Rd.v) a me))) (hb:=(b_sub (w64 (by omega)))) ?_
   refine w_k4 ?_
   refine fin_r [.tmp 7] [.int .i64 ((lastV (gs.map Rd.v) z me) - (lastV (gs.map Rd.v) a me))] ?_
   exact ⟨by unfold tyrC; first | (rw [if_pos (by omega)]; rfl) | (rw [if_neg (by omega)]; rfl),(H8.tk [2,3,4,5,6,7,0,8,1,9])⟩
  ·
   refine g_cf hb10 ?_
   refine w_k2 ?_
   refine g_seq ?_
   refine g_anyY [] (fun wx=>S wx [DTl2 ug g,Ob um (.cells #[.int .i64 me] 3 (0,0)),DTl3 ut b]) (fun wx=>S wx [DTl2 ug g,Ob um (.cells #[.int .i64 me] 3 (0,0)),DTl3 ut b]) [] (by kernel_rfl) H8 (fun wq11 H12=>?_)
   refine y_p 0 rfl (fun _=>xm) ?_
   have cm4:=H12.mask [false,false,true,true,true,false,false,false,false,false]
   refine y_t 1 rfl cm4 (fun _ H=>xl H 2) ?_
   refine y_t 2 rfl cm4 (fun _ H=>xl H 0) ?_
   refine y_t 3 rfl cm4 (fun _ H=>xl H 1) ?_
   refine y_p 4 rfl (fun _=>xm) ?_
   refine y_p 7 rfl (fun _=>xm) ?_
   refine y_t 8 rfl cm4 (fun _ H=>xl H 2) ?_
   refine y_t 9 rfl cm4 (fun _ H=>xl H 0) ?_
   refine y_t 10 rfl cm4 (fun _ H=>xl H 1) ?_
   refine y_p 11 rfl (fun _=>xm) ?_
   refine y_one (i:=5) (by kernel_rfl) rfl ?_
   refine s_cl (must_s b pg bg cg P hP g gp gc gs.length seed pp pc ps sp sc sn tp tc tn vp vc vn bp bc bn me h0m pm hm rt hrt hr0 a ⟨by omega,by omega⟩ _ (H12.tk [5,6,7,8])) ?_
   rintro _ wq14 ⟨rfl,H15⟩
   replace H15:S _ [_,_,_,_,_,_,_,_,_,_]:=H12.abI (new:=[_,_,_,_]) [5,6,7,8] H15 rfl
   have hmbq13:=must_bd hP hr0 a
   refine b_ret rfl rfl ?_
   have cm5:=H15.mask [false,false,false,false,false,false,true,true,true,false]
   refine y_k cm5 cm5 ?_
   have hp16:=mul_bd (lastV_bd hG z me) (must_bd hP hr0 a)
   refine y_p (v:=.int .i64 ((lastV (gs.map Rd.v) z me) * (mustV P rt a))) 6 rfl (fun _=>x_bin rfl rfl rfl (b_mul (w64 (by omega)))) ?_
   refine y_one (i:=12) (by kernel_rfl) rfl ?_
   refine s_cl (must_s b pg bg cg P hP g gp gc gs.length seed pp pc ps sp sc sn tp tc tn vp vc vn bp bc bn me h0m pm hm rt hrt hr0 z ⟨by omega,by omega⟩ _ (H15.tk [0,1,2,3])) ?_
   rintro _ wq18 ⟨rfl,H19⟩
   replace H19:S _ [_,_,_,_,_,_,_,_,_,_]:=H15.abI (new:=[_,_,_,_]) [0,1,2,3] H19 rfl
   have hmbq17:=must_bd hP hr0 z
   refine b_ret rfl rfl ?_
   have cm6:=H19.mask [false,false,false,false,false,false,true,true,true,false]
   refine y_k cm6 cm6 ?_
   have hp20:=mul_bd (lastV_bd hG a me) (must_bd hP hr0 z)
   refine y_p (v:=.int .i64 ((lastV (gs.map Rd.v) a me) * (mustV P rt z))) 13 rfl (fun _=>x_bin rfl rfl rfl (b_mul (w64 (by omega)))) ?_
   refine y_p (v:=.int .i64 (((lastV (gs.map Rd.v) z me) * (mustV P rt a)) - ((lastV (gs.map Rd.v) a me) * (mustV P rt z)))) 14 rfl (fun _=>x_bin rfl rfl rfl (b_sub (w64 (by omega)))) ?_
   refine y_p 15 rfl (fun _=>xa) ?_
   refine y_done (by kernel_rfl) ?_
   refine w_0 ?_
   refine g_wk [(7,_)] ?_
   refine g_ret ?_
   refine fin_r [.tmp 7] [.int .i64 (((lastV (gs.map Rd.v) z me) * (mustV P rt a)) - ((lastV (gs.map Rd.v) a me) * (mustV P rt z)))] ?_
   exact ⟨by unfold tyrC; first | (rw [if_pos (by omega)]; rfl) | (rw [if_neg (by omega)]; rfl),(H19.tk [6,7,8,0,1,2,4,3,5,9])⟩
theorem tyr1_c (ug um ut:Nat) (b pg bg:Nat) (cg:Option Nat) (P:Int→Option Int) (hP:∀ i v,P i=some v→0≤v∧v≤1000000) (g:Nat) (seed:ByteArray) (pp:Option Addr) (pc:Nat) (ps:List Pl) (sp:Option Addr) (sc sn:Nat) (tp:Option Addr) (tc tn:Nat) (vp:Option Addr) (vc vn:Nat) (bp:Option Addr) (bc bn:Nat) (pl gs:List Rd) (gp:Option Addr) (gc:Nat) (hG:GsOK ps.length pl gs) (hgl:gs.length≤200) (hnp:ps.length≤9) (me:Int) (h0m:0≤me) (pm:Pl) (hm:ps[me.toNat]?=some pm) (rt:Int) (hrt:pm.rt=rt) (hr0:0≤rt∧rt≤1000000):Cmps Tryz.prog 218 #[] #[.pointer (some ⟨ug,0,none⟩),.pointer (some ⟨um,0,none⟩),.pointer (some ⟨ut,0,none⟩)] (Big [Ob ug (.cells #[.pointer (some ⟨g,0,none⟩)] 29 (0,0)),Ob um (.cells #[.int .i64 me] 3 (0,0)),Ob ut (.cells #[.pointer (some ⟨b,0,none⟩)] 97 (0,0)),Ob b (.cells #[.map (some pg),.map (some bg),.map cg] 101 (0,0)),Mp (Value.int .i64) (Value.int .i64) okI pg P,Ob g (.cells #[.slice gp gs.length gc,.string seed,.slice pp ps.length pc,.slice sp sn sc,.slice tp tn tc,.slice vp vn vc,.slice bp bn bc] 61 (0,0)),Rw 39 1 gp gs.length gc (fl rowL gs),Rw 27 2 pp ps.length pc (fl plL ps),(Pool pl)]) (Value.int .i64) (tyrC (gs.map Rd.v) P rt me) (othV ps.length me):=by
 have hf:FunC Tryz.prog 218 #[] #[.pointer (some ⟨ug,0,none⟩),.pointer (some ⟨um,0,none⟩),.pointer (some ⟨ut,0,none⟩)] (Big [Ob ug (.cells #[.pointer (some ⟨g,0,none⟩)] 29 (0,0)),Ob um (.cells #[.int .i64 me] 3 (0,0)),Ob ut (.cells #[.pointer (some ⟨b,0,none⟩)] 97 (0,0)),Ob b (.cells #[.map (some pg),.map (some bg),.map cg] 101 (0,0)),Mp (Value.int .i64) (Value.int .i64) okI pg P,Ob g (.cells #[.slice gp gs.length gc,.string seed,.slice pp ps.length pc,.slice sp sn sc,.slice tp tn tc,.slice vp vn vc,.slice bp bn bc] 61 (0,0)),Rw 39 1 gp gs.length gc (fl rowL gs),Rw 27 2 pp ps.length pc (fl plL ps),(Pool pl)]) (fun p:Int × Int=>[.int .i64 p.1,.int .i64 p.2]) (fun p=>.int .i64 (tyrC (gs.map Rd.v) P rt me p.1 p.2)) (fun p=>(0≤p.1∧p.1<(ps.length:Int))∧(0≤p.2∧p.2<(ps.length:Int))):=
   FunC.ofBig (by kernel_rfl) fun z hb w HS=>tyr1_s ug um ut b pg bg cg P hP g seed pp pc ps sp sc sn tp tc tn vp vc vn bp bc bn pl gs gp gc hG hgl hnp me h0m pm hm rt hrt hr0 _ _ hb.1 hb.2 w HS
 exact ⟨hf.ok,fun x hx y hy w HS=>hf.does (x,y) ⟨(othV_mem.1 hx).1,(othV_mem.1 hy).1⟩ w HS⟩
theorem tyrL_len (n:Nat) (G:List (List (List Int))) (P:Int→Option Int) (rt me:Int):(tyrL n G P rt me).length=(othV n me).length:=(stable_perm _ _ _).length_eq
theorem tyrL_at {n:Nat} {G:List (List (List Int))} {P:Int→Option Int} {rt me x:Int} {j:Nat} (h:(tyrL n G P rt me)[j]?=some x):(0≤x∧x<n)∧x ≠ me:=othV_mem.1 ((stable_perm _ _ _).mem_iff.1 (List.mem_of_getElem? h))
theorem tyrgives_s (b pg bg:Nat) (cg:Option Nat) (P:Int→Option Int) (hP:∀ i v,P i=some v→0≤v∧v≤1000000) (g:Nat) (seed:ByteArray) (pp:Option Addr) (pc:Nat) (ps:List Pl) (sp:Option Addr) (sc sn:Nat) (tp:Option Addr) (tc tn:Nat) (vp:Option Addr) (vc vn:Nat) (bp:Option Addr) (bc bn:Nat) (pl gs:List Rd) (gp:Option Addr) (gc:Nat) (hG:GsOK ps.length pl gs) (hgl:gs.length≤200) (hnp:ps.length≤9) (me:Int) (h0m:0≤me) (pm:Pl) (hm:ps[me.toNat]?=some pm) (rt:Int) (hrt:pm.rt=rt) (hr0:0≤rt∧rt≤1000000)  (w:World) (HS:S w [DTl1 b pg bg cg,Mp (Value.int .i64) (Value.int .i64) okI pg P,DTl0 g gp gs gc seed pp ps pc sp sn sc tp tn tc vp vn vc bp bn bc,Rw 39 1 gp gs.length gc (fl rowL gs),Rw 27 2 pp ps.length pc (fl plL ps),(Pool pl)]):Calls Tryz.prog 213 #[.pointer (some ⟨b,0,none⟩),.pointer (some ⟨g,0,none⟩),.int .i64 me] w fun e w'=>∃ p' c' mg,e=.returned (.slice p' (tyrV ps.length rt (gs.map Rd.v) P me).o.length c')∧S w' ([Rw 3 1 p' (tyrV ps.length rt (gs.map Rd.v) P me).o.length c' (fl intL (tyrV ps.length rt (gs.map Rd.v) P me).o),Ob b (.cells #[.map (some pg),.map (some bg),.map (some mg)] 101 (0,0)),intMp pg P,boolMp mg (tyrV ps.length rt (gs.map Rd.v) P me).C,DTl0 g gp gs gc seed pp ps pc sp sn sc tp tn tc vp vn vc bp bn bc,Rw 39 1 gp gs.length gc (fl rowL gs),Rw 27 2 pp ps.length pc (fl plL ps),(Pool pl)]++[Old w (fps [DTl1 b pg bg cg,Mp (Value.int .i64) (Value.int .i64) okI pg P,DTl0 g gp gs gc seed pp ps pc sp sn sc tp tn tc vp vn vc bp bn bc,Rw 39 1 gp gs.length gc (fl rowL gs),Rw 27 2 pp ps.length pc (fl plL ps),(Pool pl)])]):=by
 have H0:=HS.beginI
 have hmp:=(List.getElem?_eq_some_iff.1 hm).1
 refine enter 67 Tryz.func213 rfl rfl rfl ?_
 refine g_wk [(0,_),(1,_),(2,_)] ?_
 refine w_s ?_
 refine l_of (s_box H0 (wt0 rfl) rfl rfl rfl rfl ?_)
 intro g1 wq2 H3
 refine l_of (s_box H3 (wt0 rfl) rfl rfl rfl rfl ?_)
 intro g4 wq5 H6
 refine l_of (s_box H6 (wt0 rfl) rfl rfl rfl rfl ?_)
 intro g7 wq8 H9
 refine w_k5 ?_
 refine l_of (s_cl (others_s g gp gc gs.length seed pp pc ps sp sc sn tp tc tn vp vc vn bp bc bn (by omega) me _ (H9.tk [5])) ?_)
 rintro _ wq12 ⟨po10,co11,rfl,H13⟩
 replace H13:S _ [_,_,_,_,_,_,_,_,_,_,_]:=H9.abI (new:=[_,_]) [5] H13 rfl
 have hol:=othV_len ps.length me
 refine b_ret rfl rfl ?_
 refine w_k4 ?_
 refine w_v (x_makeFunc rfl rfl rfl) ?_
 have H14:S _ [_,_,_]:=S.big (L:=[_,_,_,_,_,_,_,_,_]) (H13.tk [3,2,4,5,6,1,7,8,9,0,10])
 refine l_of (s_cl (sort_i (othV ps.length me) po10 co11 (by omega) (tyrC (gs.map Rd.v) P rt me) 218 #[] #[.pointer (some ⟨g4,0,none⟩),.pointer (some ⟨g7,0,none⟩),.pointer (some ⟨g1,0,none⟩)] (Big [Ob g4 (.cells #[.pointer (some ⟨g,0,none⟩)] 29 (0,0)),Ob g7 (.cells #[.int .i64 me] 3 (0,0)),Ob g1 (.cells #[.pointer (some ⟨b,0,none⟩)] 97 (0,0)),DTl1 b pg bg cg,Mp (Value.int .i64) (Value.int .i64) okI pg P,DTl0 g gp gs gc seed pp ps pc sp sn sc tp tn tc vp vn vc bp bn bc,Rw 39 1 gp gs.length gc (fl rowL gs),Rw 27 2 pp ps.length pc (fl plL ps),(Pool pl)]) (tyr1_c g4 g7 g1 b pg bg cg P hP g seed pp pc ps sp sc sn tp tc tn vp vc vn bp bc bn pl gs gp gc hG hgl hnp me h0m pm hm rt hrt hr0) _ (H14.tk [1,0])) ?_)
 rintro _ wq15 ⟨rfl,H16⟩
 replace H16:S _ [_,_,_]:=H14.abI (new:=[_,_]) [1,0] H16 rfl
 have htl:=tyrL_len ps.length (gs.map Rd.v) P rt me
 have H17:S _ [_,_,_,_,_,_,_,_,_,_,_]:=S.unbig (H16.tk [1,0,2])
 refine b_ret rfl rfl ?_
 refine w_k3 ?_
 refine l_of (s_makeMap (α:=Bool) (Value.int .i64) Value.bool okI H17 (wt0 rfl) rfl rfl rfl ?_)
 intro mg18 wq19 H20
 refine w_r2 ?_
 refine l_of (w_st #[.map (some pg),.map (some bg),.map (some mg18)] H20 4 ?_)
 intro wq21 H22
 refine w_k7 ?_
 refine l_of (s_make1 ps.length H22 (wt0 rfl) rfl rfl rfl rfl rfl Tryz.underlying43 inf3 rfl (by omega) ?_)
 intro g23 wq24 H25
 replace H25:S _ [_,_,_,_,_,_,_,_,_,_,_,_,_]:=S.obFl (l:=(List.replicate ps.length (0:Int))) intE H25 (k:=0) rfl (by rw [List.length_replicate]) (by unfold maxLen; omega) (zero_fl _)
 refine w_k2 ?_
 refine g_seq ?_
 refine g_quiet (by kernel_rfl) (by kernel_rfl) H25 ?_
 refine q_v (fun _ H=>xl H 2) ?_
 refine q_v (fun _ _=>xn) ?_
 refine q_v (fun _ _=>x_f) ?_
 refine q_v (fun _ H=>xl H 7) ?_
 refine q_v (fun _ H=>xl H 3) ?_
 refine q_v (fun _ _=>x_ip ((me).toNat) ((H25.rr 9).some (by omega))) ?_
 refine q_v (v:=.pointer ((pp).map fun q=>q.add (((me).toNat) * 2+1))) (fun _ _=>ex_cast (x_fieldAddrG (m:=((me).toNat) * 2) ((H25.rr 9).some (by omega)) rfl rfl fo27_1) rfl) ?_
 obtain ⟨x26,hx26⟩:=(H25.rr 9).exL plE ((me).toNat)
 have hrx:x26.rt=rt:=by rw [show x26=pm from Option.some.inj (hx26.symm.trans hm)]; exact hrt
 refine q_v (v:=.int .i64 rt) (fun _ H=>ex_cast (x_loadF1 (i:=1) (j:=((me).toNat)) plE (H.rr 9) hx26 rfl rfl Tryz.underlying3 rfl rfl) (by rw [hrx])) ?_
 refine q_v (fun _ _=>xa) ?_
 refine q_nil (fun wq27 H28=>?_)
 refine w_k8 ?_
 refine g_loop (ι:=Nat × List Int × (Int→Option Bool) × Int) (fun (i,o,C,lf)=>[(3,.pointer (some ⟨g1,0,none⟩)),(4,.pointer (some ⟨g4,0,none⟩)),(5,.pointer (some ⟨g7,0,none⟩)),(8,.slice (some ⟨g23,0,none⟩:Option Addr) ps.length ps.length),(9,.int .i64 lf),(37,.slice po10 ((othV ps.length me).length) co11),(38,.int .i64 (((othV ps.length me).length:Int))),(39,.int .i64 ((i:Int)))]) (fun (i,o,C,lf) wx=>(i≤(othV ps.length me).length)∧((⟨o,C,lf,false⟩:TyR)=tyrF (mustV P rt) ps.length rt ((tyrL ps.length (gs.map Rd.v) P rt me).take i))∧(o.length=ps.length)∧(0≤lf∧lf≤rt)∧S wx [Rw 3 1 (some ⟨g23,0,none⟩:Option Addr) ps.length ps.length (fl intL o),Rw 3 1 po10 ((othV ps.length me).length) co11 (fl intL (tyrL ps.length (gs.map Rd.v) P rt me)),Ob g1 (.cells #[.pointer (some ⟨b,0,none⟩)] 97 (0,0)),Ob g4 (.cells #[.pointer (some ⟨g,0,none⟩)] 29 (0,0)),Ob g7 (.cells #[.int .i64 me] 3 (0,0)),Ob b (.cells #[.map (some pg),.map (some bg),.map (some mg18)] 101 (0,0)),Mp (Value.int .i64) (Value.int .i64) okI pg P,Mp (Value.int .i64) Value.bool okI mg18 C,DTl0 g gp gs gc seed pp ps pc sp sn sc tp tn tc vp vn vc bp bn bc,Rw 39 1 gp gs.length gc (fl rowL gs),Rw 27 2 pp ps.length pc (fl plL ps),(Pool pl),Old w (fps [DTl1 b pg bg cg,Mp (Value.int .i64) (Value.int .i64) okI pg P,DTl0 g gp gs gc seed pp ps pc sp sn sc tp tn tc vp vn vc bp bn bc,Rw 39 1 gp gs.length gc (fl rowL gs),Rw 27 2 pp ps.length pc (fl plL ps),(Pool pl)])]) (fun (i,o,C,lf)=>((othV ps.length me).length) - i) (0,(List.replicate ps.length (0:Int)),(fun _=>none),rt) ⟨rfl,rfl,rfl,rfl,rfl,rfl,rfl,rfl,trivial⟩ ⟨Nat.zero_le _,rfl,List.length_replicate,(by omega),(H28.tk [0,11,4,2,3,5,6,1,7,8,9,10,12])⟩ ?_
 rintro ⟨i,o,C,lf⟩ wq29 ⟨hi,ho,hol,hlf,H30⟩
 refine g_wk [(3,_),(4,_),(5,_),(8,_),(9,_),(37,_),(38,_),(39,_)] ?_
 refine w_s ?_
 refine w_k2 ?_
 refine g_seq ?_
 by_cases hb31:((i:Int):Int)<((othV ps.length me).length:Int)
 ·
  refine g_ct hb31 ?_
  refine w_k5 ?_
  refine w_v (x_i i (H30.rr 1)) ?_
  obtain ⟨x32,hx32⟩:=(H30.rr 1).exL intE i
  have hx9:=tyrL_at hx32
  refine w_v (x_r i (H30.rr 1) (intE.flAt1 hx32 rfl)) ?_
  refine w_k7 ?_
  refine l_of (s_cl (must_s b pg bg (some mg18) P hP g gp gc gs.length seed pp pc ps sp sc sn tp tc tn vp vc vn bp bc bn me h0m pm hm rt hrt hr0 x32 ⟨by omega,by omega⟩ _ (H30.tk [5,6,8,10])) ?_)
  rintro _ wq34 ⟨rfl,H35⟩
  replace H35:S _ [_,_,_,_,_,_,_,_,_,_,_,_,_]:=H30.abI (new:=[_,_,_,_]) [5,6,8,10] H35 rfl
  have hmbq33:=must_bd hP hr0 x32
  refine b_ret rfl rfl ?_
  refine w_k8 ?_
  by_cases hb36:(lf:Int)<(mustV P rt x32)
  ·
   refine g_ct hb36 ?_
   refine w_k12 ?_
   refine fin_r [.tmp 6] [.slice (some ⟨g23,0,none⟩:Option Addr) ps.length ps.length] ?_
   have hv:=tyr_brk hx32 ho rfl hb36
   have hvo:(tyrV ps.length rt (gs.map Rd.v) P me).o=o:=by unfold tyrV; rw [hv]
   have hvc:(tyrV ps.length rt (gs.map Rd.v) P me).C=C:=by unfold tyrV; rw [hv]
   rw [hvo,hvc,hol]
   exact ⟨_,_,_,rfl,H35.tk [4,0,1,9,2,10,3,11,12]⟩
  ·
   refine g_cf hb36 ?_
   refine w_k11 ?_
   refine w_v (x_i ((x32).toNat) (H35.rr 4)) ?_
   refine l_of (s_stoL (j:=((x32).toNat)) intE (mustV P rt x32) H35 4 (wt0 rfl) rfl rfl rfl rfl rfl rfl sz3 (by omega) ?_)
   intro wq37 H38
   refine l_of (s_mapEntry (x:=x32) (z0:=false) (intTy Tryz.underlying99 Tryz.underlying3) H38 9 (wt0 rfl) rfl rfl rfl rfl rfl rfl (⟨by omega,by omega⟩) ze4 ?_)
   intro sm39 wq40 H41
   refine w_0 ?_
   refine l_of (s_entryStore (x:=x32) (a:=true) H41 9 (wt0 rfl) rfl rfl rfl rfl rfl rfl (intTy Tryz.underlying99 Tryz.underlying3) ?_)
   intro wq42 H43
   rw [upM_up] at H43
   replace H43:S wq42 [Ob b (.cells #[.map (some pg),.map (some bg),.map (some mg18)] 101 (0,0)),Mp (Value.int .i64) (Value.int .i64) okI pg P,DTl0 g gp gs gc seed pp ps pc sp sn sc tp tn tc vp vn vc bp bn bc,Rw 27 2 pp ps.length pc (fl plL ps),Rw 3 1 (some ⟨g23,0,none⟩:Option Addr) ps.length ps.length (fl intL (o.set ((x32).toNat) (mustV P rt x32))),Rw 3 1 po10 ((othV ps.length me).length) co11 (fl intL (tyrL ps.length (gs.map Rd.v) P rt me)),Ob g1 (.cells #[.pointer (some ⟨b,0,none⟩)] 97 (0,0)),Ob g4 (.cells #[.pointer (some ⟨g,0,none⟩)] 29 (0,0)),Ob g7 (.cells #[.int .i64 me] 3 (0,0)),Mp (Value.int .i64) Value.bool okI mg18 (upM C x32 true),Rw 39 1 gp gs.length gc (fl rowL gs),(Pool pl),Old w (fps [DTl1 b pg bg cg,Mp (Value.int .i64) (Value.int .i64) okI pg P,DTl0 g gp gs gc seed pp ps pc sp sn sc tp tn tc vp vn vc bp bn bc,Rw 39 1 gp gs.length gc (fl rowL gs),Rw 27 2 pp ps.length pc (fl plL ps),(Pool pl)])]:=H43
   refine w_k4 ?_
   refine w_b (v:=.int .i64 (lf - (mustV P rt x32))) (hb:=(b_sub (w64 (by omega)))) ?_
   refine w_k5 ?_
   refine w_i i ?_
   refine w_k2 ?_
   refine g_rd (i:=(i,o,C,lf)) ((i+1),(o.set x32.toNat (mustV P rt x32)),(upM C x32 true),(lf - mustV P rt x32)) ⟨by omega,(by rw [take_snocT hx32,tyrF_snoc,← ho]; unfold tyrS; rw [if_neg Bool.false_ne_true,if_neg hb36]),(by rw [List.length_set]; exact hol),(by omega),(H43.tk [4,5,6,7,8,0,1,9,2,10,3,11,12])⟩
 ·
  refine g_cf hb31 ?_
  refine w_k10 ?_
  refine fin_r [.tmp 6] [.slice (some ⟨g23,0,none⟩:Option Addr) ps.length ps.length] ?_
  rw [List.take_of_length_le (by omega)] at ho
  have hvo:(tyrV ps.length rt (gs.map Rd.v) P me).o=o:=by unfold tyrV; rw [← ho]
  have hvc:(tyrV ps.length rt (gs.map Rd.v) P me).C=C:=by unfold tyrV; rw [← ho]
  rw [hvo,hvc,hol]
  exact ⟨_,_,_,rfl,H30.tk [0,5,6,7,8,9,10,11,12]⟩
def behS (C:Int→Option Bool) (f:Int→Int) (rt:Int) (s:(Int→Option Int) × (Int→Option Int)) (i:Int):(Int→Option Int) × (Int→Option Int):=
 if (C i).getD false=false then (upM s.1 i (mustV s.1 rt i),upM s.2 i 0)
 else if 0<f i then (upM s.1 i (if 3≤(s.2 i).getD 0+1 then mustV s.1 rt i - mustV s.1 rt i / 10 else mustV s.1 rt i),upM s.2 i ((s.2 i).getD 0+1))
 else (upM s.1 i (min (mustV s.1 rt i+max (mustV s.1 rt i / 5) 1) rt),upM s.2 i 0)
def behF (C:Int→Option Bool) (f:Int→Int) (rt:Int) (l:List Int) (s:(Int→Option Int) × (Int→Option Int)):(Int→Option Int) × (Int→Option Int):=l.foldl (behS C f rt) s
theorem behF_snoc (C:Int→Option Bool) (f:Int→Int) (rt:Int) (l:List Int) (x:Int) (s:(Int→Option Int) × (Int→Option Int)):behF C f rt (l++[x]) s=behS C f rt (behF C f rt l s) x:=by
 unfold behF
 rw [List.foldl_append]; rfl
theorem upM_self {M:Int→Option Int} {x a:Int}:upM M x a x=some a:=if_pos rfl
theorem upM_bd {M:Int→Option Int} {x a lo hi:Int} (h:∀ j v,M j=some v→lo≤v∧v≤hi) (ha:lo≤a∧a≤hi):∀ j v,upM M x a j=some v→lo≤v∧v≤hi:=fun j v hv=>by
 unfold upM at hv
 split at hv
 · cases hv; exact ha
 · exact h j v hv
theorem getD_bd {M:Int→Option Int} {hi:Int} (h:∀ j v,M j=some v→0≤v∧v≤hi) (h0:0≤hi) (x:Int):0≤(M x).getD 0∧(M x).getD 0≤hi:=by
 cases e:M x with
 | none=>exact ⟨Int.le_refl _,h0⟩
 | some v=>exact h x v e
theorem bd_up {M:Int→Option Int} {lo hi hj:Int} (h:∀ j v,M j=some v→lo≤v∧v≤hi) (hh:hi≤hj):∀ j v,M j=some v→lo≤v∧v≤hj:=fun j v hv=>⟨(h j v hv).1,Int.le_trans (h j v hv).2 hh⟩
theorem behS_bd {C:Int→Option Bool} {f:Int→Int} {rt K:Int} {s:(Int→Option Int) × (Int→Option Int)} {x:Int} (hr:0≤rt∧rt≤1000000) (hK:0≤K) (hP:∀ j v,s.1 j=some v→0≤v∧v≤1000000) (hB:∀ j v,s.2 j=some v→0≤v∧v≤K) :
   (∀ j v,(behS C f rt s x).1 j=some v→0≤v∧v≤1000000)∧∀ j v,(behS C f rt s x).2 j=some v→0≤v∧v≤K+1:=by
 have h1:=must_bd hP hr x
 have h2:=getD_bd hB hK x
 unfold behS
 split
 · exact ⟨upM_bd hP h1,upM_bd (bd_up hB (by omega)) (by omega)⟩
 split
 · refine ⟨upM_bd hP ?_,upM_bd (bd_up hB (by omega)) (by omega)⟩
   split <;> omega
 · exact ⟨upM_bd hP (by omega),upM_bd (bd_up hB (by omega)) (by omega)⟩
theorem behF_bd {C:Int→Option Bool} {f:Int→Int} {rt:Int} (hr:0≤rt∧rt≤1000000):∀ (l:List Int) {K:Int} {s:(Int→Option Int) × (Int→Option Int)},0≤K→(∀ j v,s.1 j=some v→0≤v∧v≤1000000)→(∀ j v,s.2 j=some v→0≤v∧v≤K) →
   (∀ j v,(behF C f rt l s).1 j=some v→0≤v∧v≤1000000)∧∀ j v,(behF C f rt l s).2 j=some v→0≤v∧v≤K+l.length
 | [],K,s,_,hP,hB=>⟨hP,by simpa [behF] using hB⟩
 | a :: l,K,s,hK,hP,hB=>by
   have h1:=behS_bd (C:=C) (f:=f) (x:=a) hr hK hP hB
   have h2:=behF_bd (C:=C) (f:=f) hr l (K:=K+1) (s:=behS C f rt s a) (by omega) h1.1 h1.2
   exact ⟨h2.1,bd_up h2.2 (by rw [List.length_cons]; omega)⟩
abbrev DTm0 (b pg bg cg:Nat) (P B:Int→Option Int) (C:Int→Option Bool) (g:Nat) (gp:Option Addr) (gs:List Rd) (gc:Nat) (seed:ByteArray) (pp:Option Addr) (ps:List Pl) (pc:Nat) (sp:Option Addr) (sn sc:Nat) (tp:Option Addr) (tn tc:Nat) (vp:Option Addr) (vn vc:Nat) (bp:Option Addr) (bn bc:Nat) (pl:List Rd):=[Ob b (.cells #[.map (some pg),.map (some bg),.map (some cg)] 101 (0,0)),Mp (Value.int .i64) (Value.int .i64) okI pg P,Mp (Value.int .i64) (Value.int .i64) okI bg B,Mp (Value.int .i64) Value.bool okI cg C,Ob g (.cells #[.slice gp gs.length gc,.string seed,.slice pp ps.length pc,.slice sp sn sc,.slice tp tn tc,.slice vp vn vc,.slice bp bn bc] 61 (0,0)),Rw 39 1 gp gs.length gc (fl rowL gs),Rw 27 2 pp ps.length pc (fl plL ps),(Pool pl)]
theorem behind_s (b pg bg cg:Nat) (P B:Int→Option Int) (C:Int→Option Bool) (hP:∀ i v,P i=some v→0≤v∧v≤1000000) (Kb:Int) (hK:0≤Kb∧Kb≤1000000) (hB:∀ i v,B i=some v→0≤v∧v≤Kb) (g:Nat) (seed:ByteArray) (pp:Option Addr) (pc:Nat) (ps:List Pl) (sp:Option Addr) (sc sn:Nat) (tp:Option Addr) (tc tn:Nat) (vp:Option Addr) (vc vn:Nat) (bp:Option Addr) (bc bn:Nat) (pl gs:List Rd) (gp:Option Addr) (gc:Nat) (hG:GsOK ps.length pl gs) (hgl:gs.length≤200) (hnp:ps.length≤9) (me:Int) (h0m:0≤me) (pm:Pl) (hm:ps[me.toNat]?=some pm) (rt:Int) (hrt:pm.rt=rt) (hr0:0≤rt∧rt≤1000000)  (w:World) (HS:S w (DTm0 b pg bg cg P B C g gp gs gc seed pp ps pc sp sn sc tp tn tc vp vn vc bp bn bc pl)):Calls Tryz.prog 211 #[.pointer (some ⟨b,0,none⟩),.pointer (some ⟨g,0,none⟩),.int .i64 me] w fun e w'=>e=.returned (.tuple #[])∧S w' ([Ob b (.cells #[.map (some pg),.map (some bg),.map (some cg)] 101 (0,0)),intMp pg (behF C (fun i=>lastV (gs.map Rd.v) i me) rt (othV ps.length me) (P,B)).1,intMp bg (behF C (fun i=>lastV (gs.map Rd.v) i me) rt (othV ps.length me) (P,B)).2,boolMp cg C,Ob g (.cells #[.slice gp gs.length gc,.string seed,.slice pp ps.length pc,.slice sp sn sc,.slice tp tn tc,.slice vp vn vc,.slice bp bn bc] 61 (0,0)),Rw 39 1 gp gs.length gc (fl rowL gs),Rw 27 2 pp ps.length pc (fl plL ps),(Pool pl)]++[Old w (fps (DTm0 b pg bg cg P B C g gp gs gc seed pp ps pc sp sn sc tp tn tc vp vn vc bp bn bc pl))]):=by
 have H0:=HS.beginI
 have hmp:=(List.getElem?_eq_some_iff.1 hm).1
 refine enter 88 Tryz.func211 rfl rfl rfl ?_
 refine g_wk [(0,_),(1,_),(2,_)] ?_
 refine w_s ?_
 refine w_r2 ?_
 refine l_of (s_cl (others_s g gp gc gs.length seed pp pc ps sp sc sn tp tc tn vp vc vn bp bc bn (by omega) me _ (H0.tk [4])) ?_)
 rintro _ wq3 ⟨po1,co2,rfl,H4⟩
 replace H4:S _ [_,_,_,_,_,_,_,_,_,_]:=H0.abI (new:=[_,_]) [4] H4 rfl
 have hol:=othV_len ps.length me
 refine b_ret rfl rfl ?_
 refine w_k4 ?_
 refine g_loop (ι:=Nat × (Int→Option Int) × (Int→Option Int)) (fun (i,P1,B1)=>[(0,.pointer (some ⟨b,0,none⟩)),(1,.pointer (some ⟨g,0,none⟩)),(2,.int .i64 me),(11,.slice po1 ((othV ps.length me).length) co2),(12,.int .i64 (((othV ps.length me).length:Int))),(13,.int .i64 ((i:Int)))]) (fun (i,P1,B1) wx=>(i≤(othV ps.length me).length)∧((P1,B1)=behF C (fun i=>lastV (gs.map Rd.v) i me) rt ((othV ps.length me).take i) (P,B))∧(∀ j v,P1 j=some v→0≤v∧v≤1000000)∧(∀ j v,B1 j=some v→0≤v∧v≤Kb+i)∧S wx [Rw 3 1 po1 ((othV ps.length me).length) co2 (fl intL (othV ps.length me)),Ob b (.cells #[.map (some pg),.map (some bg),.map (some cg)] 101 (0,0)),Mp (Value.int .i64) (Value.int .i64) okI pg P1,Mp (Value.int .i64) (Value.int .i64) okI bg B1,Mp (Value.int .i64) Value.bool okI cg C,Ob g (.cells #[.slice gp gs.length gc,.string seed,.slice pp ps.length pc,.slice sp sn sc,.slice tp tn tc,.slice vp vn vc,.slice bp bn bc] 61 (0,0)),Rw 39 1 gp gs.length gc (fl rowL gs),Rw 27 2 pp ps.length pc (fl plL ps),(Pool pl),Old w (fps (DTm0 b pg bg cg P B C g gp gs gc seed pp ps pc sp sn sc tp tn tc vp vn vc bp bn bc pl))]) (fun (i,P1,B1)=>((othV ps.length me).length) - i) (0,P,B) ⟨rfl,rfl,rfl,rfl,rfl,rfl,trivial⟩ ⟨Nat.zero_le _,rfl,hP,(by simpa using hB),(H4.tk [0,2,3,4,5,1,6,7,8,9])⟩ ?_
 rintro ⟨i,P1,B1⟩ wq5 ⟨hi,hPB,hPb,hBb,H6⟩
 refine g_wk [(0,_),(1,_),(2,_),(11,_),(12,_),(13,_)] ?_
 refine w_s ?_
 refine w_k2 ?_
 refine g_seq ?_
 by_cases hb7:((i:Int):Int)<((othV ps.length me).length:Int)
 ·
  refine g_ct hb7 ?_
  refine w_k5 ?_
  refine w_v (x_i i (H6.rr 0)) ?_
  obtain ⟨x8,hx8⟩:=(H6.rr 0).exL intE i
  have hx9:=othV_at hx8
  have hbx:=getD_bd hBb (by omega) x8
  refine w_v (x_r i (H6.rr 0) (intE.flAt1 hx8 rfl)) ?_
  refine w_k7 ?_
  refine l_of (s_cl (must_s b pg bg (some cg) P1 hPb g gp gc gs.length seed pp pc ps sp sc sn tp tc tn vp vc vn bp bc bn me h0m pm hm rt hrt hr0 x8 ⟨by omega,by omega⟩ _ (H6.tk [1,2,5,7])) ?_)
  rintro _ wq10 ⟨rfl,H11⟩
  replace H11:S _ [_,_,_,_,_,_,_,_,_,_]:=H6.abI (new:=[_,_,_,_]) [1,2,5,7] H11 rfl
  have hmbq9:=must_bd hPb hr0 x8
  refine b_ret rfl rfl ?_
  refine w_k10 ?_
  refine w_v (v:=.bool (((C x8).getD false))) (ex_cast (x_lookup1 (x:=x8) (intTy Tryz.underlying99 Tryz.underlying3) H11 6 rfl rfl rfl rfl (⟨by omega,by omega⟩) ze4) (look_B _)) ?_
  refine w_v (x_not (b:=((C x8).getD false)) rfl rfl) ?_
  refine w_k2 ?_
  rcases Bool.eq_false_or_eq_true (((C x8).getD false)) with hb12 | hb12
  ·
   refine g_cond_f rfl (neg_of hb12) ?_
   refine w_k4 ?_
   refine w_v (v:=.agg #[.slice gp gs.length gc]) (x_loadA H11 2 rfl rfl Tryz.underlying58 rfl sz58 rfl rfl rfl) ?_
   refine w_r2 ?_
   refine l_of (s_cl (tlast_s ps.length pl gs gp gc hnp hG hgl x8 me hx9.1 ⟨h0m,by omega⟩ _ (H11.tk [7,8])) ?_)
   rintro _ wq14 ⟨rfl,H15⟩
   replace H15:S _ [_,_,_,_,_,_,_,_,_,_]:=H11.abI (new:=[_,_]) [7,8] H15 rfl
   have hlbq13:=lastV_bd hG x8 me
   refine b_ret rfl rfl ?_
   refine w_k3 ?_
   by_cases hb16:(0:Int)<(lastV (gs.map Rd.v) x8 me)
   ·
    refine g_ct hb16 ?_
    refine w_k6 ?_
    refine w_v (v:=.int .i64 (((B1 x8).getD 0))) (ex_cast (x_lookup1 (x:=x8) (intTy Tryz.underlying98 Tryz.underlying3) H15 7 rfl rfl rfl rfl (⟨by omega,by omega⟩) ze3) (look_I _)) ?_
    refine w_b (v:=.int .i64 (((B1 x8).getD 0)+1)) (hb:=(b_add (w64 (by omega)))) ?_
    refine l_of (s_mapUpdate (x:=x8) (a:=((B1 x8).getD 0)+1) (intTy Tryz.underlying98 Tryz.underlying3) H15 7 (wt0 rfl) rfl rfl rfl rfl rfl rfl (⟨by omega,by omega⟩) ?_)
    intro wq17 H18
    refine w_k7 ?_
    refine w_v (v:=.int .i64 (((B1 x8).getD 0+1))) (ex_cast (x_lookup1 (x:=x8) (intTy Tryz.underlying98 Tryz.underlying3) H18 7 rfl rfl rfl rfl (⟨by omega,by omega⟩) ze3) (by rw [look_I,upM_self]; rfl)) ?_
    refine w_k2 ?_
    by_cases hb19:(3:Int)≤((B1 x8).getD 0+1)
    ·
     refine g_ct hb19 ?_
     refine w_k3 ?_
     refine w_b (v:=.int .i64 ((mustV P1 rt x8) / 10)) (hb:=(b_quo (by omega) (quo64 (by omega)))) ?_
     refine w_b (v:=.int .i64 ((mustV P1 rt x8) - ((mustV P1 rt x8) / 10))) (hb:=(b_sub (w64 (by omega)))) ?_
     refine w_k4 ?_
     refine g_wk [(0,_),(1,_),(2,_),(7,_),(8,_),(11,_),(12,_),(13,_)] ?_
     refine g_region ?_
     refine w_k6 ?_
     refine l_of (s_mapUpdate (x:=x8) (a:=(mustV P1 rt x8) - ((mustV P1 rt x8) / 10)) (intTy Tryz.underlying98 Tryz.underlying3) H18 3 (wt0 rfl) rfl rfl rfl rfl rfl rfl (⟨by omega,by omega⟩) ?_)
     intro wq20 H21
     refine w_k4 ?_
     refine w_i i ?_
     refine w_k2 ?_
     refine g_rd (i:=(i,P1,B1)) ((i+1),(upM P1 x8 ((mustV P1 rt x8) - ((mustV P1 rt x8) / 10))),(upM B1 x8 (((B1 x8).getD 0)+1))) ⟨by omega,(by rw [take_snocT hx8,behF_snoc,← hPB]; unfold behS; dsimp only; (first | rw [if_pos hb12] | rw [if_neg hb12] | rw [if_neg (by rw [hb12]; decide)]); (first | rw [if_pos hb16] | rw [if_neg hb16] | rw [if_neg (by rw [hb16]; decide)]); (first | rw [if_pos hb19] | rw [if_neg hb19] | rw [if_neg (by rw [hb19]; decide)])),(upM_bd hPb (by omega)),(upM_bd (bd_up hBb (by omega)) (by omega)),(H21.tk [6,2,3,7,8,4,0,5,1,9])⟩
    ·
     refine g_cf hb19 ?_
     refine w_k10 ?_
     refine l_of (s_mapUpdate (x:=x8) (a:=(mustV P1 rt x8)) (intTy Tryz.underlying98 Tryz.underlying3) H18 3 (wt0 rfl) rfl rfl rfl rfl rfl rfl (⟨by omega,by omega⟩) ?_)
     intro wq22 H23
     refine w_k3 ?_
     refine g_wk [(0,_),(1,_),(2,_),(11,_),(12,_),(13,_)] ?_
     refine g_region ?_
     refine w_i i ?_
     refine w_k2 ?_
     refine g_rd (i:=(i,P1,B1)) ((i+1),(upM P1 x8 (mustV P1 rt x8)),(upM B1 x8 (((B1 x8).getD 0)+1))) ⟨by omega,(by rw [take_snocT hx8,behF_snoc,← hPB]; unfold behS; dsimp only; (first | rw [if_pos hb12] | rw [if_neg hb12] | rw [if_neg (by rw [hb12]; decide)]); (first | rw [if_pos hb16] | rw [if_neg hb16] | rw [if_neg (by rw [hb16]; decide)]); (first | rw [if_pos hb19] | rw [if_neg hb19] | rw [if_neg (by rw [hb19]; decide)])),(upM_bd hPb (by omega)),(upM_bd (bd_up hBb (by omega)) (by omega)),(H23.tk [6,2,3,7,8,4,0,5,1,9])⟩
   ·
    refine g_cf hb16 ?_
    refine w_k6 ?_
    refine l_of (s_mapUpdate (x:=x8) (a:=0) (intTy Tryz.underlying98 Tryz.underlying3) H15 7 (wt0 rfl) rfl rfl rfl rfl rfl rfl (⟨by omega,by omega⟩) ?_)
    intro wq24 H25
    refine w_k4 ?_
    refine w_b (v:=.int .i64 ((mustV P1 rt x8) / 5)) (hb:=(b_quo (by omega) (quo64 (by omega)))) ?_
    refine w_v (v:=.int .i64 (max ((mustV P1 rt x8) / 5) 1)) (x_max rfl rfl rfl) ?_
    refine w_b (v:=.int .i64 ((mustV P1 rt x8)+(max ((mustV P1 rt x8) / 5) 1))) (hb:=(b_add (w64 (by omega)))) ?_
    refine w_k5 ?_
    refine w_v (x_i ((me).toNat) (H25.rr 5)) ?_
    refine w_v (v:=.pointer ((pp).map fun q=>q.add (((me).toNat) * 2+1))) (ex_cast (x_fieldAddrG (m:=((me).toNat) * 2) ((H25.rr 5).some (by omega)) rfl rfl fo27_1) rfl) ?_
    obtain ⟨x26,hx26⟩:=(H25.rr 5).exL plE ((me).toNat)
    have hrx:x26.rt=rt:=by rw [show x26=pm from Option.some.inj (hx26.symm.trans hm)]; exact hrt
    refine w_v (v:=.int .i64 rt) (ex_cast (x_loadF1 (i:=1) (j:=((me).toNat)) plE (H25.rr 5) hx26 rfl rfl Tryz.underlying3 rfl rfl) (by rw [hrx])) ?_
    refine w_v (v:=.int .i64 (min ((mustV P1 rt x8)+(max ((mustV P1 rt x8) / 5) 1)) rt)) (x_min rfl rfl rfl) ?_
    refine w_k4 ?_
    refine g_wk [(0,_),(1,_),(2,_),(7,_),(8,_),(11,_),(12,_),(13,_)] ?_
    refine g_region ?_
    refine w_k6 ?_
    refine l_of (s_mapUpdate (x:=x8) (a:=min ((mustV P1 rt x8)+(max ((mustV P1 rt x8) / 5) 1)) rt) (intTy Tryz.underlying98 Tryz.underlying3) H25 3 (wt0 rfl) rfl rfl rfl rfl rfl rfl (⟨by omega,by omega⟩) ?_)
    intro wq27 H28
    refine w_k4 ?_
    refine w_i i ?_
    refine w_k2 ?_
    refine g_rd (i:=(i,P1,B1)) ((i+1),(upM P1 x8 (min ((mustV P1 rt x8)+(max ((mustV P1 rt x8) / 5) 1)) rt)),(upM B1 x8 0)) ⟨by omega,(by rw [take_snocT hx8,behF_snoc,← hPB]; unfold behS; dsimp only; (first | rw [if_pos hb12] | rw [if_neg hb12] | rw [if_neg (by rw [hb12]; decide)]); (first | rw [if_pos hb16] | rw [if_neg hb16] | rw [if_neg (by rw [hb16]; decide)])),(upM_bd hPb (by omega)),(upM_bd (bd_up hBb (by omega)) (by omega)),(H28.tk [6,2,3,7,8,4,0,5,1,9])⟩
  ·
   refine g_cond_t rfl (neg_of hb12) ?_
   refine w_k6 ?_
   refine l_of (s_mapUpdate (x:=x8) (a:=0) (intTy Tryz.underlying98 Tryz.underlying3) H11 5 (wt0 rfl) rfl rfl rfl rfl rfl rfl (⟨by omega,by omega⟩) ?_)
   intro wq29 H30
   refine w_k10 ?_
   refine l_of (s_mapUpdate (x:=x8) (a:=(mustV P1 rt x8)) (intTy Tryz.underlying98 Tryz.underlying3) H30 1 (wt0 rfl) rfl rfl rfl rfl rfl rfl (⟨by omega,by omega⟩) ?_)
   intro wq31 H32
   refine w_k4 ?_
   refine w_i i ?_
   refine w_k2 ?_
   refine g_rd (i:=(i,P1,B1)) ((i+1),(upM P1 x8 (mustV P1 rt x8)),(upM B1 x8 0)) ⟨by omega,(by rw [take_snocT hx8,behF_snoc,← hPB]; unfold behS; dsimp only; (first | rw [if_pos hb12] | rw [if_neg hb12] | rw [if_neg (by rw [hb12]; decide)])),(upM_bd hPb (by omega)),(upM_bd (bd_up hBb (by omega)) (by omega)),(H32.tk [4,0,1,5,6,2,7,3,8,9])⟩
 ·
  refine g_cf hb7 ?_
  refine w_k4 ?_
  refine fin_end [] [] rfl trivial ?_
  rw [List.take_of_length_le (by omega)] at hPB
  rw [← hPB]
  exact ⟨rfl,H6.tk [1,2,3,4,5,6,7,8,9]⟩
theorem mclone_i (mg:Nat) (M:Int→Option Int)  (w:World) (HS:S w [Mp (Value.int .i64) (Value.int .i64) okI mg M]):Calls Tryz.prog 215 #[.map (some mg)] w fun e w'=>∃ g2,e=.returned (.map (some g2))∧S w' ([Mp (Value.int .i64) (Value.int .i64) okI g2 M,Mp (Value.int .i64) (Value.int .i64) okI mg M]++[Old w (fps [Mp (Value.int .i64) (Value.int .i64) okI mg M])]):=by
 have H0:=HS.beginI
 refine enter 9 Tryz.func215 rfl rfl rfl ?_
 refine g_wk [(0,_)] ?_
 refine w_s ?_
 refine w_k5 ?_
 refine w_b (v:=.bool false) (hb:=(b_eqlMap Tryz.underlying98)) ?_
 refine w_e ?_
 refine g_cond_f rfl rfl ?_
 refine w_k4 ?_
 refine w_v (v:=.iface 98 (.map (some mg))) (x_makeInterface rfl rfl Tryz.underlying98 rfl) ?_
 refine l_of (s_mapsClone H0 0 (wt0 rfl) rfl rfl rfl rfl rfl rfl Tryz.func219 (by kernel_rfl) (by kernel_rfl) (by kernel_rfl) (by kernel_rfl) ?_)
 intro mg1 wq2 H3
 refine w_v (v:=.map (some mg1)) (x_assert1 rfl rfl Tryz.underlying98 rfl) ?_
 refine w_k3 ?_
 refine fin_r [.tmp 2] [.map (some mg1)] ?_
 exact ⟨mg1,rfl,H3.tk [0,1,2]⟩
theorem mclone_b (mg:Nat) (M:Int→Option Bool)  (w:World) (HS:S w [Mp (Value.int .i64) Value.bool okI mg M]):Calls Tryz.prog 216 #[.map (some mg)] w fun e w'=>∃ g2,e=.returned (.map (some g2))∧S w' ([Mp (Value.int .i64) Value.bool okI g2 M,Mp (Value.int .i64) Value.bool okI mg M]++[Old w (fps [Mp (Value.int .i64) Value.bool okI mg M])]):=by
 have H0:=HS.beginI
 refine enter 9 Tryz.func216 rfl rfl rfl ?_
 refine g_wk [(0,_)] ?_
 refine w_s ?_
 refine w_k5 ?_
 refine w_b (v:=.bool false) (hb:=(b_eqlMap Tryz.underlying99)) ?_
 refine w_e ?_
 refine g_cond_f rfl rfl ?_
 refine w_k4 ?_
 refine w_v (v:=.iface 99 (.map (some mg))) (x_makeInterface rfl rfl Tryz.underlying99 rfl) ?_
 refine l_of (s_mapsClone H0 0 (wt0 rfl) rfl rfl rfl rfl rfl rfl Tryz.func219 (by kernel_rfl) (by kernel_rfl) (by kernel_rfl) (by kernel_rfl) ?_)
 intro mg1 wq2 H3
 refine w_v (v:=.map (some mg1)) (x_assert1 rfl rfl Tryz.underlying99 rfl) ?_
 refine w_k3 ?_
 refine fin_r [.tmp 2] [.map (some mg1)] ?_
 exact ⟨mg1,rfl,H3.tk [0,1,2]⟩
theorem cl216:callable Tryz.prog 216=true:=by kernel_rfl
theorem sz63:szO Tryz.prog 63=some 1:=by kernel_rfl
theorem b_eqlMapN {P:Program} {w:World} {t k e:TypeId} {xo:Operand} {c:Value} (h:P.underlying t=some (.map k e)):Bin P .eql t xo (.const c) (.map none) (.map none) w (.bool true):=by
 have h0:(eqGuard .eql t xo (.const c) (.map none) (.map none)).run P w=.ok () w:=by unfold eqGuard; cases xo <;> rfl
 have h1:(Op.equal t (.map none) (.map none)).run P w=.ok true w:=by
   have h2:∀ d,(Op.equalIn (d+1) t (.map none) (.map none)).run P w=.ok true w:=fun d=>by simp [Op.equalIn,run_underlying h]
   exact h2 9999
 unfold Bin; rw [Sem.run_bind,h0]
 simp only [Result.andThen_ok,binOp,Sem.run_bind,h1]
 rfl
theorem mclone_n  (w:World):Calls Tryz.prog 216 #[.map none] w fun e w'=>e=.returned (.map none)∧S w' [Old w no]:=by
 have H0:=S.old w
 refine enter 9 Tryz.func216 rfl rfl rfl ?_
 refine g_wk [(0,_)] ?_
 refine w_s ?_
 refine w_k5 ?_
 refine w_b (v:=.bool true) (hb:=(b_eqlMapN Tryz.underlying99)) ?_
 refine w_e ?_
 refine g_cond_t rfl rfl ?_
 refine w_k5 ?_
 refine fin_r [.tmp 2] [.map none] ?_
 exact ⟨rfl,H0.mask [true]⟩
theorem fairly_c  (w:World):Calls Tryz.prog 111 #[.agg #[]] w fun e w'=>e=.returned (.iface 92 (.agg #[]))∧S w' [Old w no]:=by
 have H0:=S.old w
 refine enter 5 Tryz.func111 rfl rfl rfl ?_
 refine g_wk [(0,_)] ?_
 refine w_s ?_
 refine l_of (s_box H0 (wt0 rfl) rfl rfl rfl rfl ?_)
 intro g1 wq2 H3
 refine w_k3 ?_
 refine w_v (v:=.agg #[]) (x_build (vs:=[]) rfl rfl (cells:=#[]) (by kernel_rfl)) ?_
 refine w_v (v:=.iface 92 (.agg #[])) (x_makeInterface rfl rfl Tryz.underlying92 rfl) ?_
 refine w_k3 ?_
 refine fin_r [.tmp 2] [.iface 92 (.agg #[])] ?_
 exact ⟨rfl,H3.mask [false,true]⟩
theorem freely_c  (w:World):Calls Tryz.prog 198 #[.agg #[]] w fun e w'=>e=.returned (.iface 93 (.agg #[]))∧S w' [Old w no]:=by
 have H0:=S.old w
 refine enter 5 Tryz.func198 rfl rfl rfl ?_
 refine g_wk [(0,_)] ?_
 refine w_s ?_
 refine l_of (s_box H0 (wt0 rfl) rfl rfl rfl rfl ?_)
 intro g1 wq2 H3
 refine w_k3 ?_
 refine w_v (v:=.agg #[]) (x_build (vs:=[]) rfl rfl (cells:=#[]) (by kernel_rfl)) ?_
 refine w_v (v:=.iface 93 (.agg #[])) (x_makeInterface rfl rfl Tryz.underlying93 rfl) ?_
 refine w_k3 ?_
 refine fin_r [.tmp 2] [.iface 93 (.agg #[])] ?_
 exact ⟨rfl,H3.mask [false,true]⟩
theorem openly_c  (w:World):Calls Tryz.prog 200 #[.agg #[]] w fun e w'=>e=.returned (.iface 94 (.agg #[]))∧S w' [Old w no]:=by
 have H0:=S.old w
 refine enter 5 Tryz.func200 rfl rfl rfl ?_
 refine g_wk [(0,_)] ?_
 refine w_s ?_
 refine l_of (s_box H0 (wt0 rfl) rfl rfl rfl rfl ?_)
 intro g1 wq2 H3
 refine w_k3 ?_
 refine w_v (v:=.agg #[]) (x_build (vs:=[]) rfl rfl (cells:=#[]) (by kernel_rfl)) ?_
 refine w_v (v:=.iface 94 (.agg #[])) (x_makeInterface rfl rfl Tryz.underlying94 rfl) ?_
 refine w_k3 ?_
 refine fin_r [.tmp 2] [.iface 94 (.agg #[])] ?_
 exact ⟨rfl,H3.mask [false,true]⟩
theorem grimly_c  (w:World):Calls Tryz.prog 202 #[.agg #[]] w fun e w'=>e=.returned (.iface 95 (.agg #[]))∧S w' [Old w no]:=by
 have H0:=S.old w
 refine enter 5 Tryz.func202 rfl rfl rfl ?_
 refine g_wk [(0,_)] ?_
 refine w_s ?_
 refine l_of (s_box H0 (wt0 rfl) rfl rfl rfl rfl ?_)
 intro g1 wq2 H3
 refine w_k3 ?_
 refine w_v (v:=.agg #[]) (x_build (vs:=[]) rfl rfl (cells:=#[]) (by kernel_rfl)) ?_
 refine w_v (v:=.iface 95 (.agg #[])) (x_makeInterface rfl rfl Tryz.underlying95 rfl) ?_
 refine w_k3 ?_
 refine fin_r [.tmp 2] [.iface 95 (.agg #[])] ?_
 exact ⟨rfl,H3.mask [false,true]⟩
theorem bestly_c  (w:World):Calls Tryz.prog 207 #[.agg #[]] w fun e w'=>e=.returned (.iface 96 (.agg #[]))∧S w' [Old w no]:=by
 have H0:=S.old w
 refine enter 5 Tryz.func207 rfl rfl rfl ?_
 refine g_wk [(0,_)] ?_
 refine w_s ?_
 refine l_of (s_box H0 (wt0 rfl) rfl rfl rfl rfl ?_)
 intro g1 wq2 H3
 refine w_k3 ?_
 refine w_v (v:=.agg #[]) (x_build (vs:=[]) rfl rfl (cells:=#[]) (by kernel_rfl)) ?_
 refine w_v (v:=.iface 96 (.agg #[])) (x_makeInterface rfl rfl Tryz.underlying96 rfl) ?_
 refine w_k3 ?_
 refine fin_r [.tmp 2] [.iface 96 (.agg #[])] ?_
 exact ⟨rfl,H3.mask [false,true]⟩
theorem mirrored_c  (w:World):Calls Tryz.prog 225 #[.agg #[]] w fun e w'=>e=.returned (.iface 102 (.agg #[]))∧S w' [Old w no]:=by
 have H0:=S.old w
 refine enter 5 Tryz.func225 rfl rfl rfl ?_
 refine g_wk [(0,_)] ?_
 refine w_s ?_
 refine l_of (s_box H0 (wt0 rfl) rfl rfl rfl rfl ?_)
 intro g1 wq2 H3
 refine w_k3 ?_
 refine w_v (v:=.agg #[]) (x_build (vs:=[]) rfl rfl (cells:=#[]) (by kernel_rfl)) ?_
 refine w_v (v:=.iface 102 (.agg #[])) (x_makeInterface rfl rfl Tryz.underlying102 rfl) ?_
 refine w_k3 ?_
 refine fin_r [.tmp 2] [.iface 102 (.agg #[])] ?_
 exact ⟨rfl,H3.mask [false,true]⟩
abbrev DTn0 (b pg bg cg:Nat):=Ob b (.cells #[.map (some pg),.map (some bg),.map (some cg)] 101 (0,0))
theorem tycopy_s (b pg bg cg:Nat) (P B:Int→Option Int) (C:Int→Option Bool)  (w:World) (HS:S w [DTn0 b pg bg cg,Mp (Value.int .i64) (Value.int .i64) okI pg P,Mp (Value.int .i64) (Value.int .i64) okI bg B,Mp (Value.int .i64) Value.bool okI cg C]):Calls Tryz.prog 212 #[.pointer (some ⟨b,0,none⟩)] w fun e w'=>∃ b2 pg2 bg2 cg2,e=.returned (.iface 97 (.pointer (some ⟨b2,0,none⟩)))∧S w' ([Ob b2 (.cells #[.map (some pg2),.map (some bg2),.map (some cg2)] 101 (0,0)),Mp (Value.int .i64) (Value.int .i64) okI pg2 P,Mp (Value.int .i64) (Value.int .i64) okI bg2 B,Mp (Value.int .i64) Value.bool okI cg2 C,DTn0 b pg bg cg,Mp (Value.int .i64) (Value.int .i64) okI pg P,Mp (Value.int .i64) (Value.int .i64) okI bg B,Mp (Value.int .i64) Value.bool okI cg C]++[Old w (fps [DTn0 b pg bg cg,Mp (Value.int .i64) (Value.int .i64) okI pg P,Mp (Value.int .i64) (Value.int .i64) okI bg B,Mp (Value.int .i64) Value.bool okI cg C])]):=by
 have H0:=HS.beginI
 refine enter 21 Tryz.func212 rfl rfl rfl ?_
 refine g_wk [(0,_)] ?_
 refine w_s ?_
 refine w_k2 ?_
 refine g_seq ?_
 refine g_anyY [] (fun wx=>S wx [DTn0 b pg bg cg]) (fun wx=>S wx [DTn0 b pg bg cg]) [] (by kernel_rfl) H0 (fun wq1 H2=>?_)
 refine y_p 0 rfl (fun _=>xm) ?_
 refine y_p 1 rfl (fun _=>xn) ?_
 refine y_p 2 rfl (fun _=>xf 0) ?_
 have cm1:=H2.mask [true,false,false,false,false]
 refine y_t 3 rfl cm1 (fun _ H=>xl H 0) ?_
 refine y_p 5 rfl (fun _=>xm) ?_
 refine y_p 6 rfl (fun _=>xn) ?_
 refine y_p 7 rfl (fun _=>xf 1) ?_
 refine y_t 8 rfl cm1 (fun _ H=>xl H 0) ?_
 refine y_p 10 rfl (fun _=>xm) ?_
 refine y_p 11 rfl (fun _=>xn) ?_
 refine y_p 12 rfl (fun _=>xf 2) ?_
 refine y_t 13 rfl cm1 (fun _ H=>xl H 0) ?_
 refine y_one (i:=4) (by kernel_rfl) rfl ?_
 refine s_cl (mclone_i pg P _ (H2.tk [1])) ?_
 rintro _ wq4 ⟨mg3,rfl,H5⟩
 replace H5:S _ [_,_,_,_,_,_]:=H2.abI (new:=[_,_]) [1] H5 rfl
 refine b_ret rfl rfl ?_
 have cm2:=H5.mask [false,false,true,false,false,false]
 refine y_k cm2 cm2 ?_
 refine y_one (i:=9) (by kernel_rfl) rfl ?_
 refine s_cl (mclone_i bg B _ (H5.tk [3])) ?_
 rintro _ wq7 ⟨mg6,rfl,H8⟩
 replace H8:S _ [_,_,_,_,_,_,_]:=H5.abI (new:=[_,_]) [3] H8 rfl
 refine b_ret rfl rfl ?_
 have cm3:=H8.mask [false,false,false,false,true,false,false]
 refine y_k cm3 cm3 ?_
 refine y_one (i:=14) (by kernel_rfl) rfl ?_
 refine s_cl (mclone_b cg C _ (H8.tk [5])) ?_
 rintro _ wq10 ⟨mg9,rfl,H11⟩
 replace H11:S _ [_,_,_,_,_,_,_,_]:=H8.abI (new:=[_,_]) [5] H11 rfl
 refine b_ret rfl rfl ?_
 have cm4:=H11.mask [false,false,false,false,false,false,true,false]
 refine y_k cm4 cm4 ?_
 refine y_p (v:=.agg #[.map (some mg3),.map (some mg6),.map (some mg9)]) 15 rfl (fun _=>x_build (vs:=[.map (some mg3),.map (some mg6),.map (some mg9)]) rfl rfl (cells:=#[.map (some mg3),.map (some mg6),.map (some mg9)]) (by kernel_rfl)) ?_
 refine y_one (i:=16) (by kernel_rfl) rfl ?_
 refine s_box H11 (wt0 rfl) rfl rfl rfl rfl ?_
 intro g12 wq13 H14
 have cm5:=H14.mask [false,false,false,false,false,false,false,true,false]
 refine y_k cm5 cm5 ?_
 refine y_p (v:=.iface 97 (.pointer (some ⟨g12,0,none⟩))) 17 rfl (fun _=>x_makeInterface rfl rfl Tryz.underlying97 rfl) ?_
 refine y_p 18 rfl (fun _=>xa) ?_
 refine y_done (by kernel_rfl) ?_
 refine w_k2 ?_
 refine fin_r [.tmp 2] [.iface 97 (.pointer (some ⟨g12,0,none⟩))] ?_
 exact ⟨_,_,_,_,rfl,H14.tk [0,5,3,1,7,6,4,2,8]⟩
theorem tycopy_n (b pg bg:Nat) (P B:Int→Option Int)  (w:World) (HS:S w [Ob b (.cells #[.map (some pg),.map (some bg),.map none] 101 (0,0)),Mp (Value.int .i64) (Value.int .i64) okI pg P,Mp (Value.int .i64) (Value.int .i64) okI bg B]):Calls Tryz.prog 212 #[.pointer (some ⟨b,0,none⟩)] w fun e w'=>∃ b2 pg2 bg2,e=.returned (.iface 97 (.pointer (some ⟨b2,0,none⟩)))∧S w' ([Ob b2 (.cells #[.map (some pg2),.map (some bg2),.map none] 101 (0,0)),Mp (Value.int .i64) (Value.int .i64) okI pg2 P,Mp (Value.int .i64) (Value.int .i64) okI bg2 B,Ob b (.cells #[.map (some pg),.map (some bg),.map none] 101 (0,0)),Mp (Value.int .i64) (Value.int .i64) okI pg P,Mp (Value.int .i64) (Value.int .i64) okI bg B]++[Old w (fps [Ob b (.cells #[.map (some pg),.map (some bg),.map none] 101 (0,0)),Mp (Value.int .i64) (Value.int .i64) okI pg P,Mp (Value.int .i64) (Value.int .i64) okI bg B])]):=by
 have H0:=HS.beginI
 refine enter 21 Tryz.func212 rfl rfl rfl ?_
 refine g_wk [(0,_)] ?_
 refine w_s ?_
 refine w_k2 ?_
 refine g_seq ?_
 refine g_anyY [] (fun wx=>S wx [Ob b (.cells #[.map (some pg),.map (some bg),.map none] 101 (0,0))]) (fun wx=>S wx [Ob b (.cells #[.map (some pg),.map (some bg),.map none] 101 (0,0))]) [] (by kernel_rfl) H0 (fun wq1 H2=>?_)
 refine y_p 0 rfl (fun _=>xm) ?_
 refine y_p 1 rfl (fun _=>xn) ?_
 refine y_p 2 rfl (fun _=>xf 0) ?_
 have cm1:=H2.mask [true,false,false,false]
 refine y_t 3 rfl cm1 (fun _ H=>xl H 0) ?_
 refine y_p 5 rfl (fun _=>xm) ?_
 refine y_p 6 rfl (fun _=>xn) ?_
 refine y_p 7 rfl (fun _=>xf 1) ?_
 refine y_t 8 rfl cm1 (fun _ H=>xl H 0) ?_
 refine y_p 10 rfl (fun _=>xm) ?_
 refine y_p 11 rfl (fun _=>xn) ?_
 refine y_p 12 rfl (fun _=>xf 2) ?_
 refine y_t 13 rfl cm1 (fun _ H=>xl H 0) ?_
 refine y_one (i:=4) (by kernel_rfl) rfl ?_
 refine s_cl (mclone_i pg P _ (H2.tk [1])) ?_
 rintro _ wq4 ⟨mg3,rfl,H5⟩
 replace H5:S _ [_,_,_,_,_]:=H2.abI (new:=[_,_]) [1] H5 rfl
 refine b_ret rfl rfl ?_
 have cm2:=H5.mask [false,false,true,false,false]
 refine y_k cm2 cm2 ?_
 refine y_one (i:=9) (by kernel_rfl) rfl ?_
 refine s_cl (mclone_i bg B _ (H5.tk [3])) ?_
 rintro _ wq7 ⟨mg6,rfl,H8⟩
 replace H8:S _ [_,_,_,_,_,_]:=H5.abI (new:=[_,_]) [3] H8 rfl
 refine b_ret rfl rfl ?_
 have cm3:=H8.mask [false,false,false,false,true,false]
 refine y_k cm3 cm3 ?_
 refine y_one (i:=14) (by kernel_rfl) rfl ?_
 refine s_call0 H8 (wt0 rfl) (x_call' rfl rfl cl216) (mclone_n _) rfl rfl ?_
 intro wq9 H10
 have cm4:=H10.mask [false,false,false,false,true,false]
 refine y_k cm4 cm4 ?_
 refine y_p (v:=.agg #[.map (some mg3),.map (some mg6),.map none]) 15 rfl (fun _=>x_build (vs:=[.map (some mg3),.map (some mg6),.map none]) rfl rfl (cells:=#[.map (some mg3),.map (some mg6),.map none]) (by kernel_rfl)) ?_
 refine y_one (i:=16) (by kernel_rfl) rfl ?_
 refine s_box H10 (wt0 rfl) rfl rfl rfl rfl ?_
 intro g11 wq12 H13
 have cm5:=H13.mask [false,false,false,false,false,true,false]
 refine y_k cm5 cm5 ?_
 refine y_p (v:=.iface 97 (.pointer (some ⟨g11,0,none⟩))) 17 rfl (fun _=>x_makeInterface rfl rfl Tryz.underlying97 rfl) ?_
 refine y_p 18 rfl (fun _=>xa) ?_
 refine y_done (by kernel_rfl) ?_
 refine w_k2 ?_
 refine fin_r [.tmp 2] [.iface 97 (.pointer (some ⟨g11,0,none⟩))] ?_
 exact ⟨_,_,_,rfl,H13.tk [0,3,1,5,4,2,6]⟩
theorem made_1  (w:World):Calls Tryz.prog 27 #[.int .i64 1] w fun e w'=>e=.returned (.iface 92 (.agg #[]))∧S w' [Old w no]:=by
 have H0:=S.old w
 refine enter 24 Tryz.func27 rfl rfl rfl ?_
 refine g_wk [(0,_)] ?_
 refine w_s ?_
 refine w_k3 ?_
 refine w_v (v:=.agg #[]) (x_build (vs:=[]) rfl rfl (cells:=#[]) (by kernel_rfl)) ?_
 refine w_v (v:=.iface 92 (.agg #[])) (x_makeInterface rfl rfl Tryz.underlying92 rfl) ?_
 refine w_v (v:=.agg #[]) (x_build (vs:=[]) rfl rfl (cells:=#[]) (by kernel_rfl)) ?_
 refine w_v (v:=.iface 93 (.agg #[])) (x_makeInterface rfl rfl Tryz.underlying93 rfl) ?_
 refine w_v (v:=.agg #[]) (x_build (vs:=[]) rfl rfl (cells:=#[]) (by kernel_rfl)) ?_
 refine w_v (v:=.iface 94 (.agg #[])) (x_makeInterface rfl rfl Tryz.underlying94 rfl) ?_
 refine w_v (v:=.agg #[]) (x_build (vs:=[]) rfl rfl (cells:=#[]) (by kernel_rfl)) ?_
 refine w_v (v:=.iface 95 (.agg #[])) (x_makeInterface rfl rfl Tryz.underlying95 rfl) ?_
 refine w_v (v:=.agg #[]) (x_build (vs:=[]) rfl rfl (cells:=#[]) (by kernel_rfl)) ?_
 refine w_v (v:=.iface 96 (.agg #[])) (x_makeInterface rfl rfl Tryz.underlying96 rfl) ?_
 refine l_of (s_makeMap (α:=Int) (Value.int .i64) (Value.int .i64) okI H0 (wt0 rfl) rfl rfl rfl ?_)
 intro mg1 wq2 H3
 refine l_of (s_makeMap (α:=Int) (Value.int .i64) (Value.int .i64) okI H3 (wt0 rfl) rfl rfl rfl ?_)
 intro mg4 wq5 H6
 refine w_v (v:=.agg #[.map (some mg1),.map (some mg4),.map none]) (x_build (vs:=[.map (some mg1),.map (some mg4),.map none]) rfl rfl (cells:=#[.map (some mg1),.map (some mg4),.map none]) (by kernel_rfl)) ?_
 refine l_of (s_box H6 (wt0 rfl) rfl rfl rfl rfl ?_)
 intro g7 wq8 H9
 refine w_v (v:=.iface 97 (.pointer (some ⟨g7,0,none⟩))) (x_makeInterface rfl rfl Tryz.underlying97 rfl) ?_
 refine w_v (v:=.agg #[]) (x_build (vs:=[]) rfl rfl (cells:=#[]) (by kernel_rfl)) ?_
 refine w_v (v:=.iface 102 (.agg #[])) (x_makeInterface rfl rfl Tryz.underlying102 rfl) ?_
 refine w_v (v:=.agg #[.iface 92 (.agg #[]),.iface 93 (.agg #[]),.iface 94 (.agg #[]),.iface 95 (.agg #[]),.iface 96 (.agg #[]),.iface 97 (.pointer (some ⟨g7,0,none⟩)),.iface 102 (.agg #[])]) (x_build (vs:=[.iface 92 (.agg #[]),.iface 93 (.agg #[]),.iface 94 (.agg #[]),.iface 95 (.agg #[]),.iface 96 (.agg #[]),.iface 97 (.pointer (some ⟨g7,0,none⟩)),.iface 102 (.agg #[])]) rfl rfl (cells:=#[.iface 92 (.agg #[]),.iface 93 (.agg #[]),.iface 94 (.agg #[]),.iface 95 (.agg #[]),.iface 96 (.agg #[]),.iface 97 (.pointer (some ⟨g7,0,none⟩)),.iface 102 (.agg #[])]) (by kernel_rfl)) ?_
 refine w_m ?_
 refine w_b (v:=.int .i64 0) (hb:=(b_sub (r:=0) (by decide))) ?_
 refine w_v (v:=.iface 92 (.agg #[])) (x_indexW 0 rfl rfl rfl Tryz.underlying103 sz63 Tryz.underlying63 rfl ⟨by decide,by decide⟩ rfl) ?_
 refine w_k3 ?_
 refine fin_r [.tmp 2] [.iface 92 (.agg #[])] ?_
 exact ⟨rfl,H9.mask [false,false,false,true]⟩
theorem made_2  (w:World):Calls Tryz.prog 27 #[.int .i64 2] w fun e w'=>e=.returned (.iface 93 (.agg #[]))∧S w' [Old w no]:=by
 have H0:=S.old w
 refine enter 24 Tryz.func27 rfl rfl rfl ?_
 refine g_wk [(0,_)] ?_
 refine w_s ?_
 refine w_k3 ?_
 refine w_v (v:=.agg #[]) (x_build (vs:=[]) rfl rfl (cells:=#[]) (by kernel_rfl)) ?_
 refine w_v (v:=.iface 92 (.agg #[])) (x_makeInterface rfl rfl Tryz.underlying92 rfl) ?_
 refine w_v (v:=.agg #[]) (x_build (vs:=[]) rfl rfl (cells:=#[]) (by kernel_rfl)) ?_
 refine w_v (v:=.iface 93 (.agg #[])) (x_makeInterface rfl rfl Tryz.underlying93 rfl) ?_
 refine w_v (v:=.agg #[]) (x_build (vs:=[]) rfl rfl (cells:=#[]) (by kernel_rfl)) ?_
 refine w_v (v:=.iface 94 (.agg #[])) (x_makeInterface rfl rfl Tryz.underlying94 rfl) ?_
 refine w_v (v:=.agg #[]) (x_build (vs:=[]) rfl rfl (cells:=#[]) (by kernel_rfl)) ?_
 refine w_v (v:=.iface 95 (.agg #[])) (x_makeInterface rfl rfl Tryz.underlying95 rfl) ?_
 refine w_v (v:=.agg #[]) (x_build (vs:=[]) rfl rfl (cells:=#[]) (by kernel_rfl)) ?_
 refine w_v (v:=.iface 96 (.agg #[])) (x_makeInterface rfl rfl Tryz.underlying96 rfl) ?_
 refine l_of (s_makeMap (α:=Int) (Value.int .i64) (Value.int .i64) okI H0 (wt0 rfl) rfl rfl rfl ?_)
 intro mg1 wq2 H3
 refine l_of (s_makeMap (α:=Int) (Value.int .i64) (Value.int .i64) okI H3 (wt0 rfl) rfl rfl rfl ?_)
 intro mg4 wq5 H6
 refine w_v (v:=.agg #[.map (some mg1),.map (some mg4),.map none]) (x_build (vs:=[.map (some mg1),.map (some mg4),.map none]) rfl rfl (cells:=#[.map (some mg1),.map (some mg4),.map none]) (by kernel_rfl)) ?_
 refine l_of (s_box H6 (wt0 rfl) rfl rfl rfl rfl ?_)
 intro g7 wq8 H9
 refine w_v (v:=.iface 97 (.pointer (some ⟨g7,0,none⟩))) (x_makeInterface rfl rfl Tryz.underlying97 rfl) ?_
 refine w_v (v:=.agg #[]) (x_build (vs:=[]) rfl rfl (cells:=#[]) (by kernel_rfl)) ?_
 refine w_v (v:=.iface 102 (.agg #[])) (x_makeInterface rfl rfl Tryz.underlying102 rfl) ?_
 refine w_v (v:=.agg #[.iface 92 (.agg #[]),.iface 93 (.agg #[]),.iface 94 (.agg #[]),.iface 95 (.agg #[]),.iface 96 (.agg #[]),.iface 97 (.pointer (some ⟨g7,0,none⟩)),.iface 102 (.agg #[])]) (x_build (vs:=[.iface 92 (.agg #[]),.iface 93 (.agg #[]),.iface 94 (.agg #[]),.iface 95 (.agg #[]),.iface 96 (.agg #[]),.iface 97 (.pointer (some ⟨g7,0,none⟩)),.iface 102 (.agg #[])]) rfl rfl (cells:=#[.iface 92 (.agg #[]),.iface 93 (.agg #[]),.iface 94 (.agg #[]),.iface 95 (.agg #[]),.iface 96 (.agg #[]),.iface 97 (.pointer (some ⟨g7,0,none⟩)),.iface 102 (.agg #[])]) (by kernel_rfl)) ?_
 refine w_m ?_
 refine w_b (v:=.int .i64 1) (hb:=(b_sub (r:=1) (by decide))) ?_
 refine w_v (v:=.iface 93 (.agg #[])) (x_indexW 1 rfl rfl rfl Tryz.underlying103 sz63 Tryz.underlying63 rfl ⟨by decide,by decide⟩ rfl) ?_
 refine w_k3 ?_
 refine fin_r [.tmp 2] [.iface 93 (.agg #[])] ?_
 exact ⟨rfl,H9.mask [false,false,false,true]⟩
theorem made_3  (w:World):Calls Tryz.prog 27 #[.int .i64 3] w fun e w'=>e=.returned (.iface 94 (.agg #[]))∧S w' [Old w no]:=by
 have H0:=S.old w
 refine enter 24 Tryz.func27 rfl rfl rfl ?_
 refine g_wk [(0,_)] ?_
 refine w_s ?_
 refine w_k3 ?_
 refine w_v (v:=.agg #[]) (x_build (vs:=[]) rfl rfl (cells:=#[]) (by kernel_rfl)) ?_
 refine w_v (v:=.iface 92 (.agg #[])) (x_makeInterface rfl rfl Tryz.underlying92 rfl) ?_
 refine w_v (v:=.agg #[]) (x_build (vs:=[]) rfl rfl (cells:=#[]) (by kernel_rfl)) ?_
 refine w_v (v:=.iface 93 (.agg #[])) (x_makeInterface rfl rfl Tryz.underlying93 rfl) ?_
 refine w_v (v:=.agg #[]) (x_build (vs:=[]) rfl rfl (cells:=#[]) (by kernel_rfl)) ?_
 refine w_v (v:=.iface 94 (.agg #[])) (x_makeInterface rfl rfl Tryz.underlying94 rfl) ?_
 refine w_v (v:=.agg #[]) (x_build (vs:=[]) rfl rfl (cells:=#[]) (by kernel_rfl)) ?_
 refine w_v (v:=.iface 95 (.agg #[])) (x_makeInterface rfl rfl Tryz.underlying95 rfl) ?_
 refine w_v (v:=.agg #[]) (x_build (vs:=[]) rfl rfl (cells:=#[]) (by kernel_rfl)) ?_
 refine w_v (v:=.iface 96 (.agg #[])) (x_makeInterface rfl rfl Tryz.underlying96 rfl) ?_
 refine l_of (s_makeMap (α:=Int) (Value.int .i64) (Value.int .i64) okI H0 (wt0 rfl) rfl rfl rfl ?_)
 intro mg1 wq2 H3
 refine l_of (s_makeMap (α:=Int) (Value.int .i64) (Value.int .i64) okI H3 (wt0 rfl) rfl rfl rfl ?_)
 intro mg4 wq5 H6
 refine w_v (v:=.agg #[.map (some mg1),.map (some mg4),.map none]) (x_build (vs:=[.map (some mg1),.map (some mg4),.map none]) rfl rfl (cells:=#[.map (some mg1),.map (some mg4),.map none]) (by kernel_rfl)) ?_
 refine l_of (s_box H6 (wt0 rfl) rfl rfl rfl rfl ?_)
 intro g7 wq8 H9
 refine w_v (v:=.iface 97 (.pointer (some ⟨g7,0,none⟩))) (x_makeInterface rfl rfl Tryz.underlying97 rfl) ?_
 refine w_v (v:=.agg #[]) (x_build (vs:=[]) rfl rfl (cells:=#[]) (by kernel_rfl)) ?_
 refine w_v (v:=.iface 102 (.agg #[])) (x_makeInterface rfl rfl Tryz.underlying102 rfl) ?_
 refine w_v (v:=.agg #[.iface 92 (.agg #[]),.iface 93 (.agg #[]),.iface 94 (.agg #[]),.iface 95 (.agg #[]),.iface 96 (.agg #[]),.iface 97 (.pointer (some ⟨g7,0,none⟩)),.iface 102 (.agg #[])]) (x_build (vs:=[.iface 92 (.agg #[]),.iface 93 (.agg #[]),.iface 94 (.agg #[]),.iface 95 (.agg #[]),.iface 96 (.agg #[]),.iface 97 (.pointer (some ⟨g7,0,none⟩)),.iface 102 (.agg #[])]) rfl rfl (cells:=#[.iface 92 (.agg #[]),.iface 93 (.agg #[]),.iface 94 (.agg #[]),.iface 95 (.agg #[]),.iface 96 (.agg #[]),.iface 97 (.pointer (some ⟨g7,0,none⟩)),.iface 102 (.agg #[])]) (by kernel_rfl)) ?_
 refine w_m ?_
 refine w_b (v:=.int .i64 2) (hb:=(b_sub (r:=2) (by decide))) ?_
 refine w_v (v:=.iface 94 (.agg #[])) (x_indexW 2 rfl rfl rfl Tryz.underlying103 sz63 Tryz.underlying63 rfl ⟨by decide,by decide⟩ rfl) ?_
 refine w_k3 ?_
 refine fin_r [.tmp 2] [.iface 94 (.agg #[])] ?_
 exact ⟨rfl,H9.mask [false,false,false,true]⟩
theorem made_4  (w:World):Calls Tryz.prog 27 #[.int .i64 4] w fun e w'=>e=.returned (.iface 95 (.agg #[]))∧S w' [Old w no]:=by
 have H0:=S.old w
 refine enter 24 Tryz.func27 rfl rfl rfl ?_
 refine g_wk [(0,_)] ?_
 refine w_s ?_
 refine w_k3 ?_
 refine w_v (v:=.agg #[]) (x_build (vs:=[]) rfl rfl (cells:=#[]) (by kernel_rfl)) ?_
 refine w_v (v:=.iface 92 (.agg #[])) (x_makeInterface rfl rfl Tryz.underlying92 rfl) ?_
 refine w_v (v:=.agg #[]) (x_build (vs:=[]) rfl rfl (cells:=#[]) (by kernel_rfl)) ?_
 refine w_v (v:=.iface 93 (.agg #[])) (x_makeInterface rfl rfl Tryz.underlying93 rfl) ?_
 refine w_v (v:=.agg #[]) (x_build (vs:=[]) rfl rfl (cells:=#[]) (by kernel_rfl)) ?_
 refine w_v (v:=.iface 94 (.agg #[])) (x_makeInterface rfl rfl Tryz.underlying94 rfl) ?_
 refine w_v (v:=.agg #[]) (x_build (vs:=[]) rfl rfl (cells:=#[]) (by kernel_rfl)) ?_
 refine w_v (v:=.iface 95 (.agg #[])) (x_makeInterface rfl rfl Tryz.underlying95 rfl) ?_
 refine w_v (v:=.agg #[]) (x_build (vs:=[]) rfl rfl (cells:=#[]) (by kernel_rfl)) ?_
 refine w_v (v:=.iface 96 (.agg #[])) (x_makeInterface rfl rfl Tryz.underlying96 rfl) ?_
 refine l_of (s_makeMap (α:=Int) (Value.int .i64) (Value.int .i64) okI H0 (wt0 rfl) rfl rfl rfl ?_)
 intro mg1 wq2 H3
 refine l_of (s_makeMap (α:=Int) (Value.int .i64) (Value.int .i64) okI H3 (wt0 rfl) rfl rfl rfl ?_)
 intro mg4 wq5 H6
 refine w_v (v:=.agg #[.map (some mg1),.map (some mg4),.map none]) (x_build (vs:=[.map (some mg1),.map (some mg4),.map none]) rfl rfl (cells:=#[.map (some mg1),.map (some mg4),.map none]) (by kernel_rfl)) ?_
 refine l_of (s_box H6 (wt0 rfl) rfl rfl rfl rfl ?_)
 intro g7 wq8 H9
 refine w_v (v:=.iface 97 (.pointer (some ⟨g7,0,none⟩))) (x_makeInterface rfl rfl Tryz.underlying97 rfl) ?_
 refine w_v (v:=.agg #[]) (x_build (vs:=[]) rfl rfl (cells:=#[]) (by kernel_rfl)) ?_
 refine w_v (v:=.iface 102 (.agg #[])) (x_makeInterface rfl rfl Tryz.underlying102 rfl) ?_
 refine w_v (v:=.agg #[.iface 92 (.agg #[]),.iface 93 (.agg #[]),.iface 94 (.agg #[]),.iface 95 (.agg #[]),.iface 96 (.agg #[]),.iface 97 (.pointer (some ⟨g7,0,none⟩)),.iface 102 (.agg #[])]) (x_build (vs:=[.iface 92 (.agg #[]),.iface 93 (.agg #[]),.iface 94 (.agg #[]),.iface 95 (.agg #[]),.iface 96 (.agg #[]),.iface 97 (.pointer (some ⟨g7,0,none⟩)),.iface 102 (.agg #[])]) rfl rfl (cells:=#[.iface 92 (.agg #[]),.iface 93 (.agg #[]),.iface 94 (.agg #[]),.iface 95 (.agg #[]),.iface 96 (.agg #[]),.iface 97 (.pointer (some ⟨g7,0,none⟩)),.iface 102 (.agg #[])]) (by kernel_rfl)) ?_
 refine w_m ?_
 refine w_b (v:=.int .i64 3) (hb:=(b_sub (r:=3) (by decide))) ?_
 refine w_v (v:=.iface 95 (.agg #[])) (x_indexW 3 rfl rfl rfl Tryz.underlying103 sz63 Tryz.underlying63 rfl ⟨by decide,by decide⟩ rfl) ?_
 refine w_k3 ?_
 refine fin_r [.tmp 2] [.iface 95 (.agg #[])] ?_
 exact ⟨rfl,H9.mask [false,false,false,true]⟩
theorem made_5  (w:World):Calls Tryz.prog 27 #[.int .i64 5] w fun e w'=>e=.returned (.iface 96 (.agg #[]))∧S w' [Old w no]:=by
 have H0:=S.old w
 refine enter 24 Tryz.func27 rfl rfl rfl ?_
 refine g_wk [(0,_)] ?_
 refine w_s ?_
 refine w_k3 ?_
 refine w_v (v:=.agg #[]) (x_build (vs:=[]) rfl rfl (cells:=#[]) (by kernel_rfl)) ?_
 refine w_v (v:=.iface 92 (.agg #[])) (x_makeInterface rfl rfl Tryz.underlying92 rfl) ?_
 refine w_v (v:=.agg #[]) (x_build (vs:=[]) rfl rfl (cells:=#[]) (by kernel_rfl)) ?_
 refine w_v (v:=.iface 93 (.agg #[])) (x_makeInterface rfl rfl Tryz.underlying93 rfl) ?_
 refine w_v (v:=.agg #[]) (x_build (vs:=[]) rfl rfl (cells:=#[]) (by kernel_rfl)) ?_
 refine w_v (v:=.iface 94 (.agg #[])) (x_makeInterface rfl rfl Tryz.underlying94 rfl) ?_
 refine w_v (v:=.agg #[]) (x_build (vs:=[]) rfl rfl (cells:=#[]) (by kernel_rfl)) ?_
 refine w_v (v:=.iface 95 (.agg #[])) (x_makeInterface rfl rfl Tryz.underlying95 rfl) ?_
 refine w_v (v:=.agg #[]) (x_build (vs:=[]) rfl rfl (cells:=#[]) (by kernel_rfl)) ?_
 refine w_v (v:=.iface 96 (.agg #[])) (x_makeInterface rfl rfl Tryz.underlying96 rfl) ?_
 refine l_of (s_makeMap (α:=Int) (Value.int .i64) (Value.int .i64) okI H0 (wt0 rfl) rfl rfl rfl ?_)
 intro mg1 wq2 H3
 refine l_of (s_makeMap (α:=Int) (Value.int .i64) (Value.int .i64) okI H3 (wt0 rfl) rfl rfl rfl ?_)
 intro mg4 wq5 H6
 refine w_v (v:=.agg #[.map (some mg1),.map (some mg4),.map none]) (x_build (vs:=[.map (some mg1),.map (some mg4),.map none]) rfl rfl (cells:=#[.map (some mg1),.map (some mg4),.map none]) (by kernel_rfl)) ?_
 refine l_of (s_box H6 (wt0 rfl) rfl rfl rfl rfl ?_)
 intro g7 wq8 H9
 refine w_v (v:=.iface 97 (.pointer (some ⟨g7,0,none⟩))) (x_makeInterface rfl rfl Tryz.underlying97 rfl) ?_
 refine w_v (v:=.agg #[]) (x_build (vs:=[]) rfl rfl (cells:=#[]) (by kernel_rfl)) ?_
 refine w_v (v:=.iface 102 (.agg #[])) (x_makeInterface rfl rfl Tryz.underlying102 rfl) ?_
 refine w_v (v:=.agg #[.iface 92 (.agg #[]),.iface 93 (.agg #[]),.iface 94 (.agg #[]),.iface 95 (.agg #[]),.iface 96 (.agg #[]),.iface 97 (.pointer (some ⟨g7,0,none⟩)),.iface 102 (.agg #[])]) (x_build (vs:=[.iface 92 (.agg #[]),.iface 93 (.agg #[]),.iface 94 (.agg #[]),.iface 95 (.agg #[]),.iface 96 (.agg #[]),.iface 97 (.pointer (some ⟨g7,0,none⟩)),.iface 102 (.agg #[])]) rfl rfl (cells:=#[.iface 92 (.agg #[]),.iface 93 (.agg #[]),.iface 94 (.agg #[]),.iface 95 (.agg #[]),.iface 96 (.agg #[]),.iface 97 (.pointer (some ⟨g7,0,none⟩)),.iface 102 (.agg #[])]) (by kernel_rfl)) ?_
 refine w_m ?_
 refine w_b (v:=.int .i64 4) (hb:=(b_sub (r:=4) (by decide))) ?_
 refine w_v (v:=.iface 96 (.agg #[])) (x_indexW 4 rfl rfl rfl Tryz.underlying103 sz63 Tryz.underlying63 rfl ⟨by decide,by decide⟩ rfl) ?_
 refine w_k3 ?_
 refine fin_r [.tmp 2] [.iface 96 (.agg #[])] ?_
 exact ⟨rfl,H9.mask [false,false,false,true]⟩
theorem made_6  (w:World):Calls Tryz.prog 27 #[.int .i64 6] w fun e w'=>∃ b2 pg2 bg2,e=.returned (.iface 97 (.pointer (some ⟨b2,0,none⟩)))∧S w' ([Ob b2 (.cells #[.map (some pg2),.map (some bg2),.map none] 101 (0,0)),Mp (Value.int .i64) (Value.int .i64) okI pg2 (fun _=>none),Mp (Value.int .i64) (Value.int .i64) okI bg2 (fun _=>none)]++[Old w no]):=by
 have H0:=S.old w
 refine enter 24 Tryz.func27 rfl rfl rfl ?_
 refine g_wk [(0,_)] ?_
 refine w_s ?_
 refine w_k3 ?_
 refine w_v (v:=.agg #[]) (x_build (vs:=[]) rfl rfl (cells:=#[]) (by kernel_rfl)) ?_
 refine w_v (v:=.iface 92 (.agg #[])) (x_makeInterface rfl rfl Tryz.underlying92 rfl) ?_
 refine w_v (v:=.agg #[]) (x_build (vs:=[]) rfl rfl (cells:=#[]) (by kernel_rfl)) ?_
 refine w_v (v:=.iface 93 (.agg #[])) (x_makeInterface rfl rfl Tryz.underlying93 rfl) ?_
 refine w_v (v:=.agg #[]) (x_build (vs:=[]) rfl rfl (cells:=#[]) (by kernel_rfl)) ?_
 refine w_v (v:=.iface 94 (.agg #[])) (x_makeInterface rfl rfl Tryz.underlying94 rfl) ?_
 refine w_v (v:=.agg #[]) (x_build (vs:=[]) rfl rfl (cells:=#[]) (by kernel_rfl)) ?_
 refine w_v (v:=.iface 95 (.agg #[])) (x_makeInterface rfl rfl Tryz.underlying95 rfl) ?_
 refine w_v (v:=.agg #[]) (x_build (vs:=[]) rfl rfl (cells:=#[]) (by kernel_rfl)) ?_
 refine w_v (v:=.iface 96 (.agg #[])) (x_makeInterface rfl rfl Tryz.underlying96 rfl) ?_
 refine l_of (s_makeMap (α:=Int) (Value.int .i64) (Value.int .i64) okI H0 (wt0 rfl) rfl rfl rfl ?_)
 intro mg1 wq2 H3
 refine l_of (s_makeMap (α:=Int) (Value.int .i64) (Value.int .i64) okI H3 (wt0 rfl) rfl rfl rfl ?_)
 intro mg4 wq5 H6
 refine w_v (v:=.agg #[.map (some mg1),.map (some mg4),.map none]) (x_build (vs:=[.map (some mg1),.map (some mg4),.map none]) rfl rfl (cells:=#[.map (some mg1),.map (some mg4),.map none]) (by kernel_rfl)) ?_
 refine l_of (s_box H6 (wt0 rfl) rfl rfl rfl rfl ?_)
 intro g7 wq8 H9
 refine w_v (v:=.iface 97 (.pointer (some ⟨g7,0,none⟩))) (x_makeInterface rfl rfl Tryz.underlying97 rfl) ?_
 refine w_v (v:=.agg #[]) (x_build (vs:=[]) rfl rfl (cells:=#[]) (by kernel_rfl)) ?_
 refine w_v (v:=.iface 102 (.agg #[])) (x_makeInterface rfl rfl Tryz.underlying102 rfl) ?_
 refine w_v (v:=.agg #[.iface 92 (.agg #[]),.iface 93 (.agg #[]),.iface 94 (.agg #[]),.iface 95 (.agg #[]),.iface 96 (.agg #[]),.iface 97 (.pointer (some ⟨g7,0,none⟩)),.iface 102 (.agg #[])]) (x_build (vs:=[.iface 92 (.agg #[]),.iface 93 (.agg #[]),.iface 94 (.agg #[]),.iface 95 (.agg #[]),.iface 96 (.agg #[]),.iface 97 (.pointer (some ⟨g7,0,none⟩)),.iface 102 (.agg #[])]) rfl rfl (cells:=#[.iface 92 (.agg #[]),.iface 93 (.agg #[]),.iface 94 (.agg #[]),.iface 95 (.agg #[]),.iface 96 (.agg #[]),.iface 97 (.pointer (some ⟨g7,0,none⟩)),.iface 102 (.agg #[])]) (by kernel_rfl)) ?_
 refine w_m ?_
 refine w_b (v:=.int .i64 5) (hb:=(b_sub (r:=5) (by decide))) ?_
 refine w_v (v:=.iface 97 (.pointer (some ⟨g7,0,none⟩))) (x_indexW 5 rfl rfl rfl Tryz.underlying103 sz63 Tryz.underlying63 rfl ⟨by decide,by decide⟩ rfl) ?_
 refine w_k3 ?_
 refine fin_r [.tmp 2] [.iface 97 (.pointer (some ⟨g7,0,none⟩))] ?_
 exact ⟨_,_,_,rfl,H9.tk [0,2,1,3]⟩
theorem made_7  (w:World):Calls Tryz.prog 27 #[.int .i64 7] w fun e w'=>e=.returned (.iface 102 (.agg #[]))∧S w' [Old w no]:=by
 have H0:=S.old w
 refine enter 24 Tryz.func27 rfl rfl rfl ?_
 refine g_wk [(0,_)] ?_
 refine w_s ?_
 refine w_k3 ?_
 refine w_v (v:=.agg #[]) (x_build (vs:=[]) rfl rfl (cells:=#[]) (by kernel_rfl)) ?_
 refine w_v (v:=.iface 92 (.agg #[])) (x_makeInterface rfl rfl Tryz.underlying92 rfl) ?_
 refine w_v (v:=.agg #[]) (x_build (vs:=[]) rfl rfl (cells:=#[]) (by kernel_rfl)) ?_
 refine w_v (v:=.iface 93 (.agg #[])) (x_makeInterface rfl rfl Tryz.underlying93 rfl) ?_
 refine w_v (v:=.agg #[]) (x_build (vs:=[]) rfl rfl (cells:=#[]) (by kernel_rfl)) ?_
 refine w_v (v:=.iface 94 (.agg #[])) (x_makeInterface rfl rfl Tryz.underlying94 rfl) ?_
 refine w_v (v:=.agg #[]) (x_build (vs:=[]) rfl rfl (cells:=#[]) (by kernel_rfl)) ?_
 refine w_v (v:=.iface 95 (.agg #[])) (x_makeInterface rfl rfl Tryz.underlying95 rfl) ?_
 refine w_v (v:=.agg #[]) (x_build (vs:=[]) rfl rfl (cells:=#[]) (by kernel_rfl)) ?_
 refine w_v (v:=.iface 96 (.agg #[])) (x_makeInterface rfl rfl Tryz.underlying96 rfl) ?_
 refine l_of (s_makeMap (α:=Int) (Value.int .i64) (Value.int .i64) okI H0 (wt0 rfl) rfl rfl rfl ?_)
 intro mg1 wq2 H3
 refine l_of (s_makeMap (α:=Int) (Value.int .i64) (Value.int .i64) okI H3 (wt0 rfl) rfl rfl rfl ?_)
 intro mg4 wq5 H6
 refine w_v (v:=.agg #[.map (some mg1),.map (some mg4),.map none]) (x_build (vs:=[.map (some mg1),.map (some mg4),.map none]) rfl rfl (cells:=#[.map (some mg1),.map (some mg4),.map none]) (by kernel_rfl)) ?_
 refine l_of (s_box H6 (wt0 rfl) rfl rfl rfl rfl ?_)
 intro g7 wq8 H9
 refine w_v (v:=.iface 97 (.pointer (some ⟨g7,0,none⟩))) (x_makeInterface rfl rfl Tryz.underlying97 rfl) ?_
 refine w_v (v:=.agg #[]) (x_build (vs:=[]) rfl rfl (cells:=#[]) (by kernel_rfl)) ?_
 refine w_v (v:=.iface 102 (.agg #[])) (x_makeInterface rfl rfl Tryz.underlying102 rfl) ?_
 refine w_v (v:=.agg #[.iface 92 (.agg #[]),.iface 93 (.agg #[]),.iface 94 (.agg #[]),.iface 95 (.agg #[]),.iface 96 (.agg #[]),.iface 97 (.pointer (some ⟨g7,0,none⟩)),.iface 102 (.agg #[])]) (x_build (vs:=[.iface 92 (.agg #[]),.iface 93 (.agg #[]),.iface 94 (.agg #[]),.iface 95 (.agg #[]),.iface 96 (.agg #[]),.iface 97 (.pointer (some ⟨g7,0,none⟩)),.iface 102 (.agg #[])]) rfl rfl (cells:=#[.iface 92 (.agg #[]),.iface 93 (.agg #[]),.iface 94 (.agg #[]),.iface 95 (.agg #[]),.iface 96 (.agg #[]),.iface 97 (.pointer (some ⟨g7,0,none⟩)),.iface 102 (.agg #[])]) (by kernel_rfl)) ?_
 refine w_m ?_
 refine w_b (v:=.int .i64 6) (hb:=(b_sub (r:=6) (by decide))) ?_
 refine w_v (v:=.iface 102 (.agg #[])) (x_indexW 6 rfl rfl rfl Tryz.underlying103 sz63 Tryz.underlying63 rfl ⟨by decide,by decide⟩ rfl) ?_
 refine w_k3 ?_
 refine fin_r [.tmp 2] [.iface 102 (.agg #[])] ?_
 exact ⟨rfl,H9.mask [false,false,false,true]⟩
end Go.Proofs.YtpbjekdjebjbkaaGreatDoor
