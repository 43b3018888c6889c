import Derived.Test.YtpbjekdjebjbkaaGreatDoorRn
import Derived.Test.YtpbjekdjebjbkaaGreatDoorFm
set_option maxRecDepth 20000
set_option maxHeartbeats 4000000
set_option linter.unusedSimpArgs false
set_option linter.unusedVariables false
namespace Go.Proofs.YtpbjekdjebjbkaaGreatDoor
open Go.RowKit
theorem posV_congr {c c':Int→Int→Int} {o:List Int} {x:Int} (h:∀ y∈o,c x y=c' x y):∀ K,K≤o.length→posV c o x K=posV c' o x K
 | 0,_=>rfl
 | K+1,hK=>by
   obtain ⟨y,hy⟩:=ex_at (l:=o) (j:=K) (by omega)
   have e:c x (o.getD K 0)=c' x (o.getD K 0):=by rw [getD_atT hy]; exact h y (List.mem_of_getElem? hy)
   show (if c x (o.getD K 0)<0 then posV c o x K else K+1)=(if c' x (o.getD K 0)<0 then posV c' o x K else K+1)
   rw [e,posV_congr h K (by omega)]
theorem rank_congr {c c':Int→Int→Int}:∀ (l:List Int) {o:List Int},(∀ x∈l,∀ y,y∈o∨y∈l→c x y=c' x y)→l.foldl (insV c) o=l.foldl (insV c') o
 | [],o,_=>rfl
 | a :: l,o,h=>by
   rw [List.foldl_cons,List.foldl_cons]
   have e:insV c o a=insV c' o a:=by
     unfold insV
     rw [posV_congr (fun y hy=>h a List.mem_cons_self y (.inl hy)) o.length (Nat.le_refl _)]
   rw [e]
   refine rank_congr l fun x hx y hy=>h x (List.mem_cons_of_mem _ hx) y ?_
   rcases hy with hy | hy
   · rcases insV_mem hy with hy | rfl
     · exact .inl hy
     · exact .inr List.mem_cons_self
   · exact .inr (List.mem_cons_of_mem _ hy)
theorem tyW_congr {m m':Int→Int}:∀ (l:List Int) {s:TyW},(∀ x∈l,m x=m' x)→l.foldl (tyW m) s=l.foldl (tyW m') s
 | [],s,_=>rfl
 | a :: l,s,h=>by
   rw [List.foldl_cons,List.foldl_cons]
   have e:tyW m s a=tyW m' s a:=by unfold tyW; rw [h a List.mem_cons_self]
   rw [e]
   exact tyW_congr l fun x hx=>h x (List.mem_cons_of_mem _ hx)
theorem rankV_sub {c:Int→Int→Int} {l:List Int} {i:Int} (h:i∈rankV c l):i∈l:=by
 rcases rankV_mem _ h with h | h
 · exact absurd h List.not_mem_nil
 · exact h
theorem tyrCm_congr {G:List (List (List Int))} {m m':Int→Int} {me a b:Int} (ha:m a=m' a) (hb:m b=m' b):tyrCm G m me a b=tyrCm G m' me a b:=by
 unfold tyrCm
 rw [ha,hb]
theorem tyr_who {G:List (List (List Int))} {m:Int→Int} {P:Int→Option Int} {n:Nat} {rt me:Int} (hn:n≤9) (hG:∀ a b,0≤lastV G a b) (hm:∀ i,0≤mustV P rt i) (h:∀ x∈othV n me,m x=mustV P rt x) :
   (rankV (tyrCm G m me) (othV n me)).foldl (tyW m) (⟨[],[],rt,false⟩:TyW)=(tyrL n G P rt me).foldl (tyW (mustV P rt)) (⟨[],[],rt,false⟩:TyW):=by
 have e1:rankV (tyrCm G m me) (othV n me)=rankV (tyrCm G (mustV P rt) me) (othV n me):=rank_congr _ fun x hx y hy=>by
   rcases hy with hy | hy
   · exact absurd hy List.not_mem_nil
   · exact tyrCm_congr (h x hx) (h y hy)
 rw [tyW_congr _ fun x hx=>h x (rankV_sub hx),e1,rank_tyr hn hG hm]
theorem chos_is {sd:ByteArray} {n:Nat} {G bwG:List (List (List Int))} {bw:List (List Int)} {rt me:Int} {s:Sp} {m:Int→Int} (hn:n≤9) (hG:∀ r∈G,RdOK n r) (hb:BwInv n G bw) (hme:0≤me∧me<n) (hk:1≤s.k∧s.k≤7)
   (hP:s.k=6→∀ i,0≤mustV s.P rt i) (hm:s.k=6→∀ x∈othV n me,m x=mustV s.P rt x) :
   putV n (chosG sd n G s.k rt m me).1 (chosG sd n G s.k rt m me).2=giveV sd n rt G bw s me∧(s.k=6→∀ i,((giveP n rt G me s).C i).getD false=decide (i∈(chosG sd n G s.k rt m me).1)):=by
 have hl:∀ a b,0≤lastV G a b:=fun a b=>(lastV_pl hG a b).1
 unfold chosG giveV
 by_cases h1:s.k=1
 · rw [if_pos h1,if_pos h1]
   refine ⟨?_,fun h=>by omega⟩
   show putV n _ (whatE rt _)=_
   rw [put_evn]
   unfold fairV
   rw [fair_is hn hG hb hme]
 rw [if_neg h1,if_neg h1]
 by_cases h2:s.k=2
 · rw [if_pos h2,if_pos h2]
   exact ⟨rfl,fun h=>by omega⟩
 rw [if_neg h2,if_neg h2]
 by_cases h3:s.k=3
 · rw [if_pos h3,if_pos h3]
   exact ⟨put_evn _ _ _,fun h=>by omega⟩
 rw [if_neg h3,if_neg h3]
 by_cases h4:s.k=4
 · rw [if_pos h4,if_pos h4]
   exact ⟨put_evn _ _ _,fun h=>by omega⟩
 rw [if_neg h4,if_neg h4]
 by_cases h5:s.k=5
 · rw [if_pos h5,if_pos h5]
   exact ⟨put_evn _ _ _,fun h=>by omega⟩
 rw [if_neg h5,if_neg h5]
 by_cases h6:s.k=6
 · rw [if_pos h6,if_pos h6]
   dsimp only
   rw [tyr_who hn hl (hP h6) (hm h6)]
   have hr:=tyr_rel (mustV s.P rt) n rt (tyrL n G s.P rt me)
   refine ⟨hr.out.symm,fun _ i=>?_⟩
   unfold giveP
   rw [if_pos h6]
   exact hr.cho i
 rw [if_neg h6,if_neg h6]
 refine ⟨?_,fun h=>absurd h h6⟩
 unfold mirV
 by_cases h0:G.length=0
 · rw [if_pos h0,if_pos h0]
   exact put_evn _ _ _
 · rw [if_neg h0,if_neg h0]
   exact (mir_put _ _ _ _).symm
structure RelG (A:GA) (R:RA):Prop where
 sd:R.sd=A.sd
 ps:R.ps=A.ps
 gv:R.gv=A.gv
 xd:RdOK A.ps.length R.px
 yl:R.rw.length=A.ps.length
 yw:∀ y∈R.rw,y.length=A.ps.length∧BdL (10 * (A.gv.length:Int)) y
 tyr:∀ (i:Nat) (s:Sp),A.ss[i]?=some s→s.k=6→∀ j:Nat,j<A.ps.length→j ≠ i→at2 R.px i j=mustV s.P (rtA A.ps i) j∧at2 R.rw i j=(s.B j).getD 0
 bw:BwInv A.ps.length A.gv A.bw
 tot:TotInv A
theorem rtA_bd {A:GA} (h:GOK A) (i:Nat):0≤rtA A.ps i∧rtA A.ps i≤1000000:=by
 unfold rtA
 cases hp:A.ps[i]? with
 | none=>show (0:Int)≤0∧(0:Int)≤1000000; decide
 | some p=>exact (h.pv p (List.mem_of_getElem? hp)).2
theorem must_pl {A:GA} (h:GOK A) {i:Nat} {s:Sp} (hs:A.ss[i]?=some s) (j:Int):0≤mustV s.P (rtA A.ps i) j:=by
 unfold mustV
 cases e:s.P j with
 | none =>
   have:=rtA_bd h i
   show 0≤rtA A.ps i / 4
   omega
 | some v=>exact (h.sP s (List.mem_of_getElem? hs) j v e).1
theorem RelG.chos {A:GA} {R:RA} (h:GOK A) (hr:RelG A R) {i:Nat} {s:Sp} (hi:i<A.ps.length) (hs:A.ss[i]?=some s) :
   rowQ R i=rowR A i∧(s.k=6→∀ j,((gvP A i s).C j).getD false=decide (j∈(chosR R i).1)):=by
 obtain ⟨p,s',hp,hs',hk,hv⟩:=h.at hi
 rw [hs] at hs'
 obtain rfl:=Option.some.inj hs'
 have h1:=chos_is (sd:=A.sd) (bwG:=[]) (rt:=rtA A.ps i) (me:=(i:Int)) (s:=s) (m:=fun j=>at2 R.px i j) h.n9 h.gr hr.bw ⟨by omega,by omega⟩ (by omega) (fun _ j=>must_pl h hs j) fun h6 x hx=>by
   have h2:=othV_mem.1 hx
   have h3:=(hr.tyr i s hs h6 x.toNat (by omega) (by omega)).1
   rw [show ((x.toNat:Nat):Int)=x by omega] at h3
   exact h3
 have e:chosR R i=chosG A.sd A.ps.length A.gv s.k (rtA A.ps i) (fun j=>at2 R.px i j) i:=by
   unfold chosR
   rw [hr.sd,hr.ps,hr.gv,stA_is hp,hk]
 refine ⟨?_,?_⟩
 · unfold rowQ rowR
   rw [e,hr.ps,ssA_is hs]
   exact h1.1
 · rw [e]
   exact h1.2
theorem RelG.round {A:GA} {R:RA} (h:GOK A) (hr:RelG A R):roundQ R=roundR A:=by
 unfold roundQ roundR
 rw [hr.ps]
 refine List.map_congr_left fun i hi=>?_
 rw [List.mem_range] at hi
 obtain ⟨p,s,hp,hs,_⟩:=h.at hi
 exact (hr.chos h hi hs).1
theorem chosR_nn {A:GA} {R:RA} (h:GOK A) (hr:RelG A R) {i:Nat} (hi:i<A.ps.length):∀ j∈(chosR R i).1,0≤j:=by
 obtain ⟨W,V,hWV⟩:∃ W V,chosR R i=(W,V):=⟨_,_,rfl⟩
 rw [hWV]
 unfold chosR at hWV
 rw [hr.ps] at hWV
 have h1:=chosG_ok h.n9 h.n2 ⟨by omega,by omega⟩ hWV
 exact fun j hj=>(h1.mem j hj).1.1
structure NoteR (n:Nat) (me:Nat) (rt:Int) (a:List Int × List Int) (b:(Int→Option Int) × (Int→Option Int)):Prop where
 l1:a.1.length=n
 l2:a.2.length=n
 pr:∀ j:Nat,j<n→j ≠ me→a.1.getD j 0=mustV b.1 rt j
 rw:∀ j:Nat,j<n→j ≠ me→a.2.getD j 0=(b.2 j).getD 0
theorem must_up {P:Int→Option Int} {rt o v j:Int}:mustV (upM P o v) rt j=if j=o then v else mustV P rt j:=by
 unfold mustV upM
 by_cases e:j=o
 · rw [if_pos e,if_pos e]; rfl
 · rw [if_neg e,if_neg e]
theorem up_getD {B:Int→Option Int} {o v j:Int}:((upM B o v) j).getD 0=if j=o then v else (B j).getD 0:=by
 unfold upM
 by_cases e:j=o
 · rw [if_pos e,if_pos e]; rfl
 · rw [if_neg e,if_neg e]
theorem set_getD {l:List Int} {o:Int} {v:Int} {j:Nat} (ho:0≤o∧o.toNat<l.length):(l.set o.toNat v).getD j 0=if (j:Int)=o then v else l.getD j 0:=by
 by_cases e:(j:Int)=o
 · rw [if_pos e]
   have e2:o.toNat=j:=by omega
   exact getD_atT (by rw [e2,List.getElem?_set_self (by omega)])
 · rw [if_neg e,List.getD_eq_getElem?_getD,List.getD_eq_getElem?_getD,List.getElem?_set_ne (by omega)]
theorem NoteR.step {n me:Nat} {rt:Int} {a:List Int × List Int} {b:(Int→Option Int) × (Int→Option Int)} (h:NoteR n me rt a b) {C:List Bool} {D:Int→Option Bool} {f g:Int→Int} {o:Int} (ho:(0≤o∧o<(n:Int))∧o ≠ (me:Int)) (hC:C.getD o.toNat false=(D o).getD false) (hf:f o=g o) :
   NoteR n me rt (updS C f rt a o) (behS D g rt b o):=by
 have h1:=h.pr o.toNat (by omega) (by omega)
 have h2:=h.rw o.toNat (by omega) (by omega)
 rw [show ((o.toNat:Nat):Int)=o by omega] at h1 h2
 have l1:=h.l1
 have l2:=h.l2
 have e1:0≤o∧o.toNat<a.1.length:=⟨ho.1.1,by omega⟩
 have e2:0≤o∧o.toNat<a.2.length:=⟨ho.1.1,by omega⟩
 unfold updS behS
 rw [hC,hf,h1,h2]
 by_cases c1:(D o).getD false=false
 · rw [if_pos c1,if_pos c1]
   refine ⟨l1,by rw [List.length_set]; exact l2,fun j hj hm=>?_,fun j hj hm=>?_⟩
   · dsimp only
     rw [must_up]
     split
     · rw [h.pr j hj hm]
       congr 1
     · exact h.pr j hj hm
   · dsimp only
     rw [up_getD,set_getD e2,h.rw j hj hm]
 · rw [if_neg c1,if_neg c1]
   by_cases c2:0<g o
   · rw [if_pos c2,if_pos c2]
     refine ⟨?_,by rw [List.length_set]; exact l2,fun j hj hm=>?_,fun j hj hm=>?_⟩
     · dsimp only
       split
       · rw [List.length_set]; exact l1
       · exact l1
     · dsimp only
       rw [must_up]
       by_cases c3:3≤(b.2 o).getD 0+1
       · rw [if_pos c3,if_pos c3,set_getD e1,h.pr j hj hm]
       · rw [if_neg c3,if_neg c3,h.pr j hj hm]
         split
         · rename_i e; rw [e]
         · rfl
     · dsimp only
       rw [up_getD,set_getD e2,h.rw j hj hm]
   · rw [if_neg c2,if_neg c2]
     refine ⟨by rw [List.length_set]; exact l1,by rw [List.length_set]; exact l2,fun j hj hm=>?_,fun j hj hm=>?_⟩
     · dsimp only
       rw [must_up,set_getD e1,h.pr j hj hm,Int.max_comm 1]
     · dsimp only
       rw [up_getD,set_getD e2,h.rw j hj hm]
theorem NoteR.fold {n me:Nat} {rt:Int} {C:List Bool} {D:Int→Option Bool} {f g:Int→Int}:∀ (l:List Int) {a:List Int × List Int} {b:(Int→Option Int) × (Int→Option Int)},NoteR n me rt a b→(∀ o∈l,((0≤o∧o<(n:Int))∧o ≠ (me:Int))∧C.getD o.toNat false=(D o).getD false∧f o=g o)→NoteR n me rt (l.foldl (updS C f rt) a) (behF D g rt l b)
 | [],a,b,h,_=>h
 | o :: l,a,b,h,hl=>by
   have h1:=hl o List.mem_cons_self
   exact NoteR.fold l (h.step h1.1 h1.2.1 h1.2.2) fun x hx=>hl x (List.mem_cons_of_mem _ hx)
theorem updS_bd {C:List Bool} {f:Int→Int} {rt K:Int} {a:List Int × List Int} {o:Int} (hr:0≤rt∧rt≤1000000) (hK:0≤K) (h1:BdL 1000000 a.1) (h2:BdL K a.2):BdL 1000000 (updS C f rt a o).1∧BdL (K+1) (updS C f rt a o).2∧(updS C f rt a o).1.length=a.1.length∧(updS C f rt a o).2.length=a.2.length:=by
 have b1:=h1.getD (by decide) o.toNat
 have b2:=h2.getD hK o.toNat
 unfold updS
 split
 · exact ⟨h1,(h2.set ⟨Int.le_refl _,hK⟩).up (by omega),rfl,List.length_set ..⟩
 split
 · refine ⟨?_,(h2.up (by omega)).set ⟨by omega,by omega⟩,?_,List.length_set ..⟩
   · dsimp only
     split
     · exact h1.set ⟨by omega,by omega⟩
     · exact h1
   · dsimp only
     split
     · exact List.length_set ..
     · rfl
 · exact ⟨h1.set ⟨by omega,by omega⟩,(h2.set ⟨Int.le_refl _,hK⟩).up (by omega),List.length_set ..,List.length_set ..⟩
theorem updF_bd {C:List Bool} {f:Int→Int} {rt:Int} (hr:0≤rt∧rt≤1000000):∀ (l:List Int) {K:Int} {a:List Int × List Int},0≤K→BdL 1000000 a.1→BdL K a.2→BdL 1000000 (l.foldl (updS C f rt) a).1∧BdL (K+l.length) (l.foldl (updS C f rt) a).2∧(l.foldl (updS C f rt) a).1.length=a.1.length∧(l.foldl (updS C f rt) a).2.length=a.2.length
 | [],K,a,_,h1,h2=>⟨h1,by simpa using h2,rfl,rfl⟩
 | o :: l,K,a,hK,h1,h2=>by
   obtain ⟨q1,q2,q3,q4⟩:=updS_bd (C:=C) (f:=f) (o:=o) hr hK h1 h2
   obtain ⟨r1,r2,r3,r4⟩:=updF_bd (C:=C) (f:=f) hr l (K:=K+1) (by omega) q1 q2
   exact ⟨r1,r2.up (by rw [List.length_cons]; omega),r3.trans q3,r4.trans q4⟩
theorem lastV_snoc (G:List (List (List Int))) (r:List (List Int)) (a b:Int):lastV (G++[r]) a b=at2 r a b:=by
 unfold lastV
 rw [List.getLast?_append]; rfl
theorem RelG.xrow {A:GA} {R:RA} (hr:RelG A R) {i:Nat} (hi:i<A.ps.length):∃ x y,R.px[i]?=some x∧R.rw[i]?=some y∧x.length=A.ps.length∧BdL 1000000 x∧y.length=A.ps.length∧BdL (10 * (A.gv.length:Int)) y:=by
 obtain ⟨x,hx⟩:=ex_at (l:=R.px) (j:=i) (by rw [hr.xd.len]; exact hi)
 obtain ⟨y,hy⟩:=ex_at (l:=R.rw) (j:=i) (by rw [hr.yl]; exact hi)
 have h2:=hr.yw y (List.mem_of_getElem? hy)
 exact ⟨x,y,hx,hy,hr.xd.row x (List.mem_of_getElem? hx),fun z hz=>hr.xd.pos x (List.mem_of_getElem? hx) z hz,h2.1,h2.2⟩
theorem updR_bd {A:GA} {R:RA} (h:GOK A) (hr:RelG A R) {i:Nat} (hi:i<A.ps.length):(updR R i).1.length=A.ps.length∧BdL 1000000 (updR R i).1∧(updR R i).2.length=A.ps.length∧BdL (10 * ((A.gv.length:Int)+1)) (updR R i).2:=by
 obtain ⟨x,y,hx,hy,x1,x2,y1,y2⟩:=hr.xrow hi
 have h9:=h.n9
 have hol:=othV_len A.ps.length i
 unfold updR
 rw [hr.ps,getD_atT hx,getD_atT hy]
 split
 · obtain ⟨q1,q2,q3,q4⟩:=updF_bd (C:=wasV A.ps.length (chosR R i).1) (f:=fun j=>at2 (roundQ R) j i) (rtA_bd h i) (othV A.ps.length i) (K:=10 * (A.gv.length:Int)) (a:=(x,y)) (by omega) x2 y2
   exact ⟨q3.trans x1,q1,q4.trans y1,q2.up (by omega)⟩
 · exact ⟨x1,x2,y1,y2.up (by omega)⟩
theorem mapK_at2 {f:Nat→List Int→List Int} {n:Nat} {l:List (List Int)} {i:Nat} {x:List Int} (hi:i<n) (hx:l[i]?=some x) (j:Nat):at2 (mapK f n l) i j=(f i x).getD j 0:=by
 rw [at2_getD,getD_atT (mapK_lt hi hx)]
theorem RelG.step {A:GA} {R:RA} (h:GOK A) (hr:RelG A R):RelG (stepA A) (stepR R) where
 sd:=hr.sd
 ps:=hr.ps
 gv:=by show R.gv++[roundQ R]=A.gv++[roundR A]; rw [hr.gv,hr.round h]
 xd:=by
   refine ⟨?_,?_,?_⟩
   · show (mapK _ R.ps.length R.px).length=_
     rw [mapK_len]; exact hr.xd.len
   · intro x hx
     obtain ⟨i,hi⟩:=List.getElem?_of_mem hx
     have hl:=(List.getElem?_eq_some_iff.1 hi).1
     have hl2:i<A.ps.length:=by
       have:(stepR R).px.length=A.ps.length:=by show (mapK _ R.ps.length R.px).length=_; rw [mapK_len]; exact hr.xd.len
       omega
     obtain ⟨x0,y0,hx0,_⟩:=hr.xrow hl2
     have e:(stepR R).px[i]?=some (updR R i).1:=mapK_lt (by rw [hr.ps]; exact hl2) hx0
     rw [e] at hi
     rw [← Option.some.inj hi]
     exact (updR_bd h hr hl2).1
   · intro x hx
     obtain ⟨i,hi⟩:=List.getElem?_of_mem hx
     have hl:=(List.getElem?_eq_some_iff.1 hi).1
     have hl2:i<A.ps.length:=by
       have:(stepR R).px.length=A.ps.length:=by show (mapK _ R.ps.length R.px).length=_; rw [mapK_len]; exact hr.xd.len
       omega
     obtain ⟨x0,y0,hx0,_⟩:=hr.xrow hl2
     have e:(stepR R).px[i]?=some (updR R i).1:=mapK_lt (by rw [hr.ps]; exact hl2) hx0
     rw [e] at hi
     rw [← Option.some.inj hi]
     exact (updR_bd h hr hl2).2.1
 yl:=by
   show (mapK _ R.ps.length R.rw).length=_
   rw [mapK_len]; exact hr.yl
 yw:=by
   intro y hy
   obtain ⟨i,hi⟩:=List.getElem?_of_mem hy
   have hl:=(List.getElem?_eq_some_iff.1 hi).1
   have hl2:i<A.ps.length:=by
     have:(stepR R).rw.length=A.ps.length:=by show (mapK _ R.ps.length R.rw).length=_; rw [mapK_len]; exact hr.yl
     omega
   obtain ⟨x0,y0,_,hy0,_⟩:=hr.xrow hl2
   have e:(stepR R).rw[i]?=some (updR R i).2:=mapK_lt (by rw [hr.ps]; exact hl2) hy0
   rw [e] at hi
   rw [← Option.some.inj hi]
   refine ⟨(updR_bd h hr hl2).2.2.1,(updR_bd h hr hl2).2.2.2.up ?_⟩
   show _≤10 * ((A.gv++[roundR A]).length:Int)
   rw [List.length_append,List.length_singleton]; omega
 tyr:=by
   intro i s' hs' h6 j hj hji
   have hss:=h.sl
   have hi:i<A.ps.length:=by
     have h2:=(List.getElem?_eq_some_iff.1 hs').1
     have h3:(stepA A).ss.length=A.ss.length:=by show (mapK _ _ (mapK _ _ _)).length=_; rw [mapK_len,mapK_len]
     omega
   obtain ⟨p,s,hp,hs,hk,hv⟩:=h.at hi
   have e1:(stepA A).ss[i]?=some (bhP A.ps (A.gv++[roundR A]) i (gvP A i s)):=mapK_lt hi (mapK_lt hi hs)
   rw [e1] at hs'
   obtain rfl:=Option.some.inj hs'
   have hgk:(gvP A i s).k=s.k∧(gvP A i s).P=s.P∧(gvP A i s).B=s.B:=giveP_k _ _ _ _ _
   have hk6:s.k=6:=by
     have h2:=behP_k A.ps.length (rtA A.ps i) (A.gv++[roundR A]) i (gvP A i s)
     have h3:(bhP A.ps (A.gv++[roundR A]) i (gvP A i s)).k=(gvP A i s).k:=h2
     rw [h3,hgk.1] at h6; exact h6
   obtain ⟨x,y,hx,hy,x1,x2,y1,y2⟩:=hr.xrow hi
   have hst:stA A.ps i=6:=by rw [stA_is hp]; omega
   have hch:=(hr.chos h hi hs).2 hk6
   have hN:NoteR A.ps.length i (rtA A.ps i) (x,y) (s.P,s.B):=by
     refine ⟨x1,y1,fun k hk hki=>?_,fun k hk hki=>?_⟩
     · have h2:=(hr.tyr i s hs hk6 k hk hki).1
       rw [at2_getD,getD_atT hx] at h2; exact h2
     · have h2:=(hr.tyr i s hs hk6 k hk hki).2
       rw [at2_getD,getD_atT hy] at h2; exact h2
   have hN2:=hN.fold (C:=wasV A.ps.length (chosR R i).1) (D:=(gvP A i s).C) (f:=fun j=>at2 (roundQ R) j i) (g:=fun j=>lastV (A.gv++[roundR A]) j i) (othV A.ps.length i) fun o ho=>by
     have h2:=othV_mem.1 ho
     refine ⟨h2,?_,?_⟩
     · rw [hch o,was_is (chosR_nn h hr hi) (j:=o.toNat) (by omega),show ((o.toNat:Nat):Int)=o by omega]
     · show at2 (roundQ R) o i=lastV (A.gv++[roundR A]) o i
       rw [lastV_snoc,hr.round h]
   have eU:updR R i=(othV A.ps.length i).foldl (updS (wasV A.ps.length (chosR R i).1) (fun j=>at2 (roundQ R) j i) (rtA A.ps i)) (x,y):=by
     unfold updR
     rw [hr.ps,if_pos hst,getD_atT hx,getD_atT hy]
   have eB:bhP A.ps (A.gv++[roundR A]) i (gvP A i s)={ gvP A i s with P:=(behF (gvP A i s).C (fun j=>lastV (A.gv++[roundR A]) j i) (rtA A.ps i) (othV A.ps.length i) (s.P,s.B)).1,B:=(behF (gvP A i s).C (fun j=>lastV (A.gv++[roundR A]) j i) (rtA A.ps i) (othV A.ps.length i) (s.P,s.B)).2 }:=by
     unfold bhP behP
     rw [if_pos (by rw [hgk.1]; exact hk6),hgk.2.1,hgk.2.2]
   rw [← eU] at hN2
   rw [eB]
   have hps:(stepA A).ps=A.ps:=rfl
   rw [hps]
   refine ⟨?_,?_⟩
   · show at2 (mapK (fun i _=>(updR R i).1) R.ps.length R.px) i j=_
     rw [mapK_at2 (by rw [hr.ps]; exact hi) hx j]
     exact hN2.pr j hj hji
   · show at2 (mapK (fun i _=>(updR R i).2) R.ps.length R.rw) i j=_
     rw [mapK_at2 (by rw [hr.ps]; exact hi) hy j]
     exact hN2.rw j hj hji
 bw:=hr.bw.step h
 tot:=hr.tot.step h
noncomputable def stepsR:Nat→RA→RA
 | 0,R=>R
 | k+1,R=>stepR (stepsR k R)
theorem RelG.steps {A:GA} {R:RA} (h:GOK A) (hr:RelG A R):∀ k,GOK (stepsA k A)∧RelG (stepsA k A) (stepsR k R)
 | 0=>⟨h,hr⟩
 | k+1=>⟨(RelG.steps h hr k).1.step,(RelG.steps h hr k).2.step (RelG.steps h hr k).1⟩
def chR (R:RA) (n:Nat) (p:Pl):RA:={ R with ps:=R.ps.set n p,px:=if p.st=6 then R.px.set n (List.replicate R.ps.length (p.rt / 4)) else R.px,rw:=if p.st=6 then R.rw.set n (List.replicate R.ps.length 0) else R.rw }
theorem set_if_len {α:Type} {c:Prop} [Decidable c] {l:List α} {n:Nat} {x:α}:(if c then l.set n x else l).length=l.length:=by split <;> simp
theorem mem_set_if {α:Type} {c:Prop} [Decidable c] {l:List α} {n:Nat} {x y:α} (h:y∈(if c then l.set n x else l)):y∈l∨(y=x∧c):=by
 split at h
 · rename_i hc
   rcases List.mem_or_eq_of_mem_set h with h | h
   · exact .inl h
   · exact .inr ⟨h,hc⟩
 · exact .inl h
theorem rep_mem {n:Nat} {a v:Int} (h:v∈List.replicate n a):v=a:=(List.mem_replicate.1 h).2
theorem at2_set_ne {l:List (List Int)} {n i j:Nat} {x:List Int} {c:Prop} [Decidable c] (h:i ≠ n):at2 (if c then l.set n x else l) i j=at2 l i j:=by
 split
 · rw [at2_def,at2_def,Int.toNat_natCast,Int.toNat_natCast,List.getElem?_set_ne (by omega)]
 · rfl
theorem RelG.change {A:GA} {R:RA} (h:GOK A) (hr:RelG A R) {n:Nat} {p:Pl} (hn:n<A.ps.length) (hp:(1≤p.st∧p.st≤7)∧0≤p.rt∧p.rt≤1000000):RelG (chA A n p) (chR R n p) where
 sd:=hr.sd
 ps:=by show R.ps.set n p=A.ps.set n p; rw [hr.ps]
 gv:=hr.gv
 xd:=by
   show RdOK (A.ps.set n p).length (if p.st=6 then R.px.set n (List.replicate R.ps.length (p.rt / 4)) else R.px)
   rw [List.length_set]
   refine ⟨by rw [set_if_len]; exact hr.xd.len,fun x hx=>?_,fun x hx y hy=>?_⟩
   · rcases mem_set_if hx with hx | ⟨rfl,_⟩
     · exact hr.xd.row x hx
     · rw [List.length_replicate,hr.ps]
   · rcases mem_set_if hx with hx | ⟨rfl,_⟩
     · exact hr.xd.pos x hx y hy
     · rw [rep_mem hy]; omega
 yl:=by
   show (if p.st=6 then R.rw.set n (List.replicate R.ps.length 0) else R.rw).length=(A.ps.set n p).length
   rw [set_if_len,List.length_set]; exact hr.yl
 yw y hy:=by
   show y.length=(A.ps.set n p).length∧_
   rw [List.length_set]
   rcases mem_set_if hy with hy | ⟨rfl,_⟩
   · exact hr.yw y hy
   · refine ⟨by rw [List.length_replicate,hr.ps],fun z hz=>?_⟩
     rw [rep_mem hz]
     exact ⟨Int.le_refl _,by omega⟩
 tyr:=by
   intro i s hs h6 j hj hji
   have hj2:j<A.ps.length:=by
     have:(A.ps.set n p).length=A.ps.length:=List.length_set ..
     have hj:j<(A.ps.set n p).length:=hj
     omega
   have hs:(A.ss.set n (spN p.st))[i]?=some s:=hs
   show at2 (if p.st=6 then R.px.set n (List.replicate R.ps.length (p.rt / 4)) else R.px) i j=mustV s.P (rtA (A.ps.set n p) i) j∧at2 (if p.st=6 then R.rw.set n (List.replicate R.ps.length 0) else R.rw) i j=_
   by_cases e:i=n
   · subst e
     rw [List.getElem?_set_self (by rw [h.sl]; exact hn)] at hs
     obtain rfl:=Option.some.inj hs
     have hst:p.st=6:=h6
     rw [if_pos hst,if_pos hst,rtA_is (List.getElem?_set_self hn)]
     constructor
     · rw [at2_getD,getD_atT (List.getElem?_set_self (by rw [hr.xd.len]; exact hn)),getD_atT (x:=p.rt / 4) (by rw [List.getElem?_replicate,hr.ps,if_pos hj2])]
       rfl
     · rw [at2_getD,getD_atT (List.getElem?_set_self (by rw [hr.yl]; exact hn)),getD_atT (x:=0) (by rw [List.getElem?_replicate,hr.ps,if_pos hj2])]
       rfl
   · rw [List.getElem?_set_ne (by omega)] at hs
     have e1:rtA (A.ps.set n p) i=rtA A.ps i:=by unfold rtA; rw [List.getElem?_set_ne (by omega)]
     rw [at2_set_ne e,at2_set_ne e,e1]
     exact hr.tyr i s hs h6 j hj2 hji
 bw a b ha hb:=by
   have e:(chA A n p).ps.length=A.ps.length:=List.length_set ..
   rw [e] at ha hb
   exact hr.bw a b ha hb
 tot i hi:=by
   have e:(chA A n p).ps.length=A.ps.length:=List.length_set ..
   rw [e] at hi ⊢
   exact hr.tot i hi
def newR (sd:ByteArray) (l:List Pl):RA:=⟨sd,l,[],l.map fun p=>List.replicate l.length (p.rt / 4),l.map fun _=>List.replicate l.length 0⟩
theorem sum_zero (k:Nat) (f:Nat→Int) (h:∀ j,f j=0):sumI ((List.range k).map f)=0:=by
 induction k with
 | zero=>rfl
 | succ k ih=>rw [List.range_succ,List.map_append,List.map_singleton,sumI_snoc,ih,h]; rfl
theorem RelG.new {sd:ByteArray} {l:List Pl} (hv:∀ p∈l,(1≤p.st∧p.st≤7)∧0≤p.rt∧p.rt≤1000000):RelG (newA sd l) (newR sd l) where
 sd:=rfl
 ps:=rfl
 gv:=rfl
 xd:=by
   refine ⟨List.length_map ..,fun x hx=>?_,fun x hx y hy=>?_⟩
   · obtain ⟨p,_,rfl⟩:=List.mem_map.1 hx
     exact List.length_replicate
   · obtain ⟨p,hp,rfl⟩:=List.mem_map.1 hx
     rw [rep_mem hy]
     have:=hv p hp
     omega
 yl:=List.length_map ..
 yw y hy:=by
   obtain ⟨p,hp,rfl⟩:=List.mem_map.1 hy
   exact ⟨List.length_replicate,fun z hz=>by rw [rep_mem hz]; exact ⟨Int.le_refl _,by omega⟩⟩
 tyr i s hs h6 j hj hji:=by
   have hs:(l.map fun p=>spN p.st)[i]?=some s:=hs
   have hj:j<l.length:=hj
   rw [List.getElem?_map] at hs
   cases hp:l[i]? with
   | none=>rw [hp] at hs; cases hs
   | some p =>
     rw [hp] at hs
     obtain rfl:=Option.some.inj hs
     show at2 (l.map fun p=>List.replicate l.length (p.rt / 4)) i j=mustV _ (rtA l i) j∧at2 (l.map fun _=>List.replicate l.length 0) i j=_
     rw [rtA_is hp]
     constructor
     · rw [at2_getD,getD_atT (x:=List.replicate l.length (p.rt / 4)) (by rw [List.getElem?_map,hp]; rfl),getD_atT (x:=p.rt / 4) (by rw [List.getElem?_replicate,if_pos hj])]
       rfl
     · rw [at2_getD,getD_atT (x:=List.replicate l.length (0:Int)) (by rw [List.getElem?_map,hp]; rfl),getD_atT (x:=(0:Int)) (by rw [List.getElem?_replicate,if_pos hj])]
       rfl
 bw a b ha hb:=by
   show at2 (List.replicate l.length (List.replicate l.length 0)) a b=0
   rw [at2_def,List.getElem?_replicate]
   split
   · show ((List.replicate l.length (0:Int))[b.toNat]?).getD 0=0
     rw [List.getElem?_replicate]
     split <;> rfl
   · rfl
 tot i hi:=by
   have hi:i<l.length:=hi
   constructor
   · show (List.replicate l.length (0:Int)).getD i 0=gotN [] i l.length
     rw [getD_atT (x:=(0:Int)) (by rw [List.getElem?_replicate,if_pos hi])]
     exact (sum_zero _ _ fun j=>rfl).symm
   · show (List.replicate l.length (0:Int)).getD i 0=gaveN [] i l.length
     rw [getD_atT (x:=(0:Int)) (by rw [List.getElem?_replicate,if_pos hi])]
     exact (sum_zero _ _ fun j=>rfl).symm
theorem cl8:callable Tryz.prog 8=true:=by kernel_rfl
theorem snoc_set {α:Type} {xs:List α} {z y:α} {i:Nat} (h:xs.length=i):(xs++[z]).set (i:Int).toNat y=xs++[y]:=by
 rw [Int.toNat_natCast,← h,List.set_append_right _ _ (Nat.le_refl _),Nat.sub_self]; rfl
theorem snoc_len {α:Type} (xs:List α) (z y:α):(xs++[z]).length=(xs++[y]).length:=by rw [List.length_append,List.length_append]; rfl
theorem newE_1 {sd:ByteArray} {l:List Pl} {x:Pl} (hx:x∈l) (h:valP x=false):newE sd l=1:=if_pos (.inr (List.any_eq_true.2 ⟨x,hx,by rw [h]; rfl⟩))
theorem all_valid {l:List Pl} (h:∀ p∈l,valP p=true):(l.any fun p=>!valP p)=false:=List.any_eq_false.2 fun p hp=>by rw [h p hp]; decide
theorem newr_s (sd:ByteArray) (l:List Pl) (p:Option Addr) (c:Nat) (h9:l.length≤9)  (w:World) (hr:Reads w p l.length c 2 (fl plL l)):Calls Tryz.prog 10 #[.string sd,.slice p l.length c] w fun e w'=>(e=.returned (.tuple #[.pointer none,.int .i64 (newE sd l)])∧¬ newE sd l=0∧S w' ([]++[Old w no]))∨∃ X:GR,e=.returned (.tuple #[.pointer (some ⟨X.g,0,none⟩),.int .i64 0])∧newE sd l=0∧X.A=newR sd l∧X.gs=[]∧S w' ([X.I]++[Old w no]):=by
 have H0:=S.old w
 have hnl:=hr.lenL plE
 refine enter 64 Tryz.func10 rfl rfl rfl ?_
 refine g_wk [(0,_),(1,_)] ?_
 refine w_s ?_
 refine w_k6 ?_
 refine w_v (x_lens rfl rfl Tryz.underlying9) ?_
 refine w_k2 ?_
 by_cases hb1:(100:Int)<(sd.size:Int)
 ·
  refine g_ct hb1 ?_
  refine w_k6 ?_
  refine fin_r [.tmp 4,.tmp 5] [.pointer none,.int .i64 1] ?_
  have hv:newE sd l=1:=if_pos (.inl (by omega))
  exact .inl ⟨by rw [hv]; rfl,by rw [hv]; decide,H0.mask [true]⟩
 ·
  refine g_cf hb1 ?_
  refine w_k9 ?_
  refine g_loop (ι:=Nat) (fun i=>[(0,.string sd),(1,.slice p l.length c),(13,.slice p l.length c),(14,.int .i64 ((l.length:Int))),(15,.int .i64 ((i:Int)))]) (fun i wx=>(i≤l.length)∧(∀ p∈l.take i,valP p=true)∧S wx [Old w no]) (fun i=>l.length - i) (0) ⟨rfl,rfl,rfl,rfl,rfl,trivial⟩ ⟨Nat.zero_le _,(fun p hp=>by simp at hp),(H0.tk [0])⟩ ?_
  rintro i wq2 ⟨hi,hva,H3⟩
  refine g_wk [(0,_),(1,_),(13,_),(14,_),(15,_)] ?_
  refine w_s ?_
  refine w_k2 ?_
  refine g_seq ?_
  by_cases hb4:((i:Int):Int)<(l.length:Int)
  ·
   refine g_ct hb4 ?_
   refine w_k5 ?_
   refine w_v (x_i i (H3.exReads (k:=0) rfl hr (fun _ _ _ h=>h))) ?_
   obtain ⟨x5,hx5⟩:=(H3.exReads (k:=0) rfl hr (fun _ _ _ h=>h)).exL plE i
   refine w_v (x_loadRA (vs:=plL x5) i (H3.exReads (k:=0) rfl hr (fun _ _ _ h=>h)) (by omega) rfl rfl Tryz.underlying27 rfl sz27 (by rfl) (plE.flAt hx5)) ?_
   refine l_of (s_alloc H3 (wt0 rfl) rfl rfl rfl ze27 ?_)
   intro g6 wq7 H8
   refine l_of (w_st #[.int .i64 (x5.st),.int .i64 (x5.rt)] H8 0 ?_)
   intro wq9 H10
   refine w_k2 ?_
   refine w_v (v:=.agg #[.int .i64 (x5.st),.int .i64 (x5.rt)]) (x_loadA H10 0 rfl rfl Tryz.underlying27 rfl sz27 rfl rfl rfl) ?_
   refine l_of (s_call0 H10 (wt0 rfl) (x_call' rfl rfl cl8) (validp_r x5 _) rfl rfl ?_)
   intro wq11 H12
   refine w_v (x_not (b:=(valP x5)) rfl rfl) ?_
   refine w_e ?_
   rcases Bool.eq_false_or_eq_true ((valP x5)) with hb13 | hb13
   ·
    refine g_cond_f rfl (neg_of hb13) ?_
    refine w_k4 ?_
    refine w_i i ?_
    refine w_k2 ?_
    refine g_rd (i:=(i)) ((i+1)) ⟨by omega,(no_takeP hva hx5 (by exact hb13)),(H12.tk [1])⟩
   ·
    refine g_cond_t rfl (neg_of hb13) ?_
    refine w_k10 ?_
    refine fin_r [.tmp 4,.tmp 5] [.pointer none,.int .i64 1] ?_
    have hv:newE sd l=1:=newE_1 (List.mem_of_getElem? hx5) hb13
    exact .inl ⟨by rw [hv]; rfl,by rw [hv]; decide,H12.mask [false,true]⟩
  ·
   refine g_cf hb4 ?_
   refine w_k8 ?_
   rw [List.take_of_length_le (by omega)] at hva
   have ha:=all_valid hva
   refine w_k3 ?_
   by_cases hb14:((l.length:Int):Int)<2
   ·
    iterate 3 refine w_n (decide_eq_true hb14) ?_
    refine w_v (x_pick_t rfl rfl (decide_eq_true hb14) rfl) ?_
    refine w_e ?_
    refine g_cond_t rfl rfl ?_
    refine w_k6 ?_
    refine fin_r [.tmp 4,.tmp 5] [.pointer none,.int .i64 11] ?_
    have hv:newE sd l=11:=by unfold newE; rw [if_neg (fun h9=>h9.elim (fun h8=>by omega) (fun h8=>by rw [ha] at h8; cases h8)),if_pos (.inl (by omega))]
    exact .inl ⟨by rw [hv]; rfl,by rw [hv]; decide,H3.mask [true]⟩
   ·
    refine w_g (decide_eq_false hb14) xm ?_
    refine w_g (decide_eq_false hb14) x_q ?_
    refine w_g (decide_eq_false hb14) (x_bin rfl rfl rfl b_gtr) ?_
    refine w_v (x_pick_f rfl rfl (decide_eq_false hb14) rfl) ?_
    refine w_e ?_
    refine g_cond_f rfl (decide_eq_false (by omega)) ?_
    refine w_k2 ?_
    refine g_seq ?_
    refine g_cut (ι:=Nat × Option Addr × Nat) (fun (g,pp,pc)=>[(1,.slice p l.length c),(8,.pointer (some ⟨g,0,none⟩))]) (fun (g,pp,pc) wx=>S wx [Ob g (.cells #[.string sd,.slice pp l.length pc,.slice none 0 0,.slice none 0 0,.slice none 0 0] 66 (0,0)),Rw 27 2 pp l.length pc (fl plL l),Old w no]) ?_ ?_
    ·
     refine w_k3 ?_
     have H15:S _ [_,_]:=H3.nilFl 27 2 plL
     have hln20a:=(H15.rr 0).lenL plE
     have hln20b:=(H15.exReads (k:=1) rfl hr (fun _ _ _ h=>h)).lenL plE
     have hln20:l.length=0+l.length:=by omega
     refine l_of (s_appLn (l:=[]) (l2:=l) plE H15 0 (wt0 rfl) rfl rfl rfl rfl rfl rfl Tryz.underlying22 inf27 rfl (by decide) (H15.exReads (k:=1) rfl hr (fun _ _ _ h=>h)) (by omega) ?_)
     intro p16 c17 wq18 H19
     rw [List.nil_append] at H19 ⊢
     replace H19:S wq18 [Rw 27 2 p16 l.length c17 (fl plL l),Old w no]:=H19
     refine w_v (v:=.agg #[.string sd,.slice p16 l.length c17,.slice none 0 0,.slice none 0 0,.slice none 0 0]) (x_build (vs:=[.string sd,.slice p16 l.length c17]) rfl rfl (cells:=#[.string sd,.slice p16 l.length c17,.slice none 0 0,.slice none 0 0,.slice none 0 0]) (by kernel_rfl)) ?_
     refine l_of (s_box H19 (wt0 rfl) rfl rfl rfl rfl ?_)
     intro g21 wq22 H23
     refine w_k2 ?_
     refine g_mid (g21,p16,c17) ?_ ?_
     · exact ⟨rfl,rfl,trivial⟩
     · exact (H23.tk [0,1,2])
    rintro ⟨g,pp,pc⟩ wq24 H25
    refine g_wk [(1,_),(8,_)] ?_
    refine g_seq ?_
    refine w_k6 ?_
    refine g_loop (ι:=Nat × Option Addr × Nat × List (Ro Int) × Option Addr × Nat × List (Ro Int)) (fun (k,xp,xc,xs,yp,yc,ys)=>[(8,.pointer (some ⟨g,0,none⟩)),(37,.int .i64 ((l.length:Int))),(38,.int .i64 ((k:Int)))]) (fun (k,xp,xc,xs,yp,yc,ys) wx=>(k≤l.length)∧(xs.map Ro.l=(l.take k).map fun p=>List.replicate l.length (p.rt / 4))∧(ys.map Ro.l=(l.take k).map fun _=>List.replicate l.length 0)∧S wx [Rw 43 1 xp xs.length xc (fl rowL xs),(Lst BwI xs),Rw 43 1 yp ys.length yc (fl rowL ys),(Lst BwI ys),Ob g (.cells #[.string sd,.slice pp l.length pc,.slice none 0 0,.slice xp xs.length xc,.slice yp ys.length yc] 66 (0,0)),Rw 27 2 pp l.length pc (fl plL l),Old w no]) (fun (k,xp,xc,xs,yp,yc,ys)=>l.length - k) (0,none,0,[],none,0,[]) ⟨rfl,rfl,rfl,trivial⟩ ⟨Nat.zero_le _,rfl,rfl,((S.lstNil (((S.lstNil (H25.nilFl 43 1 (rowL:Ro Int→List Value)) BwI)).nilFl 43 1 (rowL:Ro Int→List Value)) BwI).tk [3,2,1,0,4,5,6])⟩ ?_
    rintro ⟨k,xp,xc,xs,yp,yc,ys⟩ wq26 ⟨hk,hx9,hy9,H27⟩
    refine g_wk [(8,_),(37,_),(38,_)] ?_
    have hxln:xs.length=k:=(by have h9:=congrArg List.length hx9; rw [List.length_map,List.length_map,List.length_take] at h9; omega); have hyln:ys.length=k:=(by have h9:=congrArg List.length hy9; rw [List.length_map,List.length_map,List.length_take] at h9; omega)
    refine w_k3 ?_
    refine g_seq ?_
    by_cases hb28:((k:Int):Int)<(l.length:Int)
    ·
     refine g_ct hb28 ?_
     refine w_k14 ?_
     refine l_of (s_b1 ze43 #[.slice none 0 0] H27 ?_)
     intro g29 wq30 H31
     have hln36a:=(H31.rr 1).lenL rowE
     have hln36:(xs++[(⟨none,0,[]⟩:Ro Int)]).length=xs.length+1:=by simp only [List.length_append,List.length_cons,List.length_nil] <;> omega
     refine l_of (s_appBn (m:=1) (l:=xs) (l2:=[(⟨none,0,[]⟩:Ro Int)]) rowE H31 1 (j0:=0) rfl rfl ⟨rfl,Nat.le_refl _⟩ (wt0 rfl) rfl rfl rfl rfl rfl rfl Tryz.underlying39 inf43 rfl (by decide) (by omega) ?_)
     intro p32 c33 wq34 H35
     refine w_r2 ?_
     refine l_of (w_st #[.string sd,.slice pp l.length pc,.slice none 0 0,.slice p32 ((xs++[(⟨none,0,[]⟩:Ro Int)]).length) c33,.slice yp ys.length yc] H35 5 ?_)
     intro wq37 H38
     refine w_k7 ?_
     refine l_of (s_b1 ze43 #[.slice none 0 0] H38 ?_)
     intro g39 wq40 H41
     have hln46a:=(H41.rr 4).lenL rowE
     have hln46:(ys++[(⟨none,0,[]⟩:Ro Int)]).length=ys.length+1:=by simp only [List.length_append,List.length_cons,List.length_nil] <;> omega
     refine l_of (s_appBn (m:=1) (l:=ys) (l2:=[(⟨none,0,[]⟩:Ro Int)]) rowE H41 4 (j0:=0) rfl rfl ⟨rfl,Nat.le_refl _⟩ (wt0 rfl) rfl rfl rfl rfl rfl rfl Tryz.underlying39 inf43 rfl (by decide) (by omega) ?_)
     intro p42 c43 wq44 H45
     refine w_r2 ?_
     refine l_of (w_st #[.string sd,.slice pp l.length pc,.slice none 0 0,.slice p32 ((xs++[(⟨none,0,[]⟩:Ro Int)]).length) c33,.slice p42 ((ys++[(⟨none,0,[]⟩:Ro Int)]).length) c43] H45 6 ?_)
     intro wq47 H48
     refine w_k4 ?_
     obtain ⟨pm,hpm⟩:=ex_at (l:=l) (j:=k) (by omega)
     have hvm:=valid_at ha hpm
     have H49:S _ [_,_,_,_,_,_,_,_,_]:=S.lstSnoc (F:=BwI) (x:=(⟨none,0,[]⟩:Ro Int)) ((H48.nilFl 3 1 intL).tk [0,4,1,2,3,5,6,7,8,9])
     have H50:S _ [_,_,_,_,_,_,_,_,_]:=S.lstSnoc (F:=BwI) (x:=(⟨none,0,[]⟩:Ro Int)) ((H49.nilFl 3 1 intL).tk [0,6,1,2,3,4,5,7,8,9])
     refine l_of (s_cl (think_r g sd pp pc l none 0 [] p32 c33 (xs++[(⟨none,0,[]⟩:Ro Int)]) p42 c43 (ys++[(⟨none,0,[]⟩:Ro Int)]) h9 k ⟨by omega,by omega⟩ pm hpm pm.rt rfl hvm.2 (by rw [List.length_append,List.length_singleton]; omega) (by rw [List.length_append,List.length_singleton]; omega) _ (H50.tk [6,7,4,1,5,0])) ?_)
     rintro _ wq51 ⟨zp,zr,rfl,hzp,hzr,H52⟩
     replace H52:S _ [_,_,_,_,_,_,_,_,_]:=H50.abI (new:=[_,_,_,_,_,_]) [6,7,4,1,5,0] H52 rfl
     rw [snoc_set hxln,snoc_set hyln,snoc_len xs (⟨none,0,[]⟩:Ro Int) zp,snoc_len ys (⟨none,0,[]⟩:Ro Int) zr] at H52
     refine b_ret rfl rfl ?_
     refine w_k4 ?_
     refine w_i k ?_
     refine w_k2 ?_
     refine g_rd (i:=(k,xp,xc,xs,yp,yc,ys)) ((k+1),p32,c33,(xs++[zp]),p42,c43,(ys++[zr])) ⟨by omega,(by rw [take_snocT hpm,List.map_append,List.map_append,hx9]; exact congrArg (_++[·]) hzp),(by rw [take_snocT hpm,List.map_append,List.map_append,hy9]; exact congrArg (_++[·]) hzr),(H52.tk [2,3,4,5,0,1,8])⟩
    ·
     refine g_cf hb28 ?_
     refine w_k11 ?_
     refine fin_r [.tmp 4,.tmp 5] [.pointer (some ⟨g,0,none⟩),.int .i64 0] ?_
     have hie:k=l.length:=by omega
     rw [hie,List.take_length] at hx9 hy9
     have H53:=(H27.tk [4,5,0,1,2,3,6]).nilFl 39 1 (rowL:Rd→List Value)
     have hn0:newE sd l=0:=by unfold newE; rw [if_neg (fun h9=>h9.elim (fun h8=>by omega) (fun h8=>by rw [ha] at h8; cases h8)),if_neg (by omega)]
     refine .inr ⟨(⟨g,sd,pp,pc,l,none,0,[],xp,xc,xs,yp,yc,ys⟩:GR),rfl,hn0,by unfold GR.A newR; dsimp only; rw [hx9,hy9]; rfl,rfl,?_⟩
     exact S.big (L:=[_,_,_,_,_,_,_]) (H53.tk [1,2,0,3,4,5,6,7])
theorem S.swap0 {w:World} {a b:Item} {L:List Item} (h:S w (a :: L)) (e:a=b):S w (b :: L):=e ▸ h
abbrev DRr0 (g:Nat) (sd:ByteArray) (lp:Option Addr) (ps:List Pl) (lc:Nat) (rp:Option Addr) (gs:List Rd) (rc:Nat) (xp:Option Addr) (xs:List (Ro Int)) (xc:Nat) (yp:Option Addr) (ys:List (Ro Int)) (yc:Nat):=[Ob g (.cells #[.string sd,.slice lp ps.length lc,.slice rp gs.length rc,.slice xp xs.length xc,.slice yp ys.length yc] 66 (0,0)),Rw 27 2 lp ps.length lc (fl plL ps),Rw 43 1 xp xs.length xc (fl rowL xs),(Lst BwI xs),Rw 43 1 yp ys.length yc (fl rowL ys),(Lst BwI ys)]
theorem change_r1 (g:Nat) (sd:ByteArray) (lp:Option Addr) (lc:Nat) (ps:List Pl) (rp:Option Addr) (rc:Nat) (gs:List Rd) (xp:Option Addr) (xc:Nat) (xs:List (Ro Int)) (yp:Option Addr) (yc:Nat) (ys:List (Ro Int)) (hnp:ps.length≤9) (n st rt:Int) (hv:valP (⟨st,rt⟩:Pl)=false)  (w:World) (HS:S w (DRr0 g sd lp ps lc rp gs rc xp xs xc yp ys yc)):Calls Tryz.prog 12 #[.pointer (some ⟨g,0,none⟩),.int .i64 n,.agg #[.int .i64 st,.int .i64 rt]] w fun e w'=>e=.returned (.int .i64 1)∧S w' ((DRr0 g sd lp ps lc rp gs rc xp xs xc yp ys yc)++[Old w (fps (DRr0 g sd lp ps lc rp gs rc xp xs xc yp ys yc))]):=by
 have H0:=HS.beginI
 refine enter 33 Tryz.func12 rfl rfl rfl ?_
 refine g_wk [(0,_),(1,_),(2,_)] ?_
 refine w_s ?_
 refine l_of (s_box H0 (wt0 rfl) rfl rfl rfl rfl ?_)
 intro g1 wq2 H3
 refine w_k6 ?_
 refine w_b (v:=.bool false) (hb:=(b_eqN (r:=false) Tryz.underlying33 rfl)) ?_
 refine w_m ?_
 refine w_g (v:=.agg #[.int .i64 st,.int .i64 rt]) rfl (x_loadA H3 0 rfl rfl Tryz.underlying27 rfl sz27 rfl rfl rfl) ?_
 refine l_of (s_call0 H3 (wt1 rfl rfl rfl rfl rfl) (x_call' rfl rfl cl8) (validp_r (⟨st,rt⟩:Pl) _) rfl rfl ?_)
 intro wq4 H5
 refine w_g rfl (x_not (b:=(valP (⟨st,rt⟩:Pl))) rfl rfl) ?_
 refine w_v (x_pick_f rfl rfl rfl rfl) ?_
 refine w_k2 ?_
 refine g_cond_t rfl (neg_of hv) ?_
 refine w_k6 ?_
 refine fin_r [.tmp 6] [.int .i64 1] ?_
 exact ⟨rfl,H5.tk [1,2,3,4,5,6,7]⟩
theorem change_r7 (g:Nat) (sd:ByteArray) (lp:Option Addr) (lc:Nat) (ps:List Pl) (rp:Option Addr) (rc:Nat) (gs:List Rd) (xp:Option Addr) (xc:Nat) (xs:List (Ro Int)) (yp:Option Addr) (yc:Nat) (ys:List (Ro Int)) (hnp:ps.length≤9) (n st rt:Int) (hv:valP (⟨st,rt⟩:Pl)=true) (hn:¬ (0≤n∧n<(ps.length:Int)))  (w:World) (HS:S w [Ob g (.cells #[.string sd,.slice lp ps.length lc,.slice rp gs.length rc,.slice xp xs.length xc,.slice yp ys.length yc] 66 (0,0)),Rw 27 2 lp ps.length lc (fl plL ps),Rw 43 1 xp xs.length xc (fl rowL xs),(Lst BwI xs),Rw 43 1 yp ys.length yc (fl rowL ys),(Lst BwI ys)]):Calls Tryz.prog 12 #[.pointer (some ⟨g,0,none⟩),.int .i64 n,.agg #[.int .i64 st,.int .i64 rt]] w fun e w'=>e=.returned (.int .i64 7)∧S w' ([Ob g (.cells #[.string sd,.slice lp ps.length lc,.slice rp gs.length rc,.slice xp xs.length xc,.slice yp ys.length yc] 66 (0,0)),Rw 27 2 lp ps.length lc (fl plL ps),Rw 43 1 xp xs.length xc (fl rowL xs),(Lst BwI xs),Rw 43 1 yp ys.length yc (fl rowL ys),(Lst BwI ys)]++[Old w (fps [Ob g (.cells #[.string sd,.slice lp ps.length lc,.slice rp gs.length rc,.slice xp xs.length xc,.slice yp ys.length yc] 66 (0,0)),Rw 27 2 lp ps.length lc (fl plL ps),Rw 43 1 xp xs.length xc (fl rowL xs),(Lst BwI xs),Rw 43 1 yp ys.length yc (fl rowL ys),(Lst BwI ys)])]):=by
 have H0:=HS.beginI
 refine enter 33 Tryz.func12 rfl rfl rfl ?_
 refine g_wk [(0,_),(1,_),(2,_)] ?_
 refine w_s ?_
 refine l_of (s_box H0 (wt0 rfl) rfl rfl rfl rfl ?_)
 intro g1 wq2 H3
 refine w_k6 ?_
 refine w_b (v:=.bool false) (hb:=(b_eqN (r:=false) Tryz.underlying33 rfl)) ?_
 refine w_m ?_
 refine w_g (v:=.agg #[.int .i64 st,.int .i64 rt]) rfl (x_loadA H3 0 rfl rfl Tryz.underlying27 rfl sz27 rfl rfl rfl) ?_
 refine l_of (s_call0 H3 (wt1 rfl rfl rfl rfl rfl) (x_call' rfl rfl cl8) (validp_r (⟨st,rt⟩:Pl) _) rfl rfl ?_)
 intro wq4 H5
 refine w_g rfl (x_not (b:=(valP (⟨st,rt⟩:Pl))) rfl rfl) ?_
 refine w_v (x_pick_f rfl rfl rfl rfl) ?_
 refine w_k2 ?_
 refine g_cond_f rfl (neg_of hv) ?_
 refine w_k3 ?_
 refine l_of (s_cl (there_r g sd lp lc ps rp rc gs xp xc xs yp yc ys hnp n _ (H5.tk [1])) ?_)
 rintro _ wq6 ⟨rfl,H7⟩
 replace H7:S _ [_,_,_,_,_,_,_,_]:=H5.abI (new:=[_]) [1] H7 rfl
 refine b_ret rfl rfl ?_
 refine w_v (x_not (b:=decide (0≤n∧n<(ps.length:Int))) rfl rfl) ?_
 refine w_k2 ?_
 refine g_nt hn ?_
 refine w_k6 ?_
 refine fin_r [.tmp 6] [.int .i64 7] ?_
 exact ⟨rfl,H7.tk [0,2,3,4,5,6,7]⟩
theorem change_rk (g:Nat) (sd:ByteArray) (lp:Option Addr) (lc:Nat) (ps:List Pl) (rp:Option Addr) (rc:Nat) (gs:List Rd) (xp:Option Addr) (xc:Nat) (xs:List (Ro Int)) (yp:Option Addr) (yc:Nat) (ys:List (Ro Int)) (hnp:ps.length≤9) (n st rt:Int) (hv:valP (⟨st,rt⟩:Pl)=true) (hn:0≤n∧n<(ps.length:Int)) (hr0:0≤rt∧rt≤1000000) (hxl:xs.length=ps.length) (hyl:ys.length=ps.length)  (w:World) (HS:S w [Ob g (.cells #[.string sd,.slice lp ps.length lc,.slice rp gs.length rc,.slice xp xs.length xc,.slice yp ys.length yc] 66 (0,0)),Rw 27 2 lp ps.length lc (fl plL ps),Rw 43 1 xp xs.length xc (fl rowL xs),(Lst BwI xs),Rw 43 1 yp ys.length yc (fl rowL ys),(Lst BwI ys)]):Calls Tryz.prog 12 #[.pointer (some ⟨g,0,none⟩),.int .i64 n,.agg #[.int .i64 st,.int .i64 rt]] w fun e w'=>∃ xs9 ys9,e=.returned (.int .i64 0)∧xs9.map Ro.l=(if st=6 then (xs.map Ro.l).set n.toNat (List.replicate ps.length (rt / 4)) else xs.map Ro.l)∧ys9.map Ro.l=(if st=6 then (ys.map Ro.l).set n.toNat (List.replicate ps.length 0) else ys.map Ro.l)∧S w' ([Ob g (.cells #[.string sd,.slice lp ((ps.set n.toNat (⟨st,rt⟩:Pl)).length) lc,.slice rp gs.length rc,.slice xp xs9.length xc,.slice yp ys9.length yc] 66 (0,0)),Rw 27 2 lp ((ps.set n.toNat (⟨st,rt⟩:Pl)).length) lc (fl plL (ps.set n.toNat (⟨st,rt⟩:Pl))),Rw 43 1 xp xs9.length xc (fl rowL xs9),(Lst BwI xs9),Rw 43 1 yp ys9.length yc (fl rowL ys9),(Lst BwI ys9)]++[Old w (fps [Ob g (.cells #[.string sd,.slice lp ps.length lc,.slice rp gs.length rc,.slice xp xs.length xc,.slice yp ys.length yc] 66 (0,0)),Rw 27 2 lp ps.length lc (fl plL ps),Rw 43 1 xp xs.length xc (fl rowL xs),(Lst BwI xs),Rw 43 1 yp ys.length yc (fl rowL ys),(Lst BwI ys)])]):=by
 have H0:=HS.beginI
 refine enter 33 Tryz.func12 rfl rfl rfl ?_
 refine g_wk [(0,_),(1,_),(2,_)] ?_
 refine w_s ?_
 refine l_of (s_box H0 (wt0 rfl) rfl rfl rfl rfl ?_)
 intro g1 wq2 H3
 refine w_k6 ?_
 refine w_b (v:=.bool false) (hb:=(b_eqN (r:=false) Tryz.underlying33 rfl)) ?_
 refine w_m ?_
 refine w_g (v:=.agg #[.int .i64 st,.int .i64 rt]) rfl (x_loadA H3 0 rfl rfl Tryz.underlying27 rfl sz27 rfl rfl rfl) ?_
 refine l_of (s_call0 H3 (wt1 rfl rfl rfl rfl rfl) (x_call' rfl rfl cl8) (validp_r (⟨st,rt⟩:Pl) _) rfl rfl ?_)
 intro wq4 H5
 refine w_g rfl (x_not (b:=(valP (⟨st,rt⟩:Pl))) rfl rfl) ?_
 refine w_v (x_pick_f rfl rfl rfl rfl) ?_
 refine w_k2 ?_
 refine g_cond_f rfl (neg_of hv) ?_
 refine w_k3 ?_
 refine l_of (s_cl (there_r g sd lp lc ps rp rc gs xp xc xs yp yc ys hnp n _ (H5.tk [1])) ?_)
 rintro _ wq6 ⟨rfl,H7⟩
 replace H7:S _ [_,_,_,_,_,_,_,_]:=H5.abI (new:=[_]) [1] H7 rfl
 refine b_ret rfl rfl ?_
 refine w_v (x_not (b:=decide (0≤n∧n<(ps.length:Int))) rfl rfl) ?_
 refine w_k2 ?_
 refine g_nf hn ?_
 refine w_k3 ?_
 refine g_seq ?_
 refine g_anyY [] (fun wx=>S wx [Ob g (.cells #[.string sd,.slice lp ps.length lc,.slice rp gs.length rc,.slice xp xs.length xc,.slice yp ys.length yc] 66 (0,0)),Ob g1 (.cells #[.int .i64 st,.int .i64 rt] 27 (0,0))]) (fun wx=>S wx []) [7] (by kernel_rfl) H7 (fun wq8 H9=>?_)
 refine y_p 0 rfl (fun _=>xm) ?_
 refine y_p 1 rfl (fun _=>xn) ?_
 refine y_p 2 rfl (fun _=>xf 1) ?_
 have cm1:=H9.mask [true,true,false,false,false,false,false,false]
 refine y_t 3 rfl cm1 (fun _ H=>xl H 0) ?_
 refine y_p 4 rfl (fun _=>xm) ?_
 refine y_t (v:=.agg #[.int .i64 st,.int .i64 rt]) 5 rfl cm1 (fun _ H=>x_loadA H 1 rfl rfl Tryz.underlying27 rfl sz27 rfl rfl rfl) ?_
 refine y_p 6 rfl (fun _=>x_ip ((n).toNat) ((H9.rr 2).some (by omega))) ?_
 refine y_one (i:=7) (by kernel_rfl) rfl ?_
 refine s_stoL (j:=((n).toNat)) plE (⟨st,rt⟩:Pl) H9 2 (wt0 rfl) rfl rfl rfl rfl rfl rfl sz27 (by omega) ?_
 intro wq10 H11
 refine y_kt rfl (H11.mask [false,false,false,false,false,false,false,false]) ?_
 refine y_done (by kernel_rfl) ?_
 refine w_k3 ?_
 have e0:Ob g (.cells #[.string sd,.slice lp ps.length lc,.slice rp gs.length rc,.slice xp xs.length xc,.slice yp ys.length yc] 66 (0,0))=Ob g (.cells #[.string sd,.slice lp ((ps.set n.toNat (⟨st,rt⟩:Pl)).length) lc,.slice rp gs.length rc,.slice xp xs.length xc,.slice yp ys.length yc] 66 (0,0)):=by rw [List.length_set]
 have e1:Rw 27 2 lp ps.length lc (fl plL (ps.set ((n).toNat) (⟨st,rt⟩:Pl)))=Rw 27 2 lp ((ps.set n.toNat (⟨st,rt⟩:Pl)).length) lc (fl plL (ps.set n.toNat (⟨st,rt⟩:Pl))):=by rw [List.length_set]
 have H12:S _ [_,_,_,_,_,_,_,_]:=S.swap0 (H11.tk [0,2,1,3,4,5,6,7]) e0
 have H13:S _ [_,_,_,_,_,_,_,_]:=S.swap0 (H12.tk [1,0,2,3,4,5,6,7]) e1
 refine w_k4 ?_
 by_cases hb14:(st:Int)=6
 ·
  refine g_ct hb14 ?_
  refine w_k3 ?_
  refine l_of (s_cl (think_r g sd lp lc (ps.set n.toNat (⟨st,rt⟩:Pl)) rp rc gs xp xc xs yp yc ys (by rw [List.length_set]; exact hnp) n (by rw [List.length_set]; exact hn) (⟨st,rt⟩:Pl) (List.getElem?_set_self (by omega)) rt rfl hr0 (by omega) (by omega) _ (H13.tk [1,0,3,4,5,6])) ?_)
  rintro _ wq15 ⟨zp,zr,rfl,hzp,hzr,H16⟩
  replace H16:S _ [_,_,_,_,_,_,_,_]:=H13.abI (new:=[_,_,_,_,_,_]) [1,0,3,4,5,6] H16 rfl
  refine b_ret rfl rfl ?_
  refine w_k5 ?_
  refine fin_r [.tmp 6] [.int .i64 0] ?_
  have H17:S _ [_,_,_,_,_,_,_]:=H16.tk [0,1,2,3,4,5,7]
  have e2:[Ob g (.cells #[.string sd,.slice lp ((ps.set n.toNat (⟨st,rt⟩:Pl)).length) lc,.slice rp gs.length rc,.slice xp xs.length xc,.slice yp ys.length yc] 66 (0,0)),Rw 27 2 lp ((ps.set n.toNat (⟨st,rt⟩:Pl)).length) lc (fl plL (ps.set n.toNat (⟨st,rt⟩:Pl))),Rw 43 1 xp xs.length xc (fl rowL (xs.set n.toNat zp)),(Lst BwI (xs.set n.toNat zp)),Rw 43 1 yp ys.length yc (fl rowL (ys.set n.toNat zr)),(Lst BwI (ys.set n.toNat zr))]=[Ob g (.cells #[.string sd,.slice lp ((ps.set n.toNat (⟨st,rt⟩:Pl)).length) lc,.slice rp gs.length rc,.slice xp ((xs.set n.toNat zp).length) xc,.slice yp ((ys.set n.toNat zr).length) yc] 66 (0,0)),Rw 27 2 lp ((ps.set n.toNat (⟨st,rt⟩:Pl)).length) lc (fl plL (ps.set n.toNat (⟨st,rt⟩:Pl))),Rw 43 1 xp ((xs.set n.toNat zp).length) xc (fl rowL (xs.set n.toNat zp)),(Lst BwI (xs.set n.toNat zp)),Rw 43 1 yp ((ys.set n.toNat zr).length) yc (fl rowL (ys.set n.toNat zr)),(Lst BwI (ys.set n.toNat zr))]:=by simp only [List.length_set]
  have e3:[Ob g (.cells #[.string sd,.slice lp ((ps.set n.toNat (⟨st,rt⟩:Pl)).length) lc,.slice rp gs.length rc,.slice xp xs.length xc,.slice yp ys.length yc] 66 (0,0)),Rw 27 2 lp ((ps.set n.toNat (⟨st,rt⟩:Pl)).length) lc (fl plL (ps.set n.toNat (⟨st,rt⟩:Pl))),Rw 43 1 xp xs.length xc (fl rowL (xs.set n.toNat zp)),(Lst BwI (xs.set n.toNat zp)),Rw 43 1 yp ys.length yc (fl rowL (ys.set n.toNat zr)),(Lst BwI (ys.set n.toNat zr)),Old w (fps [Ob g (.cells #[.string sd,.slice lp ps.length lc,.slice rp gs.length rc,.slice xp xs.length xc,.slice yp ys.length yc] 66 (0,0)),Rw 27 2 lp ps.length lc (fl plL ps),Rw 43 1 xp xs.length xc (fl rowL xs),(Lst BwI xs),Rw 43 1 yp ys.length yc (fl rowL ys),(Lst BwI ys)])]=[Ob g (.cells #[.string sd,.slice lp ((ps.set n.toNat (⟨st,rt⟩:Pl)).length) lc,.slice rp gs.length rc,.slice xp ((xs.set n.toNat zp).length) xc,.slice yp ((ys.set n.toNat zr).length) yc] 66 (0,0)),Rw 27 2 lp ((ps.set n.toNat (⟨st,rt⟩:Pl)).length) lc (fl plL (ps.set n.toNat (⟨st,rt⟩:Pl))),Rw 43 1 xp ((xs.set n.toNat zp).length) xc (fl rowL (xs.set n.toNat zp)),(Lst BwI (xs.set n.toNat zp)),Rw 43 1 yp ((ys.set n.toNat zr).length) yc (fl rowL (ys.set n.toNat zr)),(Lst BwI (ys.set n.toNat zr))]++[Old w (fps [Ob g (.cells #[.string sd,.slice lp ps.length lc,.slice rp gs.length rc,.slice xp xs.length xc,.slice yp ys.length yc] 66 (0,0)),Rw 27 2 lp ps.length lc (fl plL ps),Rw 43 1 xp xs.length xc (fl rowL xs),(Lst BwI xs),Rw 43 1 yp ys.length yc (fl rowL ys),(Lst BwI ys)])]:=congrArg (·++[Old w (fps [Ob g (.cells #[.string sd,.slice lp ps.length lc,.slice rp gs.length rc,.slice xp xs.length xc,.slice yp ys.length yc] 66 (0,0)),Rw 27 2 lp ps.length lc (fl plL ps),Rw 43 1 xp xs.length xc (fl rowL xs),(Lst BwI xs),Rw 43 1 yp ys.length yc (fl rowL ys),(Lst BwI ys)])]) e2
  rw [e3] at H17
  have hz0:ps.length=(ps.set n.toNat (⟨st,rt⟩:Pl)).length:=(List.length_set ..).symm
  exact ⟨(xs.set n.toNat zp),(ys.set n.toNat zr),rfl,by rw [if_pos hb14,List.map_set,hzp,List.length_set],by rw [if_pos hb14,List.map_set,hzr,List.length_set],H17⟩
 ·
  refine g_cf hb14 ?_
  refine w_k6 ?_
  refine fin_r [.tmp 6] [.int .i64 0] ?_
  refine ⟨xs,ys,rfl,by rw [if_neg hb14],by rw [if_neg hb14],H13.tk [1,0,3,4,5,6,7]⟩
structure ROK (pl:List Rd) (A:GA) (Y:GR):Prop where
 rel:RelG A Y.A
 mem:∀ r∈Y.gs,r∈pl
section
variable {pl pl':List Rd} {A:GA} {Y:GR} {w:World} {g0:Nat}
theorem ROK.more (h:ROK pl A Y) (hp:∀ r∈pl,r∈pl'):ROK pl' A Y:=⟨h.rel,fun r hr=>hp r (h.mem r hr)⟩
theorem ROK.ps (h:ROK pl A Y):Y.ps=A.ps:=h.rel.ps
theorem ROK.gv (h:ROK pl A Y):Y.gs.map Rd.v=A.gv:=h.rel.gv
theorem ROK.gvl (h:ROK pl A Y):A.gv.length=Y.gs.length:=by rw [← h.gv,List.length_map]
theorem ROK.gs (h:ROK pl A Y) (hA:GOK A):GsOK Y.ps.length pl Y.gs:=⟨h.mem,fun r hr=>by
 rw [h.ps]
 exact hA.gr r.v (by rw [← h.gv]; exact List.mem_map.2 ⟨r,hr,rfl⟩)⟩
theorem ROK.xl (h:ROK pl A Y):Y.xs.length=Y.ps.length:=by
 have h1:=h.rel.xd.len
 rw [h.ps]
 rwa [show Y.A.px.length=Y.xs.length from List.length_map ..] at h1
theorem ROK.yl (h:ROK pl A Y):Y.ys.length=Y.ps.length:=by
 have h1:=h.rel.yl
 rw [h.ps]
 rwa [show Y.A.rw.length=Y.ys.length from List.length_map ..] at h1
theorem roundr_q (hA:GOK A) (h:ROK pl A Y) (hgl:Y.gs.length≤190) (hg:Y.g=g0) (HS:S w [Y.I,Pool pl]) :
   Calls Tryz.prog 14 #[.pointer (some ⟨g0,0,none⟩)] w fun e w'=>∃ rd Y',e=.returned (.tuple #[.slice rd.p rd.l.length rd.c,.int .i64 0])∧rd.v=roundR A∧ROK (pl++[rd]) (stepA A) Y'∧Y'.g=g0∧Y'.gs.length=Y.gs.length+1 ∧
     S w' ([Y'.I,Pool (pl++[rd])]++[Old w (fps [Y.I,Pool pl])]):=by
 subst hg
 have H:=HS.beginI
 have H1:=S.unbig (L:=[_,_,_,_,_,_,_]) H
 have hps:=h.ps
 have hrok:RdOK Y.ps.length (roundQ Y.A):=by rw [h.rel.round hA,hps]; exact hA.rok
 have hgvl:=h.gvl
 refine (roundr_s Y.g Y.sd Y.lp Y.lc Y.ps Y.rp Y.rc Y.gs Y.xp Y.xc Y.xs Y.yp Y.yc Y.ys pl (h.gs hA) hgl (by rw [hps]; exact hA.n9) (by rw [hps]; exact hA.n2) (by rw [show Y.sd=A.sd from h.rel.sd]; exact hA.sd) (fun p hp=>hA.pv p (by rw [← hps]; exact hp)) (by rw [hps]; exact h.rel.xd) h.yl
   (fun y hy=>by rw [hps]; exact (h.rel.yw y.l (List.mem_map.2 ⟨y,hy,rfl⟩)).1) (10 * (A.gv.length:Int)) (by omega) (fun y hy=>(h.rel.yw y.l (List.mem_map.2 ⟨y,hy,rfl⟩)).2) hrok w (H1.takes [0,1,2,7,3,4,5,6] (by decide))).mono ?_
 rintro e w' ⟨rd,rp2,rc2,xs9,ys9,rfl,hrd,hG2,hx9,hy9,H2⟩
 have H3:=H1.absorbI (new:=[_,_,_,_,_,_,_,_]) [0,1,2,7,3,4,5,6] H2
 have hrd2:rd.v=roundR A:=by rw [hrd]; exact h.rel.round hA
 refine ⟨rd,⟨Y.g,Y.sd,Y.lp,Y.lc,Y.ps,rp2,rc2,Y.gs++[rd],Y.xp,Y.xc,xs9,Y.yp,Y.yc,ys9⟩,rfl,hrd2,⟨?_,hG2.mem⟩,rfl,by rw [List.length_append,List.length_singleton],?_⟩
 · have e1:(⟨Y.g,Y.sd,Y.lp,Y.lc,Y.ps,rp2,rc2,Y.gs++[rd],Y.xp,Y.xc,xs9,Y.yp,Y.yc,ys9⟩:GR).A=stepR Y.A:=by
     unfold GR.A
     dsimp only
     rw [List.map_append,List.map_singleton,hrd,hx9,hy9]
     rfl
   rw [e1]
   exact h.rel.step hA
 · exact S.big (L:=[_,_,_,_,_,_,_]) (H3.takes [0,1,2,3,4,5,6,7,8] (by decide))
theorem newr_q (sd:ByteArray) (l:List Pl) (p:Option Addr) (n c:Nat) (h9:n≤9) (w:World) (hr:Reads w p n c 2 (fl plL l)):Calls Tryz.prog 10 #[.string sd,.slice p n c] w fun e w' =>
   (e=.returned (.tuple #[.pointer none,.int .i64 (newE sd l)])∧¬ newE sd l=0∧S w' ([]++[Old w no]))∨∃ Y:GR,e=.returned (.tuple #[.pointer (some ⟨Y.g,0,none⟩),.int .i64 0])∧newE sd l=0∧ROK [] (newA sd l) Y∧Y.gs.length=0∧S w' ([Y.I]++[Old w no]):=by
 have hnl:=hr.lenL plE
 subst hnl
 refine (newr_s sd l p c h9 w hr).mono ?_
 rintro e w' (⟨rfl,hE,H⟩ | ⟨Y,rfl,hE,hA,hgs,H⟩)
 · exact .inl ⟨rfl,hE,H⟩
 · refine .inr ⟨Y,rfl,hE,⟨?_,fun r hr=>by rw [hgs] at hr; exact absurd hr List.not_mem_nil⟩,by rw [hgs]; rfl,H⟩
   rw [hA]
   obtain ⟨_,h2,_⟩:=newE_0 hE
   refine RelG.new fun p hp=>?_
   obtain ⟨i,hi⟩:=List.getElem?_of_mem hp
   exact valid_at h2 hi
def chE (n:Nat) (i:Int) (p:Pl):Int:=if valP p=false then 1 else if ¬ (0≤i∧i<(n:Int)) then 7 else 0
theorem valP_bd {p:Pl} (h:valP p=true):(1≤p.st∧p.st≤7)∧0≤p.rt∧p.rt≤1000000:=by
 unfold valP at h
 simp only [Bool.and_eq_true,decide_eq_true_eq] at h
 omega
theorem changer_q (hA:GOK A) (h:ROK pl A Y) (hg:Y.g=g0) (n st rt:Int) (HS:S w [Y.I]) :
   Calls Tryz.prog 12 #[.pointer (some ⟨g0,0,none⟩),.int .i64 n,.agg #[.int .i64 st,.int .i64 rt]] w fun e w'=>∃ Y',e=.returned (.int .i64 (chE A.ps.length n ⟨st,rt⟩))∧ROK pl (if chE A.ps.length n ⟨st,rt⟩=0 then chA A n.toNat ⟨st,rt⟩ else A) Y'∧Y'.g=g0∧Y'.gs=Y.gs ∧
     S w' ([Y'.I]++[Old w (fps [Y.I])]):=by
 subst hg
 have H:=HS.beginI
 have H1:=S.unbig (L:=[_,_,_,_,_,_,_]) H
 have hps:=h.ps
 have h9:=hA.n9
 have hn9:Y.ps.length≤9:=by rw [hps]; exact h9
 cases hv:valP ⟨st,rt⟩ with
 | false =>
   have hc:chE A.ps.length n ⟨st,rt⟩=1:=if_pos hv
   refine (change_r1 Y.g Y.sd Y.lp Y.lc Y.ps Y.rp Y.rc Y.gs Y.xp Y.xc Y.xs Y.yp Y.yc Y.ys hn9 n st rt hv w (H1.takes [0,1,3,4,5,6] (by decide))).mono ?_
   rintro e w' ⟨rfl,H2⟩
   have H3:=H1.absorbI (new:=[_,_,_,_,_,_]) [0,1,3,4,5,6] H2
   rw [hc,if_neg (by decide)]
   exact ⟨Y,rfl,h,rfl,rfl,S.big (L:=[_,_,_,_,_,_,_]) (H3.takes [0,1,6,2,3,4,5,7] (by decide))⟩
 | true =>
   by_cases hn:0≤n∧n<(A.ps.length:Int)
   · have hc:chE A.ps.length n ⟨st,rt⟩=0:=by unfold chE; rw [if_neg (by rw [hv]; decide),if_neg (fun h9=>h9 hn)]
     have hb:=valP_bd hv
     refine (change_rk Y.g Y.sd Y.lp Y.lc Y.ps Y.rp Y.rc Y.gs Y.xp Y.xc Y.xs Y.yp Y.yc Y.ys hn9 n st rt hv (by rw [hps]; exact hn) hb.2 h.xl h.yl w (H1.takes [0,1,3,4,5,6] (by decide))).mono ?_
     rintro e w' ⟨xs9,ys9,rfl,hx9,hy9,H2⟩
     have H3:=H1.absorbI (new:=[_,_,_,_,_,_]) [0,1,3,4,5,6] H2
     rw [hc,if_pos rfl]
     refine ⟨⟨Y.g,Y.sd,Y.lp,Y.lc,Y.ps.set n.toNat ⟨st,rt⟩,Y.rp,Y.rc,Y.gs,Y.xp,Y.xc,xs9,Y.yp,Y.yc,ys9⟩,rfl,⟨?_,h.mem⟩,rfl,rfl,S.big (L:=[_,_,_,_,_,_,_]) (H3.takes [0,1,6,2,3,4,5,7] (by decide))⟩
     have e1:(⟨Y.g,Y.sd,Y.lp,Y.lc,Y.ps.set n.toNat ⟨st,rt⟩,Y.rp,Y.rc,Y.gs,Y.xp,Y.xc,xs9,Y.yp,Y.yc,ys9⟩:GR).A=chR Y.A n.toNat ⟨st,rt⟩:=by
       unfold GR.A chR
       dsimp only
       rw [hx9,hy9]
     rw [e1]
     exact h.rel.change hA (by omega) hb
   · have hc:chE A.ps.length n ⟨st,rt⟩=7:=by unfold chE; rw [if_neg (by rw [hv]; decide),if_pos hn]
     refine (change_r7 Y.g Y.sd Y.lp Y.lc Y.ps Y.rp Y.rc Y.gs Y.xp Y.xc Y.xs Y.yp Y.yc Y.ys hn9 n st rt hv (by rw [hps]; exact hn) w (H1.takes [0,1,3,4,5,6] (by decide))).mono ?_
     rintro e w' ⟨rfl,H2⟩
     have H3:=H1.absorbI (new:=[_,_,_,_,_,_]) [0,1,3,4,5,6] H2
     rw [hc,if_neg (by decide)]
     exact ⟨Y,rfl,h,rfl,rfl,S.big (L:=[_,_,_,_,_,_,_]) (H3.takes [0,1,6,2,3,4,5,7] (by decide))⟩
end
def meanF (ps:List Pl) (f:Nat→Int) (s:Int):Nat→Int × Int
 | 0=>(0,0)
 | k+1=>if stA ps k=s then ((meanF ps f s k).1+f k,(meanF ps f s k).2+1) else meanF ps f s k
def meanV (ps:List Pl) (f:Nat→Int) (R s:Int):Int:=if (meanF ps f s ps.length).2 * R=0 then 0 else (meanF ps f s ps.length).1 / ((meanF ps f s ps.length).2 * R)
def meansV (ps:List Pl) (f:Nat→Int) (R:Int) (k:Nat):List Int:=(List.range k).map fun (j:Nat)=>meanV ps f R ((j:Int)+1)
theorem got_r7 (g:Nat) (sd:ByteArray) (lp:Option Addr) (lc:Nat) (ps:List Pl) (rp:Option Addr) (rc:Nat) (gs:List Rd) (xp:Option Addr) (xc:Nat) (xs:List (Ro Int)) (yp:Option Addr) (yc:Nat) (ys:List (Ro Int)) (pl:List Rd) (hG:GsOK ps.length pl gs) (hgl:gs.length≤200) (hnp:ps.length≤9) (h2p:2≤ps.length) (n:Int) (hn:¬ (0≤n∧n<(ps.length:Int)))  (w:World) (HS:S w [Ob g (.cells #[.string sd,.slice lp ps.length lc,.slice rp gs.length rc,.slice xp xs.length xc,.slice yp ys.length yc] 66 (0,0)),Rw 39 1 rp gs.length rc (fl rowL gs),(Pool pl)]):Calls Tryz.prog 36 #[.pointer (some ⟨g,0,none⟩),.int .i64 n] w fun e w'=>e=.returned (.tuple #[.int .i64 0,.int .i64 7])∧S w' ([Ob g (.cells #[.string sd,.slice lp ps.length lc,.slice rp gs.length rc,.slice xp xs.length xc,.slice yp ys.length yc] 66 (0,0)),Rw 39 1 rp gs.length rc (fl rowL gs),(Pool pl)]++[Old w (fps [Ob g (.cells #[.string sd,.slice lp ps.length lc,.slice rp gs.length rc,.slice xp xs.length xc,.slice yp ys.length yc] 66 (0,0)),Rw 39 1 rp gs.length rc (fl rowL gs),(Pool pl)])]):=by
 have H0:=HS.beginI
 refine enter 33 Tryz.func36 rfl rfl rfl ?_
 refine g_wk [(0,_),(1,_)] ?_
 refine w_s ?_
 refine w_k16 ?_
 refine g_loop (ι:=Unit) (fun _=>[(0,.pointer (some ⟨g,0,none⟩)),(1,.int .i64 n),(6,.int .i64 0),(14,.int .i64 ((ps.length:Int))),(15,.int .i64 0)]) (fun _ wx=>(True)∧S wx [Ob g (.cells #[.string sd,.slice lp ps.length lc,.slice rp gs.length rc,.slice xp xs.length xc,.slice yp ys.length yc] 66 (0,0)),Rw 39 1 rp gs.length rc (fl rowL gs),(Pool pl),Old w (fps [Ob g (.cells #[.string sd,.slice lp ps.length lc,.slice rp gs.length rc,.slice xp xs.length xc,.slice yp ys.length yc] 66 (0,0)),Rw 39 1 rp gs.length rc (fl rowL gs),(Pool pl)])]) (fun _=>0) () ⟨rfl,rfl,rfl,rfl,rfl,trivial⟩ ⟨trivial,(H0.tk [0,1,2,3])⟩ ?_
 rintro _ wq1 ⟨htr,H2⟩
 refine g_wk [(0,_),(1,_),(6,_),(14,_),(15,_)] ?_
 refine w_s ?_
 refine w_k2 ?_
 refine g_seq ?_
 refine g_cond_t rfl (decide_eq_true (by omega)) ?_
 refine w_k12 ?_
 refine l_of (s_cl (between_r7b g sd lp lc ps rp rc gs xp xc xs yp yc ys pl hG hgl hnp 0 n ⟨by omega,by omega⟩ hn _ (H2.tk [0,1,2])) ?_)
 rintro _ wq3 ⟨rfl,H4⟩
 replace H4:S _ [_,_,_,_]:=H2.abI (new:=[_,_,_]) [0,1,2] H4 rfl
 refine b_ret rfl rfl ?_
 refine w_k9 ?_
 refine w_b (v:=.bool (!decide ((7:Int)=0))) (hb:=b_neq) ?_
 refine w_e ?_
 refine g_cond_t rfl (by decide) ?_
 refine w_k12 ?_
 refine fin_r [.tmp 4,.tmp 5] [.int .i64 0,.int .i64 7] ?_
 exact ⟨rfl,H4.tk [0,1,2,3]⟩
theorem best_x7 (pl:List Rd) (X:GM) (hX:MOK pl X) (n rn:Int) (hn:¬ (0≤n∧n<(X.ps.length:Int)))  (w:World) (HS:S w [X.I]):Calls Tryz.prog 19 #[.pointer (some ⟨X.g,0,none⟩),.int .i64 n,.int .i64 rn] w fun e w'=>e=.returned (.tuple #[.int .i64 0,.int .i64 0,.int .i64 7])∧S w' ([X.I]++[Old w (fps [X.I])]):=by
 have H0:=HS.beginI
 replace H0:S _ [_,_,_,_,_,_,_,_,_,_]:=S.unbig (L:=[_,_,_,_,_,_,_,_,_]) H0
 have hL:=hX.ok.lens
 have hn9:X.ps.length≤9:=hX.ok.n9
 have hG:=hX.gs
 have hak:askN X.ps.length [n]=7:=askN_7 (x:=n) List.mem_cons_self hn
 refine enter 93 Tryz.func19 rfl rfl rfl ?_
 refine g_wk [(0,_),(1,_),(2,_)] ?_
 refine w_s ?_
 refine w_k8 ?_
 refine l_of (s_b1 ze3 #[.int .i64 n] H0 ?_)
 intro g1 wq2 H3
 have H4:S wq2 [Rw 3 1 (some ⟨g1,0,none⟩) 1 1 (fl intL ([n])),Ob X.g (.cells #[.slice X.gp X.gs.length X.gc,.string (X.sd),.slice X.pp X.ps.length X.pc,.slice X.sp X.ss.length X.sc,.slice X.tp X.got.length X.tc,.slice X.vp X.gave.length X.vc,.slice X.bp X.bs.length X.bc] 61 (0,0)),Rw 39 1 X.gp X.gs.length X.gc (fl rowL X.gs),Rw 27 2 X.pp X.ps.length X.pc (fl plL X.ps),Rw 63 1 X.sp X.ss.length X.sc (fl sgL X.ss),Rw 3 1 X.tp X.got.length X.tc (fl intL X.got),Rw 3 1 X.vp X.gave.length X.vc (fl intL X.gave),Rw 43 1 X.bp X.bs.length X.bc (fl rowL X.bs),(Lst BwI X.bs),(Lst SgI X.ss),Old w (fps [X.I])]:=S.obFl intE H3 (k:=0) rfl rfl (by decide) rfl
 refine l_of (s_cl (asked_s X.g X.gp X.gc X.gs.length X.sd X.pp X.pc X.ps X.sp X.sc X.ss.length X.tp X.tc X.got.length X.vp X.vc X.gave.length X.bp X.bc X.bs.length [n] (some ⟨g1,0,none⟩) 1 (by simp) (by omega) _ (H4.tk [0,1])) ?_)
 rintro _ wq5 ⟨rfl,H6⟩
 replace H6:S _ [_,_,_,_,_,_,_,_,_,_,_]:=H4.abI (new:=[_,_]) [0,1] H6 rfl
 refine b_ret rfl rfl ?_
 refine w_k4 ?_
 refine w_b (v:=.bool (!decide (((askN X.ps.length [n]):Int)=0))) (hb:=b_neq) ?_
 refine w_e ?_
 refine g_cond_t rfl (nt (by omega)) ?_
 refine w_k8 ?_
 refine fin_r [.tmp 6,.tmp 7,.tmp 8] [.int .i64 0,.int .i64 0,.int .i64 ((askN X.ps.length [n]))] ?_
 rw [hak]
 exact ⟨rfl,S.big (L:=[_,_,_,_,_,_,_,_,_]) (H6.tk [1,2,3,4,5,6,7,8,9,10])⟩
theorem best_x7r (pl:List Rd) (X:GM) (hX:MOK pl X) (n rn:Int) (hn:0≤n∧n<(X.ps.length:Int)) (hr:¬ (0≤rn∧rn≤200))  (w:World) (HS:S w [X.I]):Calls Tryz.prog 19 #[.pointer (some ⟨X.g,0,none⟩),.int .i64 n,.int .i64 rn] w fun e w'=>e=.returned (.tuple #[.int .i64 0,.int .i64 0,.int .i64 7])∧S w' ([X.I]++[Old w (fps [X.I])]):=by
 have H0:=HS.beginI
 replace H0:S _ [_,_,_,_,_,_,_,_,_,_]:=S.unbig (L:=[_,_,_,_,_,_,_,_,_]) H0
 have hL:=hX.ok.lens
 have hn9:X.ps.length≤9:=hX.ok.n9
 have hG:=hX.gs
 have hak:askN X.ps.length [n]=0:=askN_0.2 (fun x hx=>by rw [List.mem_singleton.1 hx]; exact hn)
 refine enter 93 Tryz.func19 rfl rfl rfl ?_
 refine g_wk [(0,_),(1,_),(2,_)] ?_
 refine w_s ?_
 refine w_k8 ?_
 refine l_of (s_b1 ze3 #[.int .i64 n] H0 ?_)
 intro g1 wq2 H3
 have H4:S wq2 [Rw 3 1 (some ⟨g1,0,none⟩) 1 1 (fl intL ([n])),Ob X.g (.cells #[.slice X.gp X.gs.length X.gc,.string (X.sd),.slice X.pp X.ps.length X.pc,.slice X.sp X.ss.length X.sc,.slice X.tp X.got.length X.tc,.slice X.vp X.gave.length X.vc,.slice X.bp X.bs.length X.bc] 61 (0,0)),Rw 39 1 X.gp X.gs.length X.gc (fl rowL X.gs),Rw 27 2 X.pp X.ps.length X.pc (fl plL X.ps),Rw 63 1 X.sp X.ss.length X.sc (fl sgL X.ss),Rw 3 1 X.tp X.got.length X.tc (fl intL X.got),Rw 3 1 X.vp X.gave.length X.vc (fl intL X.gave),Rw 43 1 X.bp X.bs.length X.bc (fl rowL X.bs),(Lst BwI X.bs),(Lst SgI X.ss),Old w (fps [X.I])]:=S.obFl intE H3 (k:=0) rfl rfl (by decide) rfl
 refine l_of (s_cl (asked_s X.g X.gp X.gc X.gs.length X.sd X.pp X.pc X.ps X.sp X.sc X.ss.length X.tp X.tc X.got.length X.vp X.vc X.gave.length X.bp X.bc X.bs.length [n] (some ⟨g1,0,none⟩) 1 (by simp) (by omega) _ (H4.tk [0,1])) ?_)
 rintro _ wq5 ⟨rfl,H6⟩
 replace H6:S _ [_,_,_,_,_,_,_,_,_,_,_]:=H4.abI (new:=[_,_]) [0,1] H6 rfl
 refine b_ret rfl rfl ?_
 refine w_k4 ?_
 refine w_b (v:=.bool (!decide (((askN X.ps.length [n]):Int)=0))) (hb:=b_neq) ?_
 refine w_e ?_
 refine g_nf hak ?_
 refine w_k8 ?_
 by_cases hb7:(rn:Int)<0
 ·
  iterate 2 refine w_n (decide_eq_true hb7) ?_
  refine w_v (x_pick_t rfl rfl (decide_eq_true hb7) rfl) ?_
  refine w_k2 ?_
  refine g_cond_t rfl rfl ?_
  refine w_k8 ?_
  refine fin_r [.tmp 6,.tmp 7,.tmp 8] [.int .i64 0,.int .i64 0,.int .i64 7] ?_
  exact ⟨rfl,S.big (L:=[_,_,_,_,_,_,_,_,_]) (H6.tk [1,2,3,4,5,6,7,8,9,10])⟩
 ·
  refine w_g (decide_eq_false hb7) xm ?_
  refine w_g (decide_eq_false hb7) (x_bin rfl rfl rfl b_gtr) ?_
  refine w_v (x_pick_f rfl rfl (decide_eq_false hb7) rfl) ?_
  refine w_k2 ?_
  refine g_cond_t rfl (decide_eq_true (by omega)) ?_
  refine w_k8 ?_
  refine fin_r [.tmp 6,.tmp 7,.tmp 8] [.int .i64 0,.int .i64 0,.int .i64 7] ?_
  exact ⟨rfl,S.big (L:=[_,_,_,_,_,_,_,_,_]) (H6.tk [1,2,3,4,5,6,7,8,9,10])⟩
def gotT (A:GA) (i:Int):Int:=if askN A.ps.length [i]=0 then A.got.getD i.toNat 0 else 0
def gaveT (A:GA) (i:Int):Int:=if askN A.ps.length [i]=0 then A.gave.getD i.toNat 0 else 0
def btwT (A:GA) (a b:Int):Int:=if askN A.ps.length [a,b]=0 then at2 A.bw a b else 0
def lastT (A:GA) (i:Int):List Int:=if askN A.ps.length [i]=0 then lstN A.gv i A.ps.length else []
def meansT (A:GA):List Int:=meansV A.ps (fun j=>A.got.getD j 0) (A.gv.length:Int) 7
theorem ask1 {n:Nat} {i:Int} (h:0≤i∧i<(n:Int)):askN n [i]=0:=askN_0.2 fun x hx=>by rw [List.mem_singleton.1 hx]; exact h
theorem ask1n {n:Nat} {i:Int} (h:¬ (0≤i∧i<(n:Int))):askN n [i]=7:=askN_7 List.mem_cons_self h
section
variable {pl pl':List Rd} {A:GA} {Y:GR} {X:GM} {w:World} {g0:Nat}
theorem got_t (hA:GOK A) (h:ROK pl A Y) {i:Int} (hi:0≤i∧i<(A.ps.length:Int)):gotN (Y.gs.map Rd.v) i Y.ps.length=gotT A i:=by
 unfold gotT
 rw [ask1 hi,if_pos rfl,h.gv,h.ps,(h.rel.tot i.toNat (by omega)).1,show ((i.toNat:Nat):Int)=i by omega]
theorem gotr_q (hA:GOK A) (h:ROK pl A Y) (hgl:Y.gs.length≤200) (hg:Y.g=g0) (i:Int) (HS:S w [Y.I,Pool pl]):Calls Tryz.prog 36 #[.pointer (some ⟨g0,0,none⟩),.int .i64 i] w fun e w'=>e=.returned (.tuple #[.int .i64 (gotT A i),.int .i64 (askN A.ps.length [i])])∧S w' ([Y.I,Pool pl]++[Old w (fps [Y.I,Pool pl])]):=by
 subst hg
 have H:=HS.beginI
 have H1:=S.unbig (L:=[_,_,_,_,_,_,_]) H
 have hps:=h.ps
 have hn9:Y.ps.length≤9:=by rw [hps]; exact hA.n9
 by_cases hi:0≤i∧i<(A.ps.length:Int)
 · rw [ask1 hi,← got_t hA h hi]
   refine (got_rr Y.g Y.sd Y.lp Y.lc Y.ps Y.rp Y.rc Y.gs Y.xp Y.xc Y.xs Y.yp Y.yc Y.ys pl (h.gs hA) hgl hn9 i (by rw [hps]; exact hi) w (H1.takes [0,2,7] (by decide))).mono ?_
   rintro e w' ⟨rfl,H2⟩
   have H3:=H1.absorbI (new:=[_,_,_]) [0,2,7] H2
   exact ⟨rfl,S.big (L:=[_,_,_,_,_,_,_]) (H3.takes [0,3,1,4,5,6,7,2,8] (by decide))⟩
 · have e0:gotT A i=0:=by unfold gotT; rw [ask1n hi,if_neg (by decide)]
   rw [ask1n hi,e0]
   refine (got_r7 Y.g Y.sd Y.lp Y.lc Y.ps Y.rp Y.rc Y.gs Y.xp Y.xc Y.xs Y.yp Y.yc Y.ys pl (h.gs hA) hgl hn9 (by rw [hps]; exact hA.n2) i (by rw [hps]; exact hi) w (H1.takes [0,2,7] (by decide))).mono ?_
   rintro e w' ⟨rfl,H2⟩
   have H3:=H1.absorbI (new:=[_,_,_]) [0,2,7] H2
   exact ⟨rfl,S.big (L:=[_,_,_,_,_,_,_]) (H3.takes [0,3,1,4,5,6,7,2,8] (by decide))⟩
end
section
variable {pl:List Rd} {w:World} {X:GM} {g0:Nat}
end
abbrev DRw0 (X:GM) (Y:GR) (pl:List Rd) (w:World):=[(GM.I X),(GR.I Y),(Pool pl),Old w (fps [(GM.I X),(GR.I Y),(Pool pl)])]
theorem cl5:callable Tryz.prog 5=true:=by kernel_rfl
theorem cl6:callable Tryz.prog 6=true:=by kernel_rfl
structure Chg where
 rd:Int
 n:Int
 st:Int
 rt:Int
def chgL (c:Chg):List Value:=[.int .i64 c.rd,.int .i64 c.n,.int .i64 c.st,.int .i64 c.rt]
end Go.Proofs.YtpbjekdjebjbkaaGreatDoor
