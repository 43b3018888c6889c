import Derived.Test.YtpbjekdjebjbkaaGreatDoorLj
import Derived.Test.YtpbjekdjebjbkaaGreatDoorGq
import Derived.Test.YtpbjekdjebjbkaaGreatDoorGn
import Derived.Test.YtpbjekdjebjbkaaGreatDoorGk
import Derived.Test.YtpbjekdjebjbkaaGreatDoorFm
set_option maxRecDepth 20000
set_option maxHeartbeats 4000000
set_option linter.unusedSimpArgs false
set_option linter.unusedVariables false
namespace Go.Proofs.YtpbjekdjebjbkaaGreatDoor
open Go.RowKit
structure Pl where
 st:Int
 rt:Int
def plL (p:Pl):List Value:=[.int .i64 p.st,.int .i64 p.rt]
theorem plE:Enc 2 plL:=⟨by decide,fun _=>rfl,fun _=>rfl⟩
abbrev Rd:=Ro (Ro Int)
def Rd.v (r:Rd):List (List Int):=r.l.map Ro.l
def BwI (b:Ro Int):Item:=Rw 3 1 b.p b.l.length b.c (fl intL b.l)
def RdI (r:Rd):Item:=Big [Rw 43 1 r.p r.l.length r.c (fl rowL r.l),Lst BwI r.l]
def Pool (pl:List Rd):Item:=Lst RdI pl
section
variable {w:World} {L:List Item} {pl:List Rd} {r:Rd} {k i:Nat} {x:Ro Int} {bs:List (Ro Int)}
theorem S.bwRd (h:S w L) (hk:L[k]?=some (Lst BwI bs)) (hx:bs[i]?=some x):Reads w x.p x.l.length x.c 1 (fl intL x.l):=by
 have h1:S w [BwI x]:=h.lstAt hk hx
 exact h1.rwReads (k:=0) rfl
theorem S.poolRd (h:S w L) (hk:L[k]?=some (Pool pl)) (hr:r∈pl):Reads w r.p r.l.length r.c 1 (fl rowL r.l):=by
 obtain ⟨j,hj⟩:=List.getElem?_of_mem hr
 have h1:S w [RdI r]:=h.lstAt hk hj
 have h2:=S.unbig (L:=[_,_]) (B:=[]) h1
 exact h2.rwReads (k:=0) rfl
theorem S.poolRow (h:S w L) (hk:L[k]?=some (Pool pl)) (hr:r∈pl) (hx:r.l[i]?=some x):Reads w x.p x.l.length x.c 1 (fl intL x.l):=by
 obtain ⟨j,hj⟩:=List.getElem?_of_mem hr
 have h1:S w [RdI r]:=h.lstAt hk hj
 have h2:=S.unbig (L:=[_,_]) (B:=[]) h1
 exact h2.bwRd (k:=1) rfl hx
theorem S.poolAdd (h:S w (Rw 43 1 r.p r.l.length r.c (fl rowL r.l) :: Lst BwI r.l :: Pool pl :: L)):S w (Pool (pl++[r]) :: L):=
 S.lstSnoc (F:=RdI) (S.big (L:=[_,_]) h)
end
structure Sp where
 k:Int
 P:Int→Option Int
 B:Int→Option Int
 C:Int→Option Bool
structure Sg where
 k:Int
 b:Nat
 pg:Nat
 bg:Nat
 cg:Option Nat
 P:Int→Option Int
 B:Int→Option Int
 C:Int→Option Bool
def Sg.sp (s:Sg):Sp:=⟨s.k,s.P,s.B,s.C⟩
def Sg.ty (s:Sg):TypeId:=if s.k=1 then 92 else if s.k=2 then 93 else if s.k=3 then 94 else if s.k=4 then 95 else if s.k=5 then 96 else if s.k=6 then 97 else 102
def Sg.va (s:Sg):Value:=if s.k=6 then .pointer (some ⟨s.b,0,none⟩) else .agg #[]
def sgL (s:Sg):List Value:=[.iface s.ty s.va]
theorem sgE:Enc 1 sgL:=⟨by decide,fun _=>rfl,fun _=>rfl⟩
abbrev intMp (g:Nat) (M:Int→Option Int):Item:=Mp (Value.int .i64) (Value.int .i64) okI g M
abbrev boolMp (g:Nat) (M:Int→Option Bool):Item:=Mp (Value.int .i64) Value.bool okI g M
def ChI (cg:Option Nat) (C:Int→Option Bool):Item:=match cg with | some c=>boolMp c C | none=>Big []
def TyI (s:Sg):Item:=Big [Ob s.b (.cells #[.map (some s.pg),.map (some s.bg),.map s.cg] 101 (0,0)),intMp s.pg s.P,intMp s.bg s.B,ChI s.cg s.C]
def SgI (s:Sg):Item:=if s.k=6 then TyI s else Big []
structure GA where
 sd:ByteArray
 ps:List Pl
 ss:List Sp
 gv:List (List (List Int))
 got:List Int
 gave:List Int
 bw:List (List Int)
structure GM where
 g:Nat
 gp:Option Addr
 gc:Nat
 gs:List Rd
 sd:ByteArray
 pp:Option Addr
 pc:Nat
 ps:List Pl
 sp:Option Addr
 sc:Nat
 ss:List Sg
 tp:Option Addr
 tc:Nat
 got:List Int
 vp:Option Addr
 vc:Nat
 gave:List Int
 bp:Option Addr
 bc:Nat
 bs:List (Ro Int)
def GM.A (X:GM):GA:=⟨X.sd,X.ps,X.ss.map Sg.sp,X.gs.map Rd.v,X.got,X.gave,X.bs.map Ro.l⟩
def GM.I (X:GM):Item:=Big [Ob X.g (.cells #[.slice X.gp X.gs.length X.gc,.string X.sd,.slice X.pp X.ps.length X.pc,.slice X.sp X.ss.length X.sc,.slice X.tp X.got.length X.tc,.slice X.vp X.gave.length X.vc,.slice X.bp X.bs.length X.bc] 61 (0,0)),
 Rw 39 1 X.gp X.gs.length X.gc (fl rowL X.gs),Rw 27 2 X.pp X.ps.length X.pc (fl plL X.ps),Rw 63 1 X.sp X.ss.length X.sc (fl sgL X.ss),Rw 3 1 X.tp X.got.length X.tc (fl intL X.got),Rw 3 1 X.vp X.gave.length X.vc (fl intL X.gave),Rw 43 1 X.bp X.bs.length X.bc (fl rowL X.bs),Lst BwI X.bs,Lst SgI X.ss]
def at2 (r:List (List Int)) (a b:Int):Int:=(r.getD a.toNat []).getD b.toNat 0
structure RdOK (n:Nat) (r:List (List Int)):Prop where
 len:r.length=n
 row:∀ x∈r,x.length=n
 pos:∀ x∈r,∀ y∈x,0≤y∧y≤1000000
theorem RdOK.row_at {n:Nat} {r:Rd} (h:RdOK n r.v) {i:Nat} {x:Ro Int} (hx:r.l[i]?=some x):x.l.length=n:=h.row x.l (List.mem_map.2 ⟨x,List.mem_of_getElem? hx,rfl⟩)
theorem RdOK.lenR {n:Nat} {r:Rd} (h:RdOK n r.v):r.l.length=n:=by have:=h.len; unfold Rd.v at this; rwa [List.length_map] at this
theorem RdOK.ent {n:Nat} {r:Rd} (h:RdOK n r.v) {i j:Nat} {x:Ro Int} {y:Int} (hx:r.l[i]?=some x) (hy:x.l[j]?=some y):0≤y∧y≤1000000:=h.pos x.l (List.mem_map.2 ⟨x,List.mem_of_getElem? hx,rfl⟩) y (List.mem_of_getElem? hy)
theorem at2_def (r:List (List Int)) (a b:Int):at2 r a b=((r[a.toNat]?.getD [])[b.toNat]?).getD 0:=by
 unfold at2
 rw [List.getD_eq_getElem?_getD,List.getD_eq_getElem?_getD]
theorem at2_is {r:Rd} {a b:Int} {x:Ro Int} {y:Int} (hx:r.l[a.toNat]?=some x) (hy:x.l[b.toNat]?=some y):at2 r.v a b=y:=by
 rw [at2_def]
 unfold Rd.v
 rw [List.getElem?_map,hx]
 show (x.l[b.toNat]?).getD 0=y
 rw [hy]; rfl
theorem RdOK.at2 {n:Nat} {r:List (List Int)} (h:RdOK n r) (a b:Int):0≤at2 r a b∧at2 r a b≤1000000:=by
 rw [at2_def]
 cases hx:r[a.toNat]? with
 | none=>simp
 | some x =>
   show 0≤(x[b.toNat]?).getD 0∧(x[b.toNat]?).getD 0≤1000000
   cases hy:x[b.toNat]? with
   | none=>simp
   | some y=>exact h.pos x (List.mem_of_getElem? hx) y (List.mem_of_getElem? hy)
structure GsOK (n:Nat) (pl gs:List Rd):Prop where
 mem:∀ r∈gs,r∈pl
 ok:∀ r∈gs,RdOK n r.v
def lastV (G:List (List (List Int))) (a b:Int):Int:=match G.getLast? with | none=>0 | some r=>at2 r a b
def snb1 (me ot:Int) (r:List (List Int)):Bool:=!(decide (0<at2 r ot me) || decide (at2 r me ot=0))
def snubV (G:List (List (List Int))) (me ot:Int):Bool:=decide (3≤G.length) && (G.reverse.take 3).all (snb1 me ot)
theorem rev_v (gs:List Rd):(gs.map Rd.v).reverse=gs.reverse.map Rd.v:=by rw [List.map_reverse]
theorem lastV_rev {gs:List Rd} {r:Rd} {a b:Int} (h:gs.reverse[0]?=some r):lastV (gs.map Rd.v) a b=at2 r.v a b:=by
 unfold lastV
 have e:(gs.map Rd.v).getLast?=some r.v:=by
   rw [← List.head?_reverse,rev_v,List.head?_map]
   rw [List.head?_eq_getElem?,h]; rfl
 rw [e]
theorem cl71:callable Tryz.prog 71=true:=by kernel_rfl
theorem cl75:callable Tryz.prog 75=true:=by kernel_rfl
theorem fo58_0:foO Tryz.prog 58 0=some 0:=by kernel_rfl
theorem sz39:szO Tryz.prog 39=some 1:=by kernel_rfl
def encB (z:Int × Rd):Array Value:=#[.int .i64 z.1,roV z.2]
def encG (r:Rd):Array Value:=#[roV r]
theorem rev_at {α:Type} {l:List α} {j i:Nat} {x:α} (h:l[j]?=some x) (hj:j+i+1=l.length):l.reverse[i]?=some x:=by
 rw [List.getElem?_reverse (by omega),show l.length - 1 - i=j by omega]; exact h
theorem take_snocT {α:Type} {l:List α} {k:Nat} {x:α} (h:l[k]?=some x):l.take (k+1)=l.take k++[x]:=by rw [List.take_add_one,h]; rfl
theorem snd_step {α:Type} {l:List α} {pr:List (Int × α)} {m:Int} {x:α} (h:pr.map Prod.snd=l.take pr.length) (hx:l[pr.length]?=some x):(pr++[(m,x)]).map Prod.snd=l.take (pr++[(m,x)]).length:=by
 rw [List.map_append,h,List.length_append,List.length_singleton,take_snocT hx]; rfl
theorem backw_it {n0 b:Nat} {l:List Rd} {p:Option Addr} {n c:Nat} {Y:Item} (hn9:n≤1000) (hYr:∀ w',S w' [Y]→Reads w' p n c 1 (fl rowL l)) :
  IterW n0 Tryz.prog 75 #[.pointer (some ⟨b,0,none⟩)] encB (Big [Ob b (.cells #[.slice p n c] 56 (0,0)),Y]) (fun pre z _=>l.reverse[pre.length]?=some z.2∧z.1=(l.length:Int) - 1 - pre.length∧0≤z.1) (fun _ _=>True) (fun xs=>xs.map Prod.snd=l.reverse) (fun _=>True) (Big []):=by
 intro l1 J Jx W C0 hOk hY h0 HS
 have H0:S _ [_,_,_]:=(HS.tk [0,2]).unbig
 have hnl:=(hYr _ (H0.tk [1])).lenL rowE
 refine enter_ci 19 Tryz.func75 rfl rfl rfl ?_
 have hL:¬ LetsOut (bodyPost Tryz.prog Tryz.f75 fun e W'=>(∃ v,e=.returned v)∧((∃ xs CC,(fun xs=>xs.map Prod.snd=l.reverse) xs∧J xs CC∧S W' [Big [Ob b (.cells #[.slice p n c] 56 (0,0)),Y],CC])∨(∃ pre CC,True∧Jx pre CC∧S W' [Big [Ob b (.cells #[.slice p n c] 56 (0,0)),Y],CC]))):=by
  rintro ⟨_,_,⟨_,h⟩,_⟩
  cases h
 refine g_wk [(0,_),(1,_)] ?_
 refine R.g_seq ?_
 refine R.g_region ?_
 refine R.w_v (fun h=>hL h) (xl H0 0) ?_
 refine R.w_v (fun h=>hL h) x_q ?_
 refine R.w_v (fun h=>hL h) (v:=.int .i64 ((n:Int) - 1)) (x_bin rfl rfl rfl (b_sub (w64 (by omega)))) ?_
 refine R.w_v (fun h=>hL h) xa ?_
 refine R.g_nil ?_
 refine w_0 ?_
 refine R.g_block ?_
 refine R.g_loop (ι:=Nat × List (Int × Rd) × Item) (fun (k,pr,C)=>[(0,.func (.yield l1) #[] #[]),(1,.pointer (some ⟨b,0,none⟩)),(3,.int .i64 (((k:Int) - 1)))]) (fun (k,pr,C) wx=>(k+pr.length=n)∧(pr.map Prod.snd=l.reverse.take pr.length)∧(J pr C)∧S wx [Ob b (.cells #[.slice p n c] 56 (0,0)),Y,C]) (fun (k,pr,C)=>k) (n,[],C0) ⟨rfl,rfl,rfl,trivial⟩ ⟨rfl,(by simp),h0,(H0.tk [0,1,2])⟩ ?_
 rintro ⟨k,pr,C⟩ wq1 ⟨hk,hpm,hJ,H2⟩
 refine g_wk [(0,_),(1,_),(3,_)] ?_
 iterate 2 refine R.g_seq ?_
 refine R.g_region ?_
 refine R.w_v (fun h=>hL h) xm ?_
 refine R.w_v (fun h=>hL h) (x_bin rfl rfl rfl b_geq) ?_
 refine R.g_nil ?_
 refine w_0 ?_
 by_cases hb3:(0:Int)≤((k:Int) - 1)
 ·
  refine R.g_cond_t rfl (decide_eq_true hb3) ?_
  refine R.g_skip ?_
  refine w_0 ?_
  refine R.g_seq ?_
  refine R.g_block ?_
  refine R.g_seq ?_
  refine R.g_region ?_
  iterate 2 refine R.w_v (fun h=>hL h) xm ?_
  refine R.w_v (fun h=>hL h) (xl H2 0) ?_
  refine R.w_v (fun h=>hL h) xm ?_
  refine R.w_v (fun h=>hL h) (x_i ((((k:Int) - 1)).toNat) ((hYr _ (H2.tk [1])))) ?_
  obtain ⟨x4,hx4⟩:=((hYr _ (H2.tk [1]))).exL rowE ((((k:Int) - 1)).toNat)
  refine R.w_v (fun h=>hL h) (x_r ((((k:Int) - 1)).toNat) ((hYr _ (H2.tk [1]))) (rowE.flAt1 hx4 rfl)) ?_
  have hrv:l.reverse[pr.length]?=some x4:=rev_at hx4 (by omega)
  have H5:S _ [_,_,_]:=S.noI (S.big (L:=[_,_]) (H2.tk [0,1,2]))
  refine l_yield (wt0 rfl) rfl rfl rfl rfl rfl (hY pr (((k:Int) - 1),x4) wq1 _ C hJ ⟨hrv,by show (k:Int) - 1=_; omega,by show 0≤(k:Int) - 1; omega⟩ H5) ?_
  rintro _ wq6 (⟨rfl,C9,hJ9,hS2⟩ | ⟨rfl,C9,hJx,hS2⟩)
  ·
   refine ⟨_,rfl,?_⟩
   have H7:S _ [_,_,_]:=S.unbig (hS2.tk [0,2])
   refine R.w_v (fun h=>hL h) (v:=.bool false) (x_not (b:=true) rfl rfl) ?_
   refine R.g_nil ?_
   refine w_0 ?_
   refine R.g_cond_f rfl rfl ?_
   refine R.g_skip ?_
   refine w_k2 ?_
   refine R.g_region ?_
   refine R.w_v (fun h=>hL h) xm ?_
   refine R.w_v (fun h=>hL h) (v:=.int .i64 ((((k - 1:Nat):Int) - 1))) (x_bin rfl rfl rfl (b_sub (by rw [w64 (by omega)]; omega))) ?_
   refine R.w_v (fun h=>hL h) xa ?_
   refine R.g_nil ?_
   refine w_0 ?_
   refine g_rd (i:=(k,pr,C)) ((k - 1),(pr++[(((k:Int) - 1),x4)]),C9) ⟨(by rw [List.length_append,List.length_singleton]; omega),(snd_step hpm hrv),hJ9,(H7.tk [0,1,2])⟩
  ·
   refine ⟨_,rfl,?_⟩
   have H8:S _ [_,_,_]:=S.unbig (hS2.tk [0,2])
   refine R.w_v (fun h=>hL h) (v:=.bool true) (x_not (b:=false) rfl rfl) ?_
   refine R.g_nil ?_
   refine w_0 ?_
   refine R.g_cond_t rfl rfl ?_
   refine R.g_ret ?_
   refine w_k4 ?_
   refine fin_ret [] [] rfl trivial ?_
   exact ⟨⟨_,rfl⟩,.inr ⟨_,_,trivial,hJx,(S.big (L:=[_,_]) (H8.tk [0,1,2]))⟩⟩
 ·
  refine R.g_cond_f rfl (decide_eq_false hb3) ?_
  refine R.g_exit ?_
  refine w_k3 ?_
  refine fin_end [] [] rfl trivial ?_
  rw [List.take_of_length_le (by rw [List.length_reverse]; omega)] at hpm
  exact ⟨⟨_,rfl⟩,.inl ⟨_,_,hpm,hJ,(S.big (L:=[_,_]) (H2.tk [0,1,2]))⟩⟩
theorem backw_s (p:Option Addr) (n c:Nat)  (w:World):Calls Tryz.prog 71 #[.slice p n c] w fun e w'=>∃ b,e=.returned (.func (.func 75) #[] #[.pointer (some ⟨b,0,none⟩)])∧S w' ([Ob b (.cells #[.slice p n c] 56 (0,0))]++[Old w no]):=by
 have H0:=S.old w
 refine enter 4 Tryz.func71 rfl rfl rfl ?_
 refine g_wk [(0,_)] ?_
 refine w_s ?_
 refine l_of (s_box H0 (wt0 rfl) rfl rfl rfl rfl ?_)
 intro g1 wq2 H3
 refine w_k3 ?_
 refine w_v (x_makeFunc rfl rfl rfl) ?_
 refine w_k3 ?_
 refine fin_r [.tmp 2] [.func (.func 75) #[] #[.pointer (some ⟨g1,0,none⟩)]] ?_
 exact ⟨g1,rfl,H3⟩
theorem S.big2 {w:World} {A B:List Item} {c:Item} (h:S w (A++B++[c])):S w [Big A,Big B,c]:=by
 rw [List.append_assoc] at h
 have h1:S w (Big A :: (B++[c])):=h.big
 have h2:S w ((B++[c])++[Big A]):=h1.perm (List.perm_append_comm (l₁:=[Big A]) (l₂:=B++[c]))
 rw [List.append_assoc] at h2
 have h3:S w (Big B :: ([c]++[Big A])):=h2.big
 exact h3.takes [2,0,1] (by decide)
theorem S.unbig2 {w:World} {A B:List Item} {c:Item} (h:S w [Big A,Big B,c]):S w (A++B++[c]):=by
 have h1:S w (A++[Big B,c]):=h.unbig
 have h2:S w (Big B :: (c :: A)):=(h1.perm (List.perm_append_comm (l₁:=A) (l₂:=[Big B,c])))
 have h3:S w (B++(c :: A)):=h2.unbig
 refine h3.perm ?_
 rw [List.append_assoc]
 exact (List.perm_append_comm (l₁:=B) (l₂:=c :: A)).trans (List.perm_append_comm (l₁:=[c]) (l₂:=A++B) |>.symm.symm |> fun h=>by
   have h4:((c :: A)++B).Perm ((A++B)++[c]):=List.perm_append_comm (l₁:=[c]) (l₂:=A++B)
   rw [List.append_assoc] at h4
   exact h4)
theorem rounds_it {n0 b:Nat} {l:List Rd} {p:Option Addr} {n c:Nat} {Y:Item} (hn1:1≤n0) (hn9:n≤1000) (hYr:∀ w',S w' [Y]→Reads w' p n c 1 (fl rowL l)) :
  IterW n0 Tryz.prog 70 #[.pointer (some ⟨b,0,none⟩)] encG (Big [Ob b (.cells #[.slice p n c] 58 (0,0)),Y]) (fun pre r _=>l.reverse[pre.length]?=some r) (fun _ _=>True) (fun xs=>xs=l.reverse) (fun _=>True) (Big []):=by
 intro l1 J Jx W C0 hOk hY h0 HS
 have H0:S W [Ob b (.cells #[.slice p n c] 58 (0,0)),Y,C0]:=(HS.tk [0,2]).unbig
 have hnl:=(hYr _ (H0.tk [1])).lenL rowE
 refine enter_cm 17 Tryz.func70 rfl rfl rfl ?_
 have hL:¬ LetsOut (bodyPostM (WF none) n0 Tryz.prog Tryz.f70 fun e W'=>(∃ v,e=.returned v)∧((∃ xs CC,(fun xs=>xs=l.reverse) xs∧J xs CC∧S W' [Big [Ob b (.cells #[.slice p n c] 58 (0,0)),Y],CC])∨(∃ pre CC,True∧Jx pre CC∧S W' [Big [Ob b (.cells #[.slice p n c] 58 (0,0)),Y],CC]))):=by
  rintro ⟨_,_,h⟩
  simp only [bodyPostM,reduceCtorEq,false_and,and_false,exists_false,or_false,or_self,exists_const] at h
 refine g_wk [(0,_),(1,_)] ?_
 refine R.g_seq ?_
 refine R.g_region ?_
 refine R.l_of rfl (fun h=>hL h) (s_box H0 (wt0 rfl) rfl rfl rfl rfl ?_)
 intro g1 wq2 H3
 refine R.g_nil ?_
 refine g_then ?_
 refine R.g_seq ?_
 refine R.g_region ?_
 refine R.l_of rfl (fun h=>hL h) (s_val (v:=.pointer (some ⟨b,0,none⟩)) (wt0 rfl) rfl rfl (x_fieldAddr rfl rfl fo58_0 rfl) ?_)
 refine R.l_of rfl (fun h=>hL h) (s_val (v:=.slice p n c) (wt0 rfl) rfl rfl (x_load1 H3 1 rfl rfl Tryz.underlying56 rfl rfl rfl) ?_)
 refine R.l_of rfl (fun h=>hL h) (s_call (wt0 rfl) (x_call' rfl rfl cl71) (backw_s p n c _) ?_)
 rintro _ wq5 ⟨bk4,rfl,H6⟩
 replace H6:S _ [_,_,_,_,_]:=H3.ab (new:=[_]) H6 rfl
 refine b_ret rfl rfl ?_
 refine R.g_nil ?_
 refine g_then ?_
 refine R.g_block ?_
 have H7:S wq5 [(Big [Ob bk4 (.cells #[.slice p n c] 56 (0,0)),Y]),Ob g1 (.cells #[.func (.yield l1) #[] #[]] 124 (0,0)),Ob b (.cells #[.slice p n c] 58 (0,0)),C0]:=S.big (L:=[Ob bk4 (.cells #[.slice p n c] 56 (0,0)),Y]) (H6.tk [0,3,1,2,4])
 have H8:=S.noI (H7.tk [0,1,2,3])
 refine g_rangeJ (α:=Int × Rd) (ι:=Unit) (encs:=encB) (base:=(Big [Ob bk4 (.cells #[.slice p n c] 56 (0,0)),Y])) hn1 rfl cl75 (backw_it hn9 hYr) (fun _=>rfl) rfl (fun pre Lx=>∃ C,J (pre.map Prod.snd) C∧Lx=[Ob g1 (.cells #[.func (.yield l1) #[] #[]] 124 (0,0)),Ob b (.cells #[.slice p n c] 58 (0,0)),C]) (fun cc pre Lx=>cc=.ret∧∃ C,Jx (pre.map Prod.snd) C∧Lx=[Ob g1 (.cells #[.func (.yield l1) #[] #[]] 124 (0,0)),Ob b (.cells #[.slice p n c] 58 (0,0)),C]) (fun p ia=>[(1,.pointer (some ⟨b,0,none⟩)),(2,.pointer (some ⟨g1,0,none⟩)),(3,.int .i64 (p.1))]) (fun p ia=>[]) (fun _ _ _ _ _=>trivial) ⟨_,h0,rfl⟩ H8 ?_ ?_ ?_ ?_
 ·
  rintro l2 p Ly W9 H10
  have hL:¬ LetsOut (fun (_:Exit) (_:Act) (_:World)=>False):=fun ⟨_,_,h⟩=>h
  refine g_wk [(1,_),(2,_),(7,_)] ?_
  refine R.g_region ?_
  refine R.l_of rfl (fun h=>hL h) (s_val (v:=.int .i64 (p.1)) (wt0 rfl) rfl rfl (x_assign rfl rfl) ?_)
  refine R.g_nil ?_
  refine g_then ?_
  exact rw_assign () ⟨rfl,rfl,rfl,trivial⟩ H10
 ·
  rintro l2 pr z ia II Kx _ W11 ⟨C,hJ,rfl⟩ ⟨hz1,hz2,hz3⟩ H12
  have H13:=S.unbig (H12.tk [3,0,1,2,4,5,6])
  refine g_wk [(1,_),(2,_),(3,_)] ?_
  have hzi:l[z.1.toNat]?=some z.2:=by rw [List.getElem?_reverse (by have:=(List.getElem?_eq_some_iff.1 hz1).1; rwa [List.length_reverse] at this)] at hz1; rw [show z.1.toNat=l.length - 1 - pr.length by omega]; exact hz1
  refine R.g_block ?_
  refine R.g_seq ?_
  have H14:S W11 [Ob bk4 (.cells #[.slice p n c] 56 (0,0)),Y,II,Kx,Ob g1 (.cells #[.func (.yield l1) #[] #[]] 124 (0,0)),Ob b (.cells #[.slice p n c] 58 (0,0)),C]:=S.unbig (H13.tk [0,1,2,3,4,5])
  refine r_enter (by kernel_rfl) H14 (fun wq15 H16=>?_)
  repeat' (first | refine r_three (i:=0) (j:=1) (k:=3) (by decide +kernel) ?_ ?_ ?_ | refine r_three (i:=0) (j:=2) (k:=3) (by decide +kernel) ?_ ?_ ?_ | refine r_two (i:=1) (j:=3) (by decide +kernel) ?_ ?_ | refine r_two (i:=2) (j:=3) (by decide +kernel) ?_ ?_ | refine r_two (i:=0) (j:=3) (by decide +kernel) ?_ ?_ | refine r_two (i:=0) (j:=4) (by decide +kernel) ?_ ?_ | refine r_two (i:=0) (j:=5) (by decide +kernel) ?_ ?_ | refine r_two (i:=0) (j:=2) (by decide +kernel) ?_ ?_ | refine r_two (i:=0) (j:=1) (by decide +kernel) ?_ ?_ | refine r_one (i:=3) (by decide +kernel) ?_ | refine r_one (i:=4) (by decide +kernel) ?_ | refine r_one (i:=5) (by decide +kernel) ?_ | refine r_one (i:=6) (by decide +kernel) ?_ | refine r_one (i:=2) (by decide +kernel) ?_ | refine r_one (i:=1) (by decide +kernel) ?_ | refine r_one (i:=0) (by decide +kernel) ?_ | (refine r_of rfl rfl (fun ⟨_,_,h⟩=>h) ?_; first | refine s_v (xl H16 4) ?_ | refine s_v (xl H16 5) ?_ | refine s_v x_f ?_ | refine s_v xm ?_ | refine s_v (x_i ((z.1).toNat) (hYr _ (H16.tk [1]))) ?_ | refine s_v (x_r ((z.1).toNat) (hYr _ (H16.tk [1])) (rowE.flAt1 hzi rfl)) ?_))
  all_goals
   have H17:S wq15 [Big [Ob b (.cells #[.slice p n c] 58 (0,0)),Y],Big [Ob bk4 (.cells #[.slice p n c] 56 (0,0)),Ob g1 (.cells #[.func (.yield l1) #[] #[]] 124 (0,0)),II,Kx],C]:=S.big2 (H16.tk [5,1,0,4,2,3,6])
   refine r_yield rfl (wt0 rfl) rfl rfl rfl rfl rfl (hY (pr.map Prod.snd) z.2 wq15 _ C hJ (by show l.reverse[(pr.map Prod.snd).length]?=_; rw [List.length_map]; exact hz1) H17) ?_
   rintro _ wq19 (⟨rfl,C9,hJ9,H18⟩ | ⟨rfl,C9,hJx9,H18⟩)
   ·
    refine ⟨_,rfl,?_⟩
    have H20:S wq19 [Ob b (.cells #[.slice p n c] 58 (0,0)),Y,Ob bk4 (.cells #[.slice p n c] 56 (0,0)),Ob g1 (.cells #[.func (.yield l1) #[] #[]] 124 (0,0)),II,Kx,C9]:=S.unbig2 (A:=[_,_]) (B:=[_,_,_,_]) H18
    refine r_one (i:=7) (by kernel_rfl) ?_
    refine r_of rfl rfl (fun ⟨_,_,h⟩=>h) ?_
    refine s_val (v:=.bool false) (wt0 rfl) rfl rfl (x_not (b:=true) rfl rfl) ?_
    refine r_done (by kernel_rfl) ?_
    refine g_then ?_
    refine R.g_cond_f rfl rfl ?_
    refine R.g_skip ?_
    refine g_in ?_
    have H21:S wq19 [(Big [Ob bk4 (.cells #[.slice p n c] 56 (0,0)),Y]),Ob b (.cells #[.slice p n c] 58 (0,0)),Ob g1 (.cells #[.func (.yield l1) #[] #[]] 124 (0,0)),II,Kx,C9]:=S.big (L:=[Ob bk4 (.cells #[.slice p n c] 56 (0,0)),Y]) (H20.tk [2,1,0,3,4,5,6])
    exact rj_next ⟨_,by rw [List.map_append]; exact hJ9,rfl⟩ (H21.tk [0,3,4,2,1,5])
   ·
    refine ⟨_,rfl,?_⟩
    have H22:S wq19 [Ob b (.cells #[.slice p n c] 58 (0,0)),Y,Ob bk4 (.cells #[.slice p n c] 56 (0,0)),Ob g1 (.cells #[.func (.yield l1) #[] #[]] 124 (0,0)),II,Kx,C9]:=S.unbig2 (A:=[_,_]) (B:=[_,_,_,_]) H18
    refine r_one (i:=7) (by kernel_rfl) ?_
    refine r_of rfl rfl (fun ⟨_,_,h⟩=>h) ?_
    refine s_val (v:=.bool true) (wt0 rfl) rfl rfl (x_not (b:=false) rfl rfl) ?_
    refine r_done (by kernel_rfl) ?_
    refine g_then ?_
    refine R.g_cond_t rfl rfl ?_
    refine R.g_ret ?_
    refine g_in_ret ?_
    have H23:S wq19 [(Big [Ob bk4 (.cells #[.slice p n c] 56 (0,0)),Y]),Ob b (.cells #[.slice p n c] 58 (0,0)),Ob g1 (.cells #[.func (.yield l1) #[] #[]] 124 (0,0)),II,Kx,C9]:=S.big (L:=[Ob bk4 (.cells #[.slice p n c] 56 (0,0)),Y]) (H22.tk [2,1,0,3,4,5,6])
    exact rj_ret ⟨rfl,_,by rw [List.map_append]; exact hJx9,rfl⟩ (H23.tk [0,3,4,2,1,5])
 ·
  rintro D xs _ W143 hxs ⟨C,hJ,rfl⟩ H144
  have H145:S W143 [Ob bk4 (.cells #[.slice p n c] 56 (0,0)),Y,Ob D (.deferred (some [])),Ob g1 (.cells #[.func (.yield l1) #[] #[]] 124 (0,0)),Ob b (.cells #[.slice p n c] 58 (0,0)),C]:=S.unbig (H144.tk [1,0,2,3,4])
  refine g_in ?_
  refine fin_mark H145 2 rfl [] [] rfl (fun wq146 H147=>⟨trivial,?_⟩)
  exact ⟨⟨_,rfl⟩,.inl ⟨_,_,hxs,hJ,(S.big (L:=[_,_]) (H147.tk [4,1,5]))⟩⟩
 ·
  rintro D cc pr _ W148 _ ⟨rfl,C,hJ,rfl⟩ H149
  have H150:S W148 [Ob bk4 (.cells #[.slice p n c] 56 (0,0)),Y,Ob D (.deferred (some [])),Ob g1 (.cells #[.func (.yield l1) #[] #[]] 124 (0,0)),Ob b (.cells #[.slice p n c] 58 (0,0)),C]:=S.unbig (H149.tk [1,0,2,3,4])
  refine gw_ret ?_
  refine g_in_ret ?_
  refine fin_mark H150 2 rfl [] [] rfl (fun wq151 H152=>⟨trivial,?_⟩)
  exact ⟨⟨_,rfl⟩,.inr ⟨_,_,trivial,hJ,(S.big (L:=[_,_]) (H152.tk [4,1,5]))⟩⟩
end Go.Proofs.YtpbjekdjebjbkaaGreatDoor
