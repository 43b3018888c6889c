import Derived.Test.YthmmfhdpkddniaaGreatDoorPc
set_option linter.all false
namespace Go.Proofs.YthmmfhdpkddniaaGreatDoor
open Go.RowKit
open Go.Maps (Keyed)
def kfd {α κ:Type} [DecidableEq κ] (key:α→κ) (l:List α) (k:κ):Option α:=l.find? fun x=>decide (key x=k)
theorem lY {α κ:Type} [DecidableEq κ] {key:α→κ} {l:List α} {k:κ} {x:α} (h:kfd key l k=some x):∃ i:Nat,l[i]?=some x∧key x=k:=by
 unfold kfd at h
 obtain ⟨i,hi⟩:=List.getElem?_of_mem (List.mem_of_find?_eq_some h)
 exact ⟨i,hi,of_decide_eq_true (List.find?_some (p:=fun x=>decide (key x=k)) h)⟩
theorem uu {α κ:Type} [DecidableEq κ] {key:α→κ} {l:List α} {k:κ} (h:kfd key l k=none):∀ x∈l,key x ≠ k:=fun x hx he=>by
 unfold kfd at h
 rw [List.find?_eq_none] at h
 exact h x hx (decide_eq_true he)
theorem zS {α κ:Type} [DecidableEq κ] {key:α→κ} {l:List α} {k:κ} (h:∀ x∈l,key x ≠ k):kfd key l k=none:=by
 unfold kfd
 rw [List.find?_eq_none]
 exact fun x hx hd=>h x hx (of_decide_eq_true hd)
theorem sw {α κ:Type} {key:α→κ} {l:List α} (hn:(l.map key).Nodup) {i j:Nat} {x y:α} (hi:l[i]?=some x) (hj:l[j]?=some y) (he:key x=key y):i=j:=by
 obtain ⟨h1,e1⟩:=List.getElem?_eq_some_iff.1 hi
 obtain ⟨h2,e2⟩:=List.getElem?_eq_some_iff.1 hj
 have key':∀ a b (ha:a<l.length) (hb:b<l.length),a<b→key l[a] ≠ key l[b]:=fun a b ha hb hab=>by
   have:=List.pairwise_iff_getElem.1 hn a b (by rwa [List.length_map]) (by rwa [List.length_map]) hab
   rwa [List.getElem_map,List.getElem_map] at this
 rcases Nat.lt_trichotomy i j with h | h | h
 · exact absurd (by rw [e1,e2]; exact he) (key' i j h1 h2 h)
 · exact h
 · exact absurd (by rw [e1,e2]; exact he.symm) (key' j i h2 h1 h)
theorem kD {α κ:Type} [DecidableEq κ] {key:α→κ} {l:List α} (hn:(l.map key).Nodup) {i:Nat} {x:α} (h:l[i]?=some x):kfd key l (key x)=some x:=by
 cases hq:kfd key l (key x) with
 | none=>exact absurd rfl (uu hq x (List.mem_of_getElem? h))
 | some y =>
   obtain ⟨j,hj,he⟩:=lY hq
   have:=sw hn hj h he
   subst this
   rw [hj] at h; exact h
theorem Cr {α κ:Type} [DecidableEq κ] {key:α→κ} {l:List α} {M:κ→Option α} (h1:∀ (i:Nat) (x:α),l[i]?=some x→M (key x)=some x) (h2:∀ k,(∀ x∈l,key x ≠ k)→M k=none):kfd key l=M:=by
 funext k
 cases hq:kfd key l k with
 | none=>exact (h2 k (uu hq)).symm
 | some x =>
   obtain ⟨i,hi,rfl⟩:=lY hq
   exact (h1 i x hi).symm
theorem xq {α κ:Type} [DecidableEq κ] {key:α→κ} {l:List α} {r:α} (hn:((l++[r]).map key).Nodup):kfd key (l++[r])=fun k=>if k=key r then some r else kfd key l k:=by
 have hn1:(l.map key).Nodup:=by rw [List.map_append] at hn; exact (List.nodup_append.1 hn).1
 refine Cr (fun i x hx=>?_) (fun k h=>?_)
 · by_cases he:key x=key r
   · rw [if_pos he]
     have:=sw hn hx (j:=l.length) (y:=r) (by simp) he
     subst this
     simp at hx; rw [hx]
   rw [if_neg he]
   by_cases hi:i<l.length
   · rw [List.getElem?_append_left hi] at hx; exact kD hn1 hx
   rw [List.getElem?_append_right (by omega)] at hx
   have:i - l.length=0:=by
     have:=(List.getElem?_eq_some_iff.1 hx).1
     simp at this; omega
   rw [this] at hx; cases hx; exact absurd rfl he
 rw [if_neg (fun e=>h r (by simp) e.symm)]
 exact zS fun x hx=>h x (List.mem_append_left _ hx)
theorem uZ {α κ:Type} [DecidableEq κ] {key:α→κ} {l:List α} (hn:(l.map key).Nodup) {i:Nat} {x:α} (hx:l[i]?=some x):kfd key (l.eraseIdx i)=fun k=>if k=key x then none else kfd key l k:=by
 have hn2:((l.eraseIdx i).map key).Nodup:=hn.sublist ((List.eraseIdx_sublist ..).map key)
 have hpe:(l.map key).Perm (key x :: (l.eraseIdx i).map key):=(oY hx).map key
 have hno:key x ∉ (l.eraseIdx i).map key:=(List.nodup_cons.1 (hpe.nodup_iff.1 hn)).1
 refine Cr (fun j y hy=>?_) (fun k h=>?_)
 · have hm:y∈l.eraseIdx i:=List.mem_of_getElem? hy
   rw [if_neg (fun he=>hno (by rw [← he]; exact List.mem_map.2 ⟨y,hm,rfl⟩))]
   obtain ⟨k2,H3⟩:=List.getElem?_of_mem (List.mem_of_mem_eraseIdx hm)
   exact kD hn H3
 by_cases he:k=key x
 · rw [if_pos he]
 rw [if_neg he]
 refine zS fun y hy hd=>?_
 have h3:key y∈key x :: (l.eraseIdx i).map key:=hpe.mem_iff.1 (List.mem_map.2 ⟨y,hy,rfl⟩)
 rcases List.mem_cons.1 h3 with h3 | h3
 · exact he (hd.symm.trans h3)
 obtain ⟨q2,H2,h4⟩:=List.mem_map.1 h3
 exact h q2 H2 (h4.trans hd)
theorem xj {α κ:Type} {key:α→κ} {l:List α} {i:Nat} {x r:α} (hx:l[i]?=some x) (hk:key r=key x):(l.set i r).map key=l.map key:=by
 refine List.ext_getElem? fun j=>?_
 rw [List.getElem?_map,List.getElem?_map]
 by_cases hj:j=i
 · subst hj
   rw [List.getElem?_set_self (List.getElem?_eq_some_iff.1 hx).1,hx]
   show some (key r)=some (key x)
   rw [hk]
 rw [List.getElem?_set_ne (Ne.symm hj)]
theorem Ab {α κ:Type} [DecidableEq κ] {key:α→κ} {l:List α} (hn:(l.map key).Nodup) {i:Nat} {x r:α} (hx:l[i]?=some x) (hk:key r=key x):kfd key (l.set i r)=fun k=>if k=key x then some r else kfd key l k:=by
 obtain ⟨hi,he⟩:=List.getElem?_eq_some_iff.1 hx
 refine Cr (fun j y hy=>?_) (fun k h=>?_)
 · by_cases hj:j=i
   · subst hj
     rw [List.getElem?_set_self hi] at hy; cases hy
     rw [if_pos hk]
   rw [List.getElem?_set_ne (Ne.symm hj)] at hy
   rw [if_neg (fun e=>hj (sw hn hy hx e))]
   exact kD hn hy
 have h1:k ≠ key x:=fun e=>h r (List.mem_of_getElem? (List.getElem?_set_self hi)) (hk.trans e.symm)
 rw [if_neg h1]
 refine zS fun y hy hd=>?_
 obtain ⟨j,hj⟩:=List.getElem?_of_mem hy
 by_cases e:j=i
 · subst e
   rw [hx] at hj; cases hj
   exact h1 hd.symm
 exact h y (List.mem_of_getElem? (by rw [List.getElem?_set_ne (Ne.symm e)]; exact hj)) hd
def aO (c:aV):List Value:=[.int .i64 c.pc,.int .i64 c.bg,.int .i64 c.ln]
def jC (x:o_):List Value:=[.int .i64 x.lv,.int .i64 x.du]
def askL (a:Int × aV):List Value:=[.int .i64 a.1,.int .i64 a.2.pc,.int .i64 a.2.bg,.int .i64 a.2.ln]
theorem cN:mT 3 aO:=⟨by decide,fun _=>rfl,fun _=>rfl⟩
theorem lA:mT 2 jC:=⟨by decide,fun _=>rfl,fun _=>rfl⟩
theorem lC:mT 4 askL:=⟨by decide,fun _=>rfl,fun _=>rfl⟩
def j_ (b:Nat):Value:=.pointer (some ⟨b,0,none⟩)
def bv (b:Bool):Nat:=if b=true then 1 else 0
theorem kO (b:Bool):bv b≤1:=by unfold bv; split <;> omega
def ML (l:List Bool) (q:Nat):Nat:=128 * bv (l.getD (8 * q) false)+64 * bv (l.getD (8 * q+1) false)+32 * bv (l.getD (8 * q+2) false)+16 * bv (l.getD (8 * q+3) false)+8 * bv (l.getD (8 * q+4) false)+4 * bv (l.getD (8 * q+5) false)+2 * bv (l.getD (8 * q+6) false)+bv (l.getD (8 * q+7) false)
theorem OU (l:List Bool) (q:Nat):ML l q<256:=by
 have h0:=kO (l.getD (8 * q) false); have h1:=kO (l.getD (8 * q+1) false); have h2:=kO (l.getD (8 * q+2) false); have h3:=kO (l.getD (8 * q+3) false)
 have h4:=kO (l.getD (8 * q+4) false); have h5:=kO (l.getD (8 * q+5) false); have h6:=kO (l.getD (8 * q+6) false); have h7:=kO (l.getD (8 * q+7) false)
 unfold ML; omega
def PH (l:List Bool):List Nat:=(List.range ((l.length+7) / 8)).map (ML l)
def fieldS (l:List Bool):ByteArray:=nZ (PH l)
theorem KW (l:List Bool):(PH l).length=(l.length+7) / 8:=by unfold PH; simp
theorem gY (l:List Bool):(fieldS l).size=(l.length+7) / 8:=by unfold fieldS; rw [lX,KW]
def cX (l:List Bool):Int→Option Bool:=fun i=>if 0≤i∧aF l i=true then some true else none
theorem xE {l:List Bool} {i:Int} (h:0≤i):(cX l i).getD false=aF l i:=by
 unfold cX
 cases hb:aF l i with
 | true=>rw [if_pos ⟨h,rfl⟩]; rfl
 | false=>rw [if_neg (fun h2=>by cases h2.2)]; rfl
theorem Jm (n:Nat):(fun _:Int=>(none:Option Bool))=cX (List.replicate n false):=by
 funext i
 unfold cX aF
 rw [if_neg]
 rintro ⟨_,h⟩
 rw [List.getD_eq_getElem?_getD,List.getElem?_replicate] at h
 split at h <;> cases h
theorem EO {l:List Bool} {i:Int} (h0:0≤i) (h:i.toNat<l.length):upM (cX l) i true=cX (l.set i.toNat true):=by
 funext k
 unfold upM cX
 by_cases hk:k=i
 · subst hk
   rw [if_pos rfl,if_pos ⟨h0,Dt h⟩]
 · rw [if_neg hk]
   by_cases h1:0≤k
   · rw [u7 (by omega)]
   · rw [if_neg (fun h=>h1 h.1),if_neg (fun h=>h1 h.1)]
structure Mt where
 k:Int
 b:Nat
 fld:List Bool
 am:Nat
 alw:List Bool
 sm:Nat
 sug:List Bool
 ch:Bool
 sn:Bool
 ap:Option Addr
 ac:Nat
 asked:List aV
def Mt.pe (m:Mt):fV:=⟨m.k,m.fld,m.alw,m.sug,!m.ch,m.sn⟩
def fA (m:Mt):aD:=fN [Ob m.b (.cells #[.string (fieldS m.fld),.map (some m.am),.map (some m.sm),.bool m.ch,.bool m.sn,.slice m.ap m.asked.length m.ac] 88 (0,0)),Mp (Value.int .i64) Value.bool cO m.am (cX m.alw),Mp (Value.int .i64) Value.bool cO m.sm (cX m.sug),Rw 44 3 m.ap m.asked.length m.ac (fl aO m.asked)]
structure Bk where
 pl:Int × Int
 b:Nat
 here:Bool
 ap:Option Addr
 ac:Nat
 asked:List Int
def Bk.v (r:Bk):Bool × List Int:=(r.here,r.asked)
def g_ (r:Bk):aD:=fN [Ob r.b (.cells #[.bool r.here,.slice r.ap r.asked.length r.ac] 103 (0,0)),Rw 3 1 r.ap r.asked.length r.ac (fl cg r.asked)]
def gV (ms:List Mt):Int→Option Nat:=fun k=>(kfd Mt.k ms k).map Mt.b
def gZ (bs:List Bk):Int × Int→Option Nat:=fun p=>(kfd Bk.pl bs p).map Bk.b
def pQ (x:Int × Int):Value:=.agg #[.int .i64 x.1,.int .i64 x.2]
def qE (x:Int × Int):Prop:=cO x.1∧cO x.2
structure XP where
 g:Nat
 hp:Option Addr
 hc:Nat
 wp:Option Addr
 wc:Nat
 mg:Nat
 ms:List Mt
 bg:Nat
 bs:List Bk
def XI (X:XP) (A:PK):aD:=fN [Ob X.g (.cells #[.map (some X.mg),.int .i64 (A.n:Int),.int .i64 (A.pz:Int),.int .i64 (A.la:Int),.string A.seed,.bool A.ino,.slice X.hp A.had.length X.hc,.slice X.wp A.wish.length X.wc,.map (some X.bg)] 85 (0,0)),Rw 4 1 X.hp A.had.length X.hc (fl cG A.had),Rw 40 2 X.wp A.wish.length X.wc (fl jC A.wish),Mp (Value.int .i64) j_ cO X.mg (gV X.ms),bM fA X.ms,Mp pQ j_ qE X.bg (gZ X.bs),bM g_ X.bs]
structure di (X:XP) (A:PK):Prop where
 ms:X.ms.map Mt.pe=A.peers
 ask:∀ m∈X.ms,m.asked=bO A.asked m.k
 bn:(X.bs.map Bk.pl).Nodup
 bf:∀ p,(kfd Bk.pl X.bs p).map Bk.v=A.ent p
theorem Ka {x y:Int × Int} (h:pQ x=pQ y):x=y:=by
 unfold pQ at h
 simp only [Value.agg.injEq] at h
 have h2:=congrArg Array.toList h
 simp only [List.cons.injEq,Value.int.injEq,true_and,and_true] at h2
 exact Prod.ext h2.1 h2.2
theorem Ix:laidOutB Tryz.prog=true:=by kernel_rfl
theorem CX:(match Tryz.prog.underlying 100 with | some (.array _ _) | some (.struct _)=>true | _=>false)=true:=by rw [Tryz.underlying100]
set_option maxRecDepth 100000 in
theorem Fx:Go.WideMaps.KeyLaw Tryz.prog 100:=deep_law_laid Ix (m:=2) (by omega) (of_decide_eq_true (by kernel_rfl)) (by kernel_rfl) CX
theorem vt:Tryz.prog.cellsOf 100=2:=by kernel_rfl
theorem Lu:Tryz.prog.cellsOf 3=1:=by kernel_rfl
theorem Nn:∃ s,Tryz.prog.types.size=s+1:=⟨_,(by kernel_rfl:Tryz.prog.types.size=(Tryz.prog.types.size - 1)+1)⟩
theorem Fy {x:Int × Int} (h:qE x):∃ l,keyOf Tryz.prog 100 (pQ x)=some l:=by
 have h1:∀ d (n:Int),cO n→Tryz.prog.keyLits (d+1) 3 [.int .i64 n]=some [.int .i64 n]:=fun d n hn=>by
   simp [Program.keyLits,Tryz.underlying3,zM hn]
 obtain ⟨s,hs⟩:=Nn
 have hk:Tryz.prog.keyType 100=true:=by kernel_rfl
 unfold keyOf
 rw [Tryz.underlying100]
 simp only [hk,Bool.true_and]
 have hf:(pQ x).formed Tryz.prog 100=true:=by simp [pQ,Value.formed,Tryz.underlying100,vt]
 rw [if_pos hf,hs]
 simp [Program.keyLits,Tryz.underlying100,vt,Lu,pQ,Value.cells,h1 _ _ h.1,h1 _ _ h.2,zM h.1,zM h.2]
theorem jp:rP Tryz.prog 83 100 98 pQ qE:=⟨Tryz.underlying83,.of_law Fx,fun x hx=>Fy hx,fun x y _ _ h=>Ka h⟩
def MW (c:aV):Value:=.agg #[.int .i64 c.pc,.int .i64 c.bg,.int .i64 c.ln]
def SU (c:aV):Prop:=cO c.pc∧cO c.bg∧cO c.ln
structure Rp where
 k:Int
 fp:Option Addr
 fc:Nat
 fld:List Bool
 ap:Option Addr
 ac:Nat
 alw:List Bool
 sp:Option Addr
 sc:Nat
 sug:List Bool
 un:Bool
 sn:Bool
def Rp.pe (x:Rp):fV:=⟨x.k,x.fld,x.alw,x.sug,x.un,x.sn⟩
def mQ (x:Rp):List Value:=[.int .i64 x.k,.slice x.fp x.fld.length x.fc,.slice x.ap x.alw.length x.ac,.slice x.sp x.sug.length x.sc,.bool x.un,.bool x.sn]
theorem mR:mT 6 mQ:=⟨by decide,fun _=>rfl,fun _=>rfl⟩
def gW (x:Rp):aD:=fN [Rw 4 1 x.fp x.fld.length x.fc (fl cG x.fld),Rw 4 1 x.ap x.alw.length x.ac (fl cG x.alw),Rw 4 1 x.sp x.sug.length x.sc (fl cG x.sug)]
structure ZP where
 g:Nat
 hp:Option Addr
 hc:Nat
 wp:Option Addr
 wc:Nat
 ep:Option Addr
 ec:Nat
 ap:Option Addr
 ac:Nat
 pp:Option Addr
 pc:Nat
 rs:List Rp
def ZI (Z:ZP) (A:PK):aD:=fN [Ob Z.g (.cells #[.int .i64 (A.n:Int),.int .i64 (A.pz:Int),.int .i64 (A.la:Int),.string A.seed,.bool A.ino,.slice Z.hp A.had.length Z.hc,.slice Z.wp A.wish.length Z.wc,.slice Z.ep A.here.length Z.ec,.slice Z.ap A.asked.length Z.ac,.slice Z.pp Z.rs.length Z.pc] 97 (0,0)),Rw 4 1 Z.hp A.had.length Z.hc (fl cG A.had),Rw 40 2 Z.wp A.wish.length Z.wc (fl jC A.wish),Rw 44 3 Z.ep A.here.length Z.ec (fl aO A.here),Rw 150 4 Z.ap A.asked.length Z.ac (fl askL A.asked),Rw 125 6 Z.pp Z.rs.length Z.pc (fl mQ Z.rs),bM gW Z.rs]
def fU (Z:ZP) (A:PK):Prop:=Z.rs.map Rp.pe=A.peers
section
variable {w:World} {L:List aD} {rs:List Rp} {i k:Nat} {x:Rp}
theorem S.rdF (h:S w L) (hk:L[k]?=some (bM gW rs)) (hx:rs[i]?=some x):bz w x.fp x.fld.length x.fc 1 (fl cG x.fld):=
 (S.unbig (L:=[_,_,_]) (B:=[]) (show S w [gW x] from h.lstAt hk hx)).rwReads (k:=0) rfl
theorem S.rdA (h:S w L) (hk:L[k]?=some (bM gW rs)) (hx:rs[i]?=some x):bz w x.ap x.alw.length x.ac 1 (fl cG x.alw):=
 (S.unbig (L:=[_,_,_]) (B:=[]) (show S w [gW x] from h.lstAt hk hx)).rwReads (k:=1) rfl
theorem S.rdS (h:S w L) (hk:L[k]?=some (bM gW rs)) (hx:rs[i]?=some x):bz w x.sp x.sug.length x.sc 1 (fl cG x.sug):=
 (S.unbig (L:=[_,_,_]) (B:=[]) (show S w [gW x] from h.lstAt hk hx)).rwReads (k:=2) rfl
variable {ms:List Mt} {m:Mt} {bs:List Bk} {r:Bk} {c:Nat} {v:Value}
theorem S.mtCell (h:S w L) (hk:L[k]?=some (bM fA ms)) (hx:ms[i]?=some m) (hv:(#[.string (fieldS m.fld),.map (some m.am),.map (some m.sm),.bool m.ch,.bool m.sn,.slice m.ap m.asked.length m.ac]:Array Value)[c]?=some v):w.cell? ⟨m.b,c,none⟩=some v:=
 (S.unbig (L:=[_,_,_,_]) (B:=[]) (show S w [fA m] from h.lstAt hk hx)).cell (k:=0) rfl hv
theorem S.bkCell (h:S w L) (hk:L[k]?=some (bM g_ bs)) (hx:bs[i]?=some r) (hv:(#[.bool r.here,.slice r.ap r.asked.length r.ac]:Array Value)[c]?=some v):w.cell? ⟨r.b,c,none⟩=some v:=
 (S.unbig (L:=[_,_]) (B:=[]) (show S w [g_ r] from h.lstAt hk hx)).cell (k:=0) rfl hv
theorem S.mtAsk (h:S w L) (hk:L[k]?=some (bM fA ms)) (hx:ms[i]?=some m):bz w m.ap m.asked.length m.ac 3 (fl aO m.asked):=
 (S.unbig (L:=[_,_,_,_]) (B:=[]) (show S w [fA m] from h.lstAt hk hx)).rwReads (k:=3) rfl
theorem S.bkAsk (h:S w L) (hk:L[k]?=some (bM g_ bs)) (hx:bs[i]?=some r):bz w r.ap r.asked.length r.ac 1 (fl cg r.asked):=
 (S.unbig (L:=[_,_]) (B:=[]) (show S w [g_ r] from h.lstAt hk hx)).rwReads (k:=1) rfl
theorem S.mtAlw (h:S w L) (hk:L[k]?=some (bM fA ms)) (hx:ms[i]?=some m):S w [Mp (Value.int .i64) Value.bool cO m.am (cX m.alw)]:=
 (S.unbig (L:=[_,_,_,_]) (B:=[]) (show S w [fA m] from h.lstAt hk hx)).takes [1] (by decide)
theorem S.mtSug (h:S w L) (hk:L[k]?=some (bM fA ms)) (hx:ms[i]?=some m):S w [Mp (Value.int .i64) Value.bool cO m.sm (cX m.sug)]:=
 (S.unbig (L:=[_,_,_,_]) (B:=[]) (show S w [fA m] from h.lstAt hk hx)).takes [2] (by decide)
end
theorem uk {ms:List Mt} {k:Int} {b:Nat} (h:gV ms k=some b):∃ (i:Nat) (m:Mt),ms[i]?=some m∧m.k=k∧m.b=b∧kfd Mt.k ms k=some m:=by
 unfold gV at h
 obtain ⟨m,hm,rfl⟩:=Option.map_eq_some_iff.1 h
 obtain ⟨i,hi,hk⟩:=lY hm
 exact ⟨i,m,hi,hk,rfl,hm⟩
theorem Jj {bs:List Bk} {p:Int × Int} {b:Nat} (h:gZ bs p=some b):∃ (i:Nat) (r:Bk),bs[i]?=some r∧r.pl=p∧r.b=b∧kfd Bk.pl bs p=some r:=by
 unfold gZ at h
 obtain ⟨m,hm,rfl⟩:=Option.map_eq_some_iff.1 h
 obtain ⟨i,hi,hk⟩:=lY hm
 exact ⟨i,m,hi,hk,rfl,hm⟩
section
variable {X:XP} {A:PK} (h:di X A)
include h
theorem di.ks:X.ms.map Mt.k=A.peers.map fV.k:=by
 rw [← h.ms,List.map_map]; rfl
theorem di.at {i:Nat} {m:Mt} (hm:X.ms[i]?=some m):A.peers[i]?=some m.pe:=by
 rw [← h.ms,List.getElem?_map,hm]; rfl
theorem di.fnd {k:Int}:(kfd Mt.k X.ms k).map Mt.pe=fD A.peers k:=by
 unfold fD kfd
 rw [← h.ms,List.find?_map]; rfl
theorem di.free {c:aV} {i:Int} (hc:c∈A.blocks i):(gZ X.bs c.at).isSome=!A.freeC c:=by
 have h1:=h.bf c.at
 unfold PK.ent at h1
 rw [Ak hc] at h1
 unfold gZ
 cases hf:A.freeC c with
 | true =>
   rw [hf,if_pos rfl] at h1
   rw [Option.map_eq_none_iff] at h1
   rw [h1]; rfl
 | false =>
   rw [hf,if_neg (by decide)] at h1
   obtain ⟨r,hr,_⟩:=Option.map_eq_some_iff.1 h1
   rw [hr]; rfl
theorem di.ent {c:aV} {i:Int} (hc:c∈A.blocks i) {r:Bk} (hr:kfd Bk.pl X.bs c.at=some r):r.here=decide (c∈A.here)∧r.asked=cn A.asked c:=by
 have h1:=h.bf c.at
 unfold PK.ent at h1
 rw [Ak hc,hr] at h1
 split at h1
 · cases h1
 · have h1:some (r.here,r.asked)=some (decide (c∈A.here),cn A.asked c):=h1
   exact ⟨congrArg Prod.fst (Option.some.inj h1),congrArg Prod.snd (Option.some.inj h1)⟩
end
abbrev X0 (X:XP) (A:PK):aD:=Ob X.g (.cells #[.map (some X.mg),.int .i64 (A.n:Int),.int .i64 (A.pz:Int),.int .i64 (A.la:Int),.string A.seed,.bool A.ino,.slice X.hp A.had.length X.hc,.slice X.wp A.wish.length X.wc,.map (some X.bg)] 85 (0,0))
abbrev X1 (X:XP) (A:PK):aD:=Rw 4 1 X.hp A.had.length X.hc (fl cG A.had)
abbrev X2 (X:XP) (A:PK):aD:=Rw 40 2 X.wp A.wish.length X.wc (fl jC A.wish)
abbrev X3 (X:XP):aD:=Mp (Value.int .i64) j_ cO X.mg (gV X.ms)
abbrev X5 (X:XP):aD:=Mp pQ j_ qE X.bg (gZ X.bs)
abbrev Z0 (Z:ZP) (A:PK):aD:=Ob Z.g (.cells #[.int .i64 (A.n:Int),.int .i64 (A.pz:Int),.int .i64 (A.la:Int),.string A.seed,.bool A.ino,.slice Z.hp A.had.length Z.hc,.slice Z.wp A.wish.length Z.wc,.slice Z.ep A.here.length Z.ec,.slice Z.ap A.asked.length Z.ac,.slice Z.pp Z.rs.length Z.pc] 97 (0,0))
abbrev Z1 (Z:ZP) (A:PK):aD:=Rw 4 1 Z.hp A.had.length Z.hc (fl cG A.had)
abbrev Z2 (Z:ZP) (A:PK):aD:=Rw 40 2 Z.wp A.wish.length Z.wc (fl jC A.wish)
abbrev Z3 (Z:ZP) (A:PK):aD:=Rw 44 3 Z.ep A.here.length Z.ec (fl aO A.here)
abbrev Z4 (Z:ZP) (A:PK):aD:=Rw 150 4 Z.ap A.asked.length Z.ac (fl askL A.asked)
abbrev Z5 (Z:ZP):aD:=Rw 125 6 Z.pp Z.rs.length Z.pc (fl mQ Z.rs)
end Go.Proofs.YthmmfhdpkddniaaGreatDoor
