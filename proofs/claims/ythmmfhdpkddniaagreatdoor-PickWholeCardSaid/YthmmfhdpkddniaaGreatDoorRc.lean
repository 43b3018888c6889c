import Derived.Test.YthmmfhdpkddniaaGreatDoorPc
import Derived.Test.YthmmfhdpkddniaaGreatDoorHb
import Derived.Test.YthmmfhdpkddniaaGreatDoorGn
set_option linter.unusedSimpArgs false
set_option linter.unusedVariables false
namespace Go.Proofs.YthmmfhdpkddniaaGreatDoor
open Go.RowKit
open Go.Maps (Keyed)
def kfd {α κ:Type} [DecidableEq κ] (key:α→κ) (l:List α) (k:κ):Option α:=l.find? fun x=>decide (key x=k)
theorem kfd_some {α κ:Type} [DecidableEq κ] {key:α→κ} {l:List α} {k:κ} {x:α} (h:kfd key l k=some x):∃ i:Nat,l[i]?=some x∧key x=k:=by
 unfold kfd at h
 obtain ⟨i,hi⟩:=List.getElem?_of_mem (List.mem_of_find?_eq_some h)
 exact ⟨i,hi,of_decide_eq_true (List.find?_some (p:=fun x=>decide (key x=k)) h)⟩
theorem kfd_none {α κ:Type} [DecidableEq κ] {key:α→κ} {l:List α} {k:κ} (h:kfd key l k=none):∀ x∈l,key x ≠ k:=fun x hx he=>by
 unfold kfd at h
 rw [List.find?_eq_none] at h
 exact h x hx (decide_eq_true he)
theorem kfd_no {α κ:Type} [DecidableEq κ] {key:α→κ} {l:List α} {k:κ} (h:∀ x∈l,key x ≠ k):kfd key l k=none:=by
 unfold kfd
 rw [List.find?_eq_none]
 exact fun x hx hd=>h x hx (of_decide_eq_true hd)
theorem key_at {α κ:Type} {key:α→κ} {l:List α} (hn:(l.map key).Nodup) {i j:Nat} {x y:α} (hi:l[i]?=some x) (hj:l[j]?=some y) (he:key x=key y):i=j:=by
 obtain ⟨h1,e1⟩:=List.getElem?_eq_some_iff.1 hi
 obtain ⟨h2,e2⟩:=List.getElem?_eq_some_iff.1 hj
 have key':∀ a b (ha:a<l.length) (hb:b<l.length),a<b→key l[a] ≠ key l[b]:=fun a b ha hb hab=>by
   have:=List.pairwise_iff_getElem.1 hn a b (by rwa [List.length_map]) (by rwa [List.length_map]) hab
   rwa [List.getElem_map,List.getElem_map] at this
 rcases Nat.lt_trichotomy i j with h | h | h
 · exact absurd (by rw [e1,e2]; exact he) (key' i j h1 h2 h)
 · exact h
 · exact absurd (by rw [e1,e2]; exact he.symm) (key' j i h2 h1 h)
theorem kfd_at {α κ:Type} [DecidableEq κ] {key:α→κ} {l:List α} (hn:(l.map key).Nodup) {i:Nat} {x:α} (h:l[i]?=some x):kfd key l (key x)=some x:=by
 cases hq:kfd key l (key x) with
 | none=>exact absurd rfl (kfd_none hq x (List.mem_of_getElem? h))
 | some y =>
   obtain ⟨j,hj,he⟩:=kfd_some hq
   have:=key_at hn hj h he
   subst this
   rw [hj] at h; exact h
theorem kfd_of {α κ:Type} [DecidableEq κ] {key:α→κ} {l:List α} {M:κ→Option α} (h1:∀ (i:Nat) (x:α),l[i]?=some x→M (key x)=some x) (h2:∀ k,(∀ x∈l,key x ≠ k)→M k=none):kfd key l=M:=by
 funext k
 cases hq:kfd key l k with
 | none=>exact (h2 k (kfd_none hq)).symm
 | some x =>
   obtain ⟨i,hi,rfl⟩:=kfd_some hq
   exact (h1 i x hi).symm
theorem kfd_snoc {α κ:Type} [DecidableEq κ] {key:α→κ} {l:List α} {r:α} (hn:((l++[r]).map key).Nodup):kfd key (l++[r])=fun k=>if k=key r then some r else kfd key l k:=by
 have hn1:(l.map key).Nodup:=by rw [List.map_append] at hn; exact (List.nodup_append.1 hn).1
 refine kfd_of (fun i x hx=>?_) (fun k h=>?_)
 · by_cases he:key x=key r
   · rw [if_pos he]
     have:=key_at hn hx (j:=l.length) (y:=r) (by simp) he
     subst this
     simp at hx; rw [hx]
   · rw [if_neg he]
     by_cases hi:i<l.length
     · rw [List.getElem?_append_left hi] at hx; exact kfd_at hn1 hx
     · rw [List.getElem?_append_right (by omega)] at hx
       have:i - l.length=0:=by
         have:=(List.getElem?_eq_some_iff.1 hx).1
         simp at this; omega
       rw [this] at hx; cases hx; exact absurd rfl he
 · rw [if_neg (fun e=>h r (by simp) e.symm)]
   exact kfd_no fun x hx=>h x (List.mem_append_left _ hx)
theorem kfd_erase {α κ:Type} [DecidableEq κ] {key:α→κ} {l:List α} (hn:(l.map key).Nodup) {i:Nat} {x:α} (hx:l[i]?=some x):kfd key (l.eraseIdx i)=fun k=>if k=key x then none else kfd key l k:=by
 have hn2:((l.eraseIdx i).map key).Nodup:=hn.sublist ((List.eraseIdx_sublist ..).map key)
 have hpe:(l.map key).Perm (key x :: (l.eraseIdx i).map key):=(perm_erase hx).map key
 have hno:key x ∉ (l.eraseIdx i).map key:=(List.nodup_cons.1 (hpe.nodup_iff.1 hn)).1
 refine kfd_of (fun j y hy=>?_) (fun k h=>?_)
 · have hm:y∈l.eraseIdx i:=List.mem_of_getElem? hy
   rw [if_neg (fun he=>hno (by rw [← he]; exact List.mem_map.2 ⟨y,hm,rfl⟩))]
   obtain ⟨k2,hk2⟩:=List.getElem?_of_mem (List.mem_of_mem_eraseIdx hm)
   exact kfd_at hn hk2
 · by_cases he:k=key x
   · rw [if_pos he]
   · rw [if_neg he]
     refine kfd_no fun y hy hd=>?_
     have h3:key y∈key x :: (l.eraseIdx i).map key:=hpe.mem_iff.1 (List.mem_map.2 ⟨y,hy,rfl⟩)
     rcases List.mem_cons.1 h3 with h3 | h3
     · exact he (hd.symm.trans h3)
     · obtain ⟨q2,hq2,h4⟩:=List.mem_map.1 h3
       exact h q2 hq2 (h4.trans hd)
theorem map_setK {α κ:Type} {key:α→κ} {l:List α} {i:Nat} {x r:α} (hx:l[i]?=some x) (hk:key r=key x):(l.set i r).map key=l.map key:=by
 refine List.ext_getElem? fun j=>?_
 rw [List.getElem?_map,List.getElem?_map]
 by_cases hj:j=i
 · subst hj
   rw [List.getElem?_set_self (List.getElem?_eq_some_iff.1 hx).1,hx]
   show some (key r)=some (key x)
   rw [hk]
 · rw [List.getElem?_set_ne (Ne.symm hj)]
theorem kfd_set {α κ:Type} [DecidableEq κ] {key:α→κ} {l:List α} (hn:(l.map key).Nodup) {i:Nat} {x r:α} (hx:l[i]?=some x) (hk:key r=key x):kfd key (l.set i r)=fun k=>if k=key x then some r else kfd key l k:=by
 obtain ⟨hi,he⟩:=List.getElem?_eq_some_iff.1 hx
 refine kfd_of (fun j y hy=>?_) (fun k h=>?_)
 · by_cases hj:j=i
   · subst hj
     rw [List.getElem?_set_self hi] at hy; cases hy
     rw [if_pos hk]
   · rw [List.getElem?_set_ne (Ne.symm hj)] at hy
     rw [if_neg (fun e=>hj (key_at hn hy hx e))]
     exact kfd_at hn hy
 · have h1:k ≠ key x:=fun e=>h r (List.mem_of_getElem? (List.getElem?_set_self hi)) (hk.trans e.symm)
   rw [if_neg h1]
   refine kfd_no fun y hy hd=>?_
   obtain ⟨j,hj⟩:=List.getElem?_of_mem hy
   by_cases e:j=i
   · subst e
     rw [hx] at hj; cases hj
     exact h1 hd.symm
   · exact h y (List.mem_of_getElem? (by rw [List.getElem?_set_ne (Ne.symm e)]; exact hj)) hd
def choL (c:Cho):List Value:=[.int .i64 c.pc,.int .i64 c.bg,.int .i64 c.ln]
def wisL (x:Wis):List Value:=[.int .i64 x.lv,.int .i64 x.du]
def askL (a:Int × Cho):List Value:=[.int .i64 a.1,.int .i64 a.2.pc,.int .i64 a.2.bg,.int .i64 a.2.ln]
theorem choE:Enc 3 choL:=⟨by decide,fun _=>rfl,fun _=>rfl⟩
theorem wisE:Enc 2 wisL:=⟨by decide,fun _=>rfl,fun _=>rfl⟩
theorem askE:Enc 4 askL:=⟨by decide,fun _=>rfl,fun _=>rfl⟩
def ptV (b:Nat):Value:=.pointer (some ⟨b,0,none⟩)
def bv (b:Bool):Nat:=if b=true then 1 else 0
theorem bv_le (b:Bool):bv b≤1:=by unfold bv; split <;> omega
def fby (l:List Bool) (q:Nat):Nat:=128 * bv (l.getD (8 * q) false)+64 * bv (l.getD (8 * q+1) false)+32 * bv (l.getD (8 * q+2) false)+16 * bv (l.getD (8 * q+3) false)+8 * bv (l.getD (8 * q+4) false)+4 * bv (l.getD (8 * q+5) false)+2 * bv (l.getD (8 * q+6) false)+bv (l.getD (8 * q+7) false)
theorem fby_lt (l:List Bool) (q:Nat):fby l q<256:=by
 have h0:=bv_le (l.getD (8 * q) false); have h1:=bv_le (l.getD (8 * q+1) false); have h2:=bv_le (l.getD (8 * q+2) false); have h3:=bv_le (l.getD (8 * q+3) false)
 have h4:=bv_le (l.getD (8 * q+4) false); have h5:=bv_le (l.getD (8 * q+5) false); have h6:=bv_le (l.getD (8 * q+6) false); have h7:=bv_le (l.getD (8 * q+7) false)
 unfold fby; omega
def fbl (l:List Bool):List Nat:=(List.range ((l.length+7) / 8)).map (fby l)
def fieldS (l:List Bool):ByteArray:=nbS (fbl l)
theorem fbl_len (l:List Bool):(fbl l).length=(l.length+7) / 8:=by unfold fbl; simp
theorem fieldS_size (l:List Bool):(fieldS l).size=(l.length+7) / 8:=by unfold fieldS; rw [nbS_size,fbl_len]
def bMap (l:List Bool):Int→Option Bool:=fun i=>if 0≤i∧bitAt l i=true then some true else none
theorem bMap_get {l:List Bool} {i:Int} (h:0≤i):(bMap l i).getD false=bitAt l i:=by
 unfold bMap
 cases hb:bitAt l i with
 | true=>rw [if_pos ⟨h,rfl⟩]; rfl
 | false=>rw [if_neg (fun h2=>by cases h2.2)]; rfl
theorem bMap_nil (n:Nat):(fun _:Int=>(none:Option Bool))=bMap (List.replicate n false):=by
 funext i
 unfold bMap bitAt
 rw [if_neg]
 rintro ⟨_,h⟩
 rw [List.getD_eq_getElem?_getD,List.getElem?_replicate] at h
 split at h <;> cases h
structure Mt where
 k:Int
 b:Nat
 fld:List Bool
 am:Nat
 alw:List Bool
 sm:Nat
 sug:List Bool
 ch:Bool
 sn:Bool
 ap:Option Addr
 ac:Nat
 asked:List Cho
def Mt.pe (m:Mt):Pee:=⟨m.k,m.fld,m.alw,m.sug,!m.ch,m.sn⟩
def MtI (m:Mt):Item:=Big [Ob m.b (.cells #[.string (fieldS m.fld),.map (some m.am),.map (some m.sm),.bool m.ch,.bool m.sn,.slice m.ap m.asked.length m.ac] 88 (0,0)),Mp (Value.int .i64) Value.bool okI m.am (bMap m.alw),Mp (Value.int .i64) Value.bool okI m.sm (bMap m.sug),Rw 44 3 m.ap m.asked.length m.ac (fl choL m.asked)]
structure Bk where
 pl:Int × Int
 b:Nat
 here:Bool
 ap:Option Addr
 ac:Nat
 asked:List Int
def Bk.v (r:Bk):Bool × List Int:=(r.here,r.asked)
def BkI (r:Bk):Item:=Big [Ob r.b (.cells #[.bool r.here,.slice r.ap r.asked.length r.ac] 103 (0,0)),Rw 3 1 r.ap r.asked.length r.ac (fl intL r.asked)]
def mtM (ms:List Mt):Int→Option Nat:=fun k=>(kfd Mt.k ms k).map Mt.b
def bkM (bs:List Bk):Int × Int→Option Nat:=fun p=>(kfd Bk.pl bs p).map Bk.b
def plK (x:Int × Int):Value:=.agg #[.int .i64 x.1,.int .i64 x.2]
def okP (x:Int × Int):Prop:=okI x.1∧okI x.2
structure XP where
 g:Nat
 hp:Option Addr
 hc:Nat
 wp:Option Addr
 wc:Nat
 mg:Nat
 ms:List Mt
 bg:Nat
 bs:List Bk
def XI (X:XP) (A:PK):Item:=Big [Ob X.g (.cells #[.map (some X.mg),.int .i64 (A.n:Int),.int .i64 (A.pz:Int),.int .i64 (A.la:Int),.string A.seed,.bool A.ino,.slice X.hp A.had.length X.hc,.slice X.wp A.wish.length X.wc,.map (some X.bg)] 85 (0,0)),Rw 4 1 X.hp A.had.length X.hc (fl boolL A.had),Rw 40 2 X.wp A.wish.length X.wc (fl wisL A.wish),Mp (Value.int .i64) ptV okI X.mg (mtM X.ms),Lst MtI X.ms,Mp plK ptV okP X.bg (bkM X.bs),Lst BkI X.bs]
structure XOK (X:XP) (A:PK):Prop where
 ms:X.ms.map Mt.pe=A.peers
 ask:∀ m∈X.ms,m.asked=mine A.asked m.k
 bn:(X.bs.map Bk.pl).Nodup
 bf:∀ p,(kfd Bk.pl X.bs p).map Bk.v=A.ent p
theorem plK_inj {x y:Int × Int} (h:plK x=plK y):x=y:=by
 unfold plK at h
 simp only [Value.agg.injEq] at h
 have h2:=congrArg Array.toList h
 simp only [List.cons.injEq,Value.int.injEq,true_and,and_true] at h2
 exact Prod.ext h2.1 h2.2
theorem laid_out:laidOutB Tryz.prog=true:=by kernel_rfl
theorem place_wide:(match Tryz.prog.underlying 100 with | some (.array _ _) | some (.struct _)=>true | _=>false)=true:=by rw [Tryz.underlying100]
set_option maxRecDepth 100000 in
theorem place_law:Go.WideMaps.KeyLaw Tryz.prog 100:=deep_law_laid laid_out (m:=2) (by omega) (of_decide_eq_true (by kernel_rfl)) (by kernel_rfl) place_wide
theorem cells_place:Tryz.prog.cellsOf 100=2:=by kernel_rfl
theorem cells_3:Tryz.prog.cellsOf 3=1:=by kernel_rfl
theorem size_s:∃ s,Tryz.prog.types.size=s+1:=⟨_,(by kernel_rfl:Tryz.prog.types.size=(Tryz.prog.types.size - 1)+1)⟩
theorem place_key {x:Int × Int} (h:okP x):∃ l,keyOf Tryz.prog 100 (plK x)=some l:=by
 have h1:∀ d (n:Int),okI n→Tryz.prog.keyLits (d+1) 3 [.int .i64 n]=some [.int .i64 n]:=fun d n hn=>by
   simp [Program.keyLits,Tryz.underlying3,okI_wf hn]
 obtain ⟨s,hs⟩:=size_s
 have hk:Tryz.prog.keyType 100=true:=by kernel_rfl
 unfold keyOf
 rw [Tryz.underlying100]
 simp only [hk,Bool.true_and]
 have hf:(plK x).formed Tryz.prog 100=true:=by simp [plK,Value.formed,Tryz.underlying100,cells_place]
 rw [if_pos hf,hs]
 simp [Program.keyLits,Tryz.underlying100,cells_place,cells_3,plK,Value.cells,h1 _ _ h.1,h1 _ _ h.2,okI_wf h.1,okI_wf h.2]
theorem placeT:MapTy Tryz.prog 83 100 98 plK okP:=⟨Tryz.underlying83,.of_law place_law,fun x hx=>place_key hx,fun x y _ _ h=>plK_inj h⟩
def choK (c:Cho):Value:=.agg #[.int .i64 c.pc,.int .i64 c.bg,.int .i64 c.ln]
def okC (c:Cho):Prop:=okI c.pc∧okI c.bg∧okI c.ln
structure Rp where
 k:Int
 fp:Option Addr
 fc:Nat
 fld:List Bool
 ap:Option Addr
 ac:Nat
 alw:List Bool
 sp:Option Addr
 sc:Nat
 sug:List Bool
 un:Bool
 sn:Bool
def Rp.pe (x:Rp):Pee:=⟨x.k,x.fld,x.alw,x.sug,x.un,x.sn⟩
def rpL (x:Rp):List Value:=[.int .i64 x.k,.slice x.fp x.fld.length x.fc,.slice x.ap x.alw.length x.ac,.slice x.sp x.sug.length x.sc,.bool x.un,.bool x.sn]
def RpI (x:Rp):Item:=Big [Rw 4 1 x.fp x.fld.length x.fc (fl boolL x.fld),Rw 4 1 x.ap x.alw.length x.ac (fl boolL x.alw),Rw 4 1 x.sp x.sug.length x.sc (fl boolL x.sug)]
structure ZP where
 g:Nat
 hp:Option Addr
 hc:Nat
 wp:Option Addr
 wc:Nat
 ep:Option Addr
 ec:Nat
 ap:Option Addr
 ac:Nat
 pp:Option Addr
 pc:Nat
 rs:List Rp
def ZI (Z:ZP) (A:PK):Item:=Big [Ob Z.g (.cells #[.int .i64 (A.n:Int),.int .i64 (A.pz:Int),.int .i64 (A.la:Int),.string A.seed,.bool A.ino,.slice Z.hp A.had.length Z.hc,.slice Z.wp A.wish.length Z.wc,.slice Z.ep A.here.length Z.ec,.slice Z.ap A.asked.length Z.ac,.slice Z.pp Z.rs.length Z.pc] 97 (0,0)),Rw 4 1 Z.hp A.had.length Z.hc (fl boolL A.had),Rw 40 2 Z.wp A.wish.length Z.wc (fl wisL A.wish),Rw 44 3 Z.ep A.here.length Z.ec (fl choL A.here),Rw 150 4 Z.ap A.asked.length Z.ac (fl askL A.asked),Rw 125 6 Z.pp Z.rs.length Z.pc (fl rpL Z.rs),Lst RpI Z.rs]
def ZOK (Z:ZP) (A:PK):Prop:=Z.rs.map Rp.pe=A.peers
section
variable {w:World} {L:List Item} {rs:List Rp} {i k:Nat} {x:Rp}
variable {ms:List Mt} {m:Mt} {bs:List Bk} {r:Bk} {c:Nat} {v:Value}
theorem S.mtCell (h:S w L) (hk:L[k]?=some (Lst MtI ms)) (hx:ms[i]?=some m) (hv:(#[.string (fieldS m.fld),.map (some m.am),.map (some m.sm),.bool m.ch,.bool m.sn,.slice m.ap m.asked.length m.ac]:Array Value)[c]?=some v):w.cell? ⟨m.b,c,none⟩=some v:=
 (S.unbig (L:=[_,_,_,_]) (B:=[]) (show S w [MtI m] from h.lstAt hk hx)).cell (k:=0) rfl hv
theorem S.bkCell (h:S w L) (hk:L[k]?=some (Lst BkI bs)) (hx:bs[i]?=some r) (hv:(#[.bool r.here,.slice r.ap r.asked.length r.ac]:Array Value)[c]?=some v):w.cell? ⟨r.b,c,none⟩=some v:=
 (S.unbig (L:=[_,_]) (B:=[]) (show S w [BkI r] from h.lstAt hk hx)).cell (k:=0) rfl hv
theorem S.bkAsk (h:S w L) (hk:L[k]?=some (Lst BkI bs)) (hx:bs[i]?=some r):Reads w r.ap r.asked.length r.ac 1 (fl intL r.asked):=
 (S.unbig (L:=[_,_]) (B:=[]) (show S w [BkI r] from h.lstAt hk hx)).rwReads (k:=1) rfl
theorem S.mtAlw (h:S w L) (hk:L[k]?=some (Lst MtI ms)) (hx:ms[i]?=some m):S w [Mp (Value.int .i64) Value.bool okI m.am (bMap m.alw)]:=
 (S.unbig (L:=[_,_,_,_]) (B:=[]) (show S w [MtI m] from h.lstAt hk hx)).takes [1] (by decide)
theorem S.mtSug (h:S w L) (hk:L[k]?=some (Lst MtI ms)) (hx:ms[i]?=some m):S w [Mp (Value.int .i64) Value.bool okI m.sm (bMap m.sug)]:=
 (S.unbig (L:=[_,_,_,_]) (B:=[]) (show S w [MtI m] from h.lstAt hk hx)).takes [2] (by decide)
end
theorem mtM_some {ms:List Mt} {k:Int} {b:Nat} (h:mtM ms k=some b):∃ (i:Nat) (m:Mt),ms[i]?=some m∧m.k=k∧m.b=b∧kfd Mt.k ms k=some m:=by
 unfold mtM at h
 obtain ⟨m,hm,rfl⟩:=Option.map_eq_some_iff.1 h
 obtain ⟨i,hi,hk⟩:=kfd_some hm
 exact ⟨i,m,hi,hk,rfl,hm⟩
theorem bkM_some {bs:List Bk} {p:Int × Int} {b:Nat} (h:bkM bs p=some b):∃ (i:Nat) (r:Bk),bs[i]?=some r∧r.pl=p∧r.b=b∧kfd Bk.pl bs p=some r:=by
 unfold bkM at h
 obtain ⟨m,hm,rfl⟩:=Option.map_eq_some_iff.1 h
 obtain ⟨i,hi,hk⟩:=kfd_some hm
 exact ⟨i,m,hi,hk,rfl,hm⟩
section
variable {X:XP} {A:PK} (h:XOK X A)
include h
theorem XOK.ks:X.ms.map Mt.k=A.peers.map Pee.k:=by
 rw [← h.ms,List.map_map]; rfl
theorem XOK.at {i:Nat} {m:Mt} (hm:X.ms[i]?=some m):A.peers[i]?=some m.pe:=by
 rw [← h.ms,List.getElem?_map,hm]; rfl
theorem XOK.fnd {k:Int}:(kfd Mt.k X.ms k).map Mt.pe=fndP A.peers k:=by
 unfold fndP kfd
 rw [← h.ms,List.find?_map]; rfl
theorem XOK.free {c:Cho} {i:Int} (hc:c∈A.blocks i):(bkM X.bs c.at).isSome=!A.freeC c:=by
 have h1:=h.bf c.at
 unfold PK.ent at h1
 rw [chAt_at hc] at h1
 unfold bkM
 cases hf:A.freeC c with
 | true =>
   rw [hf,if_pos rfl] at h1
   rw [Option.map_eq_none_iff] at h1
   rw [h1]; rfl
 | false =>
   rw [hf,if_neg (by decide)] at h1
   obtain ⟨r,hr,_⟩:=Option.map_eq_some_iff.1 h1
   rw [hr]; rfl
theorem XOK.ent {c:Cho} {i:Int} (hc:c∈A.blocks i) {r:Bk} (hr:kfd Bk.pl X.bs c.at=some r):r.here=decide (c∈A.here)∧r.asked=ofL A.asked c:=by
 have h1:=h.bf c.at
 unfold PK.ent at h1
 rw [chAt_at hc,hr] at h1
 split at h1
 · cases h1
 · have h1:some (r.here,r.asked)=some (decide (c∈A.here),ofL A.asked c):=h1
   exact ⟨congrArg Prod.fst (Option.some.inj h1),congrArg Prod.snd (Option.some.inj h1)⟩
end
end Go.Proofs.YthmmfhdpkddniaaGreatDoor
namespace Go.Proofs.YthmmfhdpkddniaaGreatDoor
open Go.RowKit
theorem fo44_0:foO Tryz.prog 44 0=some 0:=by kernel_rfl
theorem fo97_0:foO Tryz.prog 97 0=some 0:=by kernel_rfl
theorem inf3:infO Tryz.prog 3=some (some (.int .i64 0),1,8):=by kernel_rfl
theorem inf44:infO Tryz.prog 44=some (some (.agg #[.int .i64 0,.int .i64 0,.int .i64 0]),3,24):=by kernel_rfl
theorem sz44:szO Tryz.prog 44=some 3:=by kernel_rfl
theorem ze3:zeO Tryz.prog 3=some (.int .i64 0):=by kernel_rfl
theorem ze44:zeO Tryz.prog 44=some (.agg #[.int .i64 0,.int .i64 0,.int .i64 0]):=by kernel_rfl
theorem ex_cast {P:Program} {N:Nat} {f:Fr} {ds:List Deferred} {w w':World} {o:Oper} {v v':Value} (h:Ex P N f ds o w v w') (e:v=v'):Ex P N f ds o w v' w':=e ▸ h
theorem no_takeP {α:Type} {P:α→Prop} {l:List α} {k:Nat} {x:α} (h:∀ y∈l.take k,P y) (hx:l[k]?=some x) (hq:P x):∀ y∈l.take (k+1),P y:=fun y hy=>by
 rw [List.take_add_one,hx] at hy
 rcases List.mem_append.1 hy with hy | hy
 · exact h y hy
 · have e:=Option.some.inj (Option.mem_toList.1 hy); rw [← e]; exact hq
theorem at_mem {l:List Int} {j:Nat} {x:Int} (h:l[j]?=some x):x∈l:=List.mem_of_getElem? h
theorem take_snocL {α:Type} {l:List α} {k:Nat} {x:α} (h:l[k]?=some x):l.take (k+1)=l.take k++[x]:=by rw [List.take_add_one,h]; rfl
theorem eqgC:Tryz.prog.eqGuardType Tryz.prog.depth 44=false:=by kernel_rfl
def choA (c:Cho):Array Value:=#[.int .i64 c.pc,.int .i64 c.bg,.int .i64 c.ln]
theorem cho_eql (a b:Cho) (w:World):(binOp .eql 44 (.agg (choA a)) (.agg (choA b))).run Tryz.prog w=.ok (.bool (decide (a=b))) w:=by
 obtain ⟨a1,a2,a3⟩:=a
 obtain ⟨b1,b2,b3⟩:=b
 by_cases h1:a1=b1
 · subst h1
   by_cases h2:a2=b2
   · subst h2
     by_cases h3:a3=b3
     · subst h3; simp [choA,go_sem]
     · simp [choA,go_sem,h3]
   · simp [choA,go_sem,h2]
 · simp [choA,go_sem,h1]
theorem b_choE {xo yo:Operand} {w:World} (a b:Cho):Bin Tryz.prog .eql 44 xo yo (.agg (choA a)) (.agg (choA b)) w (.bool (decide (a=b))):=by
 unfold Bin
 simp only [Sem.run_bind,run_eqGuard_agg w .eql 44 xo yo (choA a) (choA b) eqgC,Result.andThen_ok]
 exact cho_eql a b w
def chkE (A:PK) (k i:Int):Int:=if (k<1∨1000<k)∨(i ≠ -2∧(i<0∨(A.n:Int)≤i)) then 7 else if (fndP A.peers k).isSome=true then 0 else 8
theorem ofL_len (al:AL) (c:Cho):(ofL al c).length≤al.length:=by
 have key:∀ (al:AL) (o:List Int),(al.foldl (stepL c) o).length≤o.length+al.length:=by
   intro al
   induction al with
   | nil=>intro o; exact Nat.le_refl _
   | cons a al ih =>
     intro o
     have h1:=ih (stepL c o a)
     have h2:(stepL c o a).length≤o.length+1:=by
       unfold stepL
       split
       · rw [insK_len]; exact Nat.le_refl _
       · exact Nat.le_succ _
     rw [List.foldl_cons,List.length_cons]; omega
 have:=key al []
 rw [List.length_nil,Nat.zero_add] at this; exact this
theorem mine_len (al:AL) (k:Int):(mine al k).length≤al.length:=by
 unfold mine
 rw [List.length_map]; exact List.length_filter_le _ _
def FindZ (Z:ZP) (k n:Int):Prop:=(∃ (i:Nat) (x:Rp),n=(i:Int)∧Z.rs[i]?=some x∧x.k=k)∨(n=-1∧∀ x∈Z.rs,¬ x.k=k)
theorem FindZ.is {Z:ZP} {A:PK} {k n:Int} (hZ:ZOK Z A) (h0:A.peE k=0) (h:FindZ Z k n):∃ (i:Nat) (x:Rp),n=(i:Int)∧Z.rs[i]?=some x∧x.k=k:=by
 rcases h with h | ⟨_,hn⟩
 · exact h
 · obtain ⟨_,_,i,p,hp,hk,_⟩:=peE_0 h0
   have h1:=List.mem_of_getElem? hp
   rw [← hZ] at h1
   obtain ⟨x,hx,rfl⟩:=List.mem_map.1 h1
   exact absurd hk (hn x hx)
theorem ZOK.at {Z:ZP} {A:PK} (hZ:ZOK Z A) {i:Nat} {x:Rp} (h:Z.rs[i]?=some x):A.peers[i]?=some x.pe:=by
 rw [← hZ,List.getElem?_map,h]; rfl
theorem sz35:szO Tryz.prog 35=some 1:=by kernel_rfl
theorem sz4:szO Tryz.prog 4=some 1:=by kernel_rfl
theorem zero_flB (n:Nat):(Array.replicate n (Value.bool false)).toList=fl boolL (List.replicate n false):=by
 rw [Array.toList_replicate]
 unfold fl
 induction n with
 | zero=>rfl
 | succ n ih=>rw [List.replicate_succ,List.replicate_succ,List.flatMap_cons,← ih]; rfl
theorem s_makeB {P:Program} {N:Nat} {Q:Exit→Act→World→Prop} {f:Fr} {ds:List Deferred} {w:World} {o:Oper} {ops:Array Oper} {L:List Item} {K:Act→World→Prop} {d t e bytes:Nat} {x y:Operand} {kx ky:IntKind} {i j:Int} (n:Nat) (H:S w L) (hw:Wt ops f o) (hd:o.dst=some d) (hN:Nat.blt d N=true) (ho:o.op=.makeSlice t x y) (hx:evo f x=some (.int kx i)) (hy:evo f y=some (.int ky j))
   (hu:P.underlying t=some (.slice e)) (hi:infO P e=some (some (.bool false),1,bytes)) (hn:i=(n:Int)∧j=(n:Int)∧bytes * n≤281474976710656∧n≤4611686018427387904)
   (h:∀ g w',S w' (Rw e 1 (some ⟨g,0,none⟩) (List.replicate n false).length n (fl boolL (List.replicate n false)) :: L)→G N K ((d,.slice (some ⟨g,0,none⟩) (List.replicate n false).length n) :: f) ds w'):G N (StepK P ops Q o K) f ds w:=
 s_make1 n H hw hd hN ho hx hy hu hi rfl ⟨hn.1,hn.2.1,hn.2.2.1,by omega⟩ fun g w' h9=>by
   have h1:=h g w'
   rw [List.length_replicate] at h1
   exact h1 (S.obFl (l:=List.replicate n false) boolE h9 (k:=0) rfl List.length_replicate.symm (by unfold maxLen; omega) (zero_flB n))
theorem erase_filter {ps:List Pee} (hn:(ps.map Pee.k).Nodup) {i:Nat} {p:Pee} (h:ps[i]?=some p):ps.eraseIdx i=ps.filter fun q=>decide (q.k ≠ p.k):=by
 obtain ⟨hi,e⟩:=List.getElem?_eq_some_iff.1 h
 have key:∀ (l:List Pee),(∀ q∈l,q.k ≠ p.k)→l.filter (fun q=>decide (q.k ≠ p.k))=l:=fun l hl=>List.filter_eq_self.2 fun q hq=>decide_eq_true (hl q hq)
 rw [List.eraseIdx_eq_take_drop_succ]
 conv=>rhs; rw [← List.take_append_drop i ps,List.drop_eq_getElem_cons hi,e]
 rw [List.filter_append,List.filter_cons,if_neg (by simp),key _ (fun q hq he=>?_),key _ (fun q hq he=>?_)]
 · obtain ⟨j,hj⟩:=List.getElem?_of_mem hq
   rw [List.getElem?_drop] at hj
   have:=nodup_of hn hj h he
   omega
 · obtain ⟨j,hj⟩:=List.getElem?_of_mem hq
   have hlt:=(List.getElem?_eq_some_iff.1 hj).1
   rw [List.length_take] at hlt
   rw [List.getElem?_take_of_lt (by omega)] at hj
   have:=nodup_of hn hj h he
   omega
theorem ZOK.set {Z:ZP} {A:PK} (hZ:ZOK Z A) (hI:(A.peers.map Pee.k).Nodup) {i:Nat} {x x':Rp} {f:Pee→Pee} (hx:Z.rs[i]?=some x) (hf:x'.pe=f x.pe):(Z.rs.set i x').map Rp.pe=(A.upd x.k f).peers:=by
 have h1:=ZOK.at hZ hx
 have h2:=upd_at hI h1 f
 have h3:(A.upd x.k f).peers=A.peers.set i (f x.pe):=by rw [show x.k=x.pe.k from rfl,h2]
 rw [h3,List.map_set,hf,← hZ]
end Go.Proofs.YthmmfhdpkddniaaGreatDoor
