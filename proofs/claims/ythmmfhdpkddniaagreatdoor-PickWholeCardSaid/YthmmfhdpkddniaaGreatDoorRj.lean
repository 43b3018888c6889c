import Derived.Test.YthmmfhdpkddniaaGreatDoorRd
import Derived.Test.YthmmfhdpkddniaaGreatDoorDr
import Derived.Test.YthmmfhdpkddniaaGreatDoorBl
import Derived.Test.YthmmfhdpkddniaaGreatDoorRc
import Derived.Test.YthmmfhdpkddniaaGreatDoorBo
set_option linter.unusedSimpArgs false
set_option linter.unusedVariables false
namespace Go.Proofs.YthmmfhdpkddniaaGreatDoor
open Go.RowKit
theorem bitAt_at {l:List Bool} {i:Int} {b:Bool} (h:l[i.toNat]?=some b):bitAt l i=b:=by
 unfold bitAt; rw [List.getD_eq_getElem?_getD,h]; rfl
def delW (al:AL) (c:Cho) (l:List Int):AL:=l.foldl (fun al k=>delQ al k fun x=>decide (x∈[c])) al
theorem delW_snoc (al:AL) (c:Cho) (l:List Int) (k:Int):delW al c (l++[k])=delQ (delW al c l) k fun x=>decide (x∈[c]):=by unfold delW; rw [List.foldl_append]; rfl
theorem delW_filter (al:AL) (c:Cho):∀ l:List Int,delW al c l=al.filter fun a=>!(decide (a.1∈l) && decide (a.2=c)):=by
 intro l
 unfold delW
 induction l generalizing al with
 | nil=>exact (List.filter_eq_self.2 fun a _=>by simp).symm
 | cons k l ih =>
   rw [List.foldl_cons,ih]
   unfold delQ
   rw [List.filter_filter]
   refine List.filter_congr fun a _=>?_
   by_cases h1:a.1=k <;> by_cases h2:a.2=c <;> by_cases h3:a.1∈l <;> simp [h1,h2,h3]
theorem delW_all (al:AL) (c:Cho):delW al c (ofL al c)=dropC al c:=by
 rw [delW_filter]
 unfold dropC
 refine List.filter_congr fun a ha=>?_
 by_cases h2:a.2=c
 · have:a.1∈ofL al c:=mem_ofL.2 (by rw [← h2]; exact ha)
   simp [h2,this]
 · simp [h2]
theorem delW_sub (al:AL) (c:Cho) (l:List Int):(delW al c l).Sublist al:=by rw [delW_filter]; exact List.filter_sublist
theorem inf110:infO Tryz.prog 110=some (some (.agg #[.int .i64 0,.int .i64 0,.int .i64 0,.int .i64 0]),4,32):=by kernel_rfl
theorem sz110:szO Tryz.prog 110=some 4:=by kernel_rfl
theorem ze110:zeO Tryz.prog 110=some (.agg #[.int .i64 0,.int .i64 0,.int .i64 0,.int .i64 0]):=by kernel_rfl
def PK.frB (A:PK) (c:Cho):Bool:=!bitAt A.had c.pc && A.freeC c
def PK.parR (A:PK) (i:Int):Bool:=!bitAt A.had i && decide ((A.freeL i).length<(A.blocks i).length)
def PK.freeV (A:PK) (i:Int):List Cho:=if A.inE i=0 then A.freeL i else []
def PK.cntV (A:PK) (i:Int):Int:=if A.inE i=0 then (A.countV i:Int) else 0
theorem had_at {l:List Bool} {n:Nat} {b:Bool} (h:l[n]?=some b):l.getD n false=b:=by rw [List.getD_eq_getElem?_getD,h]; rfl
theorem lv_at {l:List Wis} {n:Nat} {b:Wis} (h:l[n]?=some b):(l.getD n ⟨0,0⟩).lv=b.lv:=by rw [List.getD_eq_getElem?_getD,h]; rfl
theorem du_at {l:List Wis} {n:Nat} {b:Wis} (h:l[n]?=some b):(l.getD n ⟨0,0⟩).du=b.du:=by rw [List.getD_eq_getElem?_getD,h]; rfl
theorem idxs_at {n k:Nat} (h:k<n):(idxs n)[k]?=some (k:Int):=by
 unfold idxs
 rw [List.getElem?_map,List.getElem?_range h]; rfl
def PK.endF (A:PK) (i:Int):Bool:=!A.openB i || (A.blocks i).all fun c=>!A.freeC c
theorem endB_eq (A:PK):A.endB=(idxs A.n).all A.endF:=rfl
theorem left_skip {A:PK} {i:Int} (h:A.openB i=false):A.leftI i=0:=by unfold PK.leftI; rw [h]; rfl
theorem left_go {A:PK} {i:Int} (h:A.openB i=true):A.leftI i=((A.blocks i).filter fun c=>!decide (c∈A.here)).length:=by unfold PK.leftI; rw [if_pos h]
theorem open_had {A:PK} {i:Int} (h:bitAt A.had i=true):A.openB i=false:=by unfold PK.openB; rw [h]; rfl
theorem leftI_le {j:Nat} {A:PK} (h:PKI j A) (i:Int):A.leftI i≤8:=by
 unfold PK.leftI
 split
 · exact Nat.le_trans (List.length_filter_le _ _) (blocks_len h i).2
 · omega
def sumN (A:PK) (k:Nat):Nat:=(((idxs A.n).take k).map A.leftI).sum
theorem sumN_snoc {A:PK} {k:Nat} (h:k<A.n):sumN A (k+1)=sumN A k+A.leftI k:=by
 unfold sumN
 rw [take_snocL (idxs_at h),List.map_append,List.sum_append]; simp
theorem sumN_le {j:Nat} {A:PK} (h:PKI j A):∀ k,k≤A.n→sumN A k≤8 * k
 | 0,_=>Nat.zero_le _
 | k+1,hk=>by
   rw [sumN_snoc (by omega)]
   have:=sumN_le h k (by omega)
   have:=leftI_le h k
   omega
theorem sumN_all (A:PK):sumN A A.n=A.leftN:=by
 unfold sumN PK.leftN
 rw [List.take_of_length_le (by rw [idxs_len]; exact Nat.le_refl _)]
theorem ze40:zeO Tryz.prog 40=some (.agg #[.int .i64 0,.int .i64 0]):=by kernel_rfl
def keysV (A:PK) (p:Pee) (i:Int):List Int:=
 ([b10 (decide (0<A.du i)),A.du i,b10 (A.partB i),b10 (bitAt p.sug i),0 - A.lv i]++if A.ino=true then [] else [(A.countV i:Int),drV A.seed i])++[i]
def lexL:List Int→List Int→Bool
 | a :: l,b :: m=>if a=b then lexL l m else decide (a<b)
 | _,_=>false
theorem lexC_zero (A:PK) (p:Pee) {i k:Int} (h:lexC (A.keys p) i k=0):i=k:=by
 have key:∀ ks:List (Int→Int),lexC (ks++[fun i=>i]) i k=0→i=k:=by
   intro ks
   induction ks with
   | nil =>
     intro h
     have h:(if i - k ≠ 0 then i - k else (0:Int))=0:=h
     split at h <;> omega
   | cons f ks ih =>
     intro h
     have h:(if f i - f k ≠ 0 then f i - f k else lexC (ks++[fun i=>i]) i k)=0:=h
     split at h
     · omega
     · exact ih h
 exact key [_,_,_,_,_,_,_] h
theorem srt_le {c:Int→Int→Int} (h:Wk c) (d:Int) {l:List Int} (hl:l.length<40):(srt d c l).Pairwise fun a b=>c a b≤0:=by
 unfold srt
 rw [List.pairwise_map]
 exact (srtZ_sorted h hl).imp fun {a b} hab=>by
   rcases hab with hab | ⟨hab,_⟩ <;> omega
theorem cand_is {A:PK} {p:Pee} (hn:A.n≤24) {o:List Int} (hp:o.Perm (A.candL p)) (hs:o.Pairwise fun a b=>lexC (A.keys p) a b<0):o=A.cand p:=by
 have W:=lexC_wk (A.keys p)
 have h2:=srt_le W 0 (l:=A.candL p) (by have:=candL_len A p; omega)
 unfold PK.cand
 refine List.Perm.eq_of_pairwise (le:=fun a b=>lexC (A.keys p) a b≤0) (fun a b _ _ h1 h2=>?_) (hs.imp fun h=>by omega) h2 (hp.trans (srt_perm _ _ _).symm)
 have e1:=W.anti a b
 have e2:=W.anti b a
 exact lexC_zero A p (by omega)
theorem FindZ.same {Z:ZP} {A:PK} (hZ:ZOK Z A) (hn:(A.peers.map Pee.k).Nodup) {i:Nat} {x:Rp} {n:Int} (hx:Z.rs[i]?=some x) (h:FindZ Z x.k n):n=(i:Int):=by
 rcases h with ⟨j,y,rfl,hy,hk⟩ | ⟨_,h⟩
 · have:=nodup_of hn (ZOK.at hZ hy) (ZOK.at hZ hx) hk
   rw [this]
 · exact absurd rfl (h x (List.mem_of_getElem? hx))
theorem flat_snoc {α β:Type} {l:List α} {i:Nat} {x:α} (h:l[i]?=some x) (f:α→List β):(l.take (i+1)).flatMap f=(l.take i).flatMap f++f x:=by
 rw [take_snocL h,List.flatMap_append]; simp
theorem take_room {α:Type} {l m:List α} {x:α} {k:Nat} (h:l=m.take k) (hl:l.length<k):l++[x]=(m++[x]).take k:=by
 have hm:m.length<k:=by
   rw [h,List.length_take] at hl; omega
 rw [List.take_of_length_le (by rw [List.length_append]; simp only [List.length_cons,List.length_nil]; omega),h,List.take_of_length_le (by omega)]
theorem filt_t {α:Type} {P:α→Bool} {m:List α} {x:α} (h:P x=true):(m++[x]).filter P=m.filter P++[x]:=by
 rw [List.filter_append,List.filter_cons,if_pos h]; rfl
theorem filt_f {α:Type} {P:α→Bool} {m:List α} {x:α} (h:¬ P x=true):(m++[x]).filter P=m.filter P:=by
 rw [List.filter_append,List.filter_cons,if_neg h]; simp
theorem rowTake {α:Type} {enc:α→List Value} {size e n c k:Nat} {p:Option Addr} {l:List α} {w:World} {L:List Item} (E:Enc size enc) (H:S w (Rw e size p n c (fl enc l) :: L)) (hk:k≤n):S w (Rw e size p k c (fl enc (l.take k)) :: L):=by
 obtain ⟨k1,k2,k3,k4⟩:=H.rw (k:=0) rfl
 have hl:(fl enc (l.take k)).length=k * size:=by
   rw [← E.flTake,List.length_take,k1]; exact Nat.min_eq_left (Nat.mul_le_mul_right _ hk)
 refine H.turn (k:=0) rfl Same.rfl' ⟨hl,by omega,k3,?_⟩ (fun g hg=>⟨.inl hg,H.lt (k:=0) rfl hg⟩)
 rcases k4 with ⟨h1,h2,h3⟩ | ⟨g,o,cur,h1,h2,h3,h4⟩
 · exact .inl ⟨h1,by omega,h3⟩
 · refine .inr ⟨g,o,cur,h1,h2,h3,fun j u hu=>h4 j u ?_⟩
   rw [← E.flTake] at hu
   have hj:=(List.getElem?_eq_some_iff.1 hu).1
   rw [List.length_take] at hj
   rwa [List.getElem?_take_of_lt (by omega)] at hu
def PK.hasFE (A:PK) (k:Int) (s:ByteArray):Int:=if validF (A.n:Int) s=true then A.peE k else 1
def PK.hasFA (A:PK) (k:Int) (s:ByteArray):PK:=if A.hasFE k s=0 then A.upd k (fun p=>{ p with fld:=truthsS A.n s }) else A
theorem PKI.hasF {j:Nat} {A:PK} (h:PKI j A) (k:Int) (s:ByteArray):PKI j (A.hasFA k s):=by
 unfold PK.hasFA
 split
 · exact h.upd k (fun p=>rfl) fun p hp=>by
     have:=h.fl p hp
     exact ⟨truths_len _ _,this.2⟩
 · exact h
def newE (n pz la:Int) (seed:ByteArray):Int:=
 if 100<(seed.size:Int) then 1 else if n<1∨4096<n∨pz<16∨1024<pz∨¬ pz % 16=0∨la<1∨pz<la then 7 else 0
def newPK (n pz la:Nat) (seed:ByteArray) (ino:Bool):PK:=⟨n,pz,la,seed,ino,List.replicate n false,List.replicate n ⟨4,0⟩,[],[],[]⟩
def lightS (n pz:Int):Prop:=(n≤24∨4096<n)∧(pz≤128∨1024<pz)
theorem newE_0 {n pz la:Int} {seed:ByteArray} (h:newE n pz la seed=0) (hl:lightS n pz):1≤n∧n≤24∧16≤pz∧pz≤128∧1≤la∧la≤pz∧seed.size≤100:=by
 unfold newE at h
 unfold lightS at hl
 split at h
 · cases h
 · split at h
   · cases h
   · omega
theorem PKI.new {n pz la:Nat} {seed:ByteArray} {ino:Bool} (h:1≤n∧n≤24∧16≤pz∧pz≤128∧1≤la∧la≤pz∧seed.size≤100):PKI 0 (newPK n pz la seed ino):=by
 obtain ⟨h1,h2,h3,h4,h5,h6,h7⟩:=h
 refine ⟨h1,h2,h3,h4,h5,h6,h7,List.length_replicate,List.length_replicate,fun x hx=>?_,List.nodup_nil,fun p hp=>?_,Nat.zero_le _,fun p hp=>?_,List.nodup_nil,fun p hp=>?_,fun p hp=>?_,Nat.le_refl _,Nat.le_refl _⟩
 · have:=List.eq_of_mem_replicate hx
   subst this
   decide
 all_goals cases hp
end Go.Proofs.YthmmfhdpkddniaaGreatDoor
