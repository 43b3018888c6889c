import Derived.Test.YthmmfhdpkddniaaGreatDoorEk
import Derived.Lib.ConvBytes
import Derived.Deep.Upon
import Derived.Laws.Bits64
import Derived.Maps.Keyed
import Derived.Maps.RangeRun
import Derived.DeepKeys4
set_option linter.all false
namespace Go.Proofs.YthmmfhdpkddniaaGreatDoor
open Go.RowKit
section
variable {P:Program} {w:World} {t:TypeId} {xo yo:Operand}
theorem HF {a:Nat} (h:a≤9223372036854775807):IntKind.i64.wrap (a:Int)=(a:Int):=jD (by omega)
theorem kH {a b:Nat} (h:0<b∧a≤9223372036854775807):iM P .quo t xo yo (.int .i64 (a:Int)) (.int .i64 (b:Int)) w (.int .i64 ((a / b:Nat):Int)):=
 MF (by omega) (by rw [Qq (by omega)]; rfl)
theorem qh {a b:Nat} (h:0<b):iM P .rem t xo yo (.int .i64 (a:Int)) (.int .i64 (b:Int)) w (.int .i64 ((a % b:Nat):Int)):=
 yR (by omega) (by rw [EZ (by omega)]; rfl)
theorem fj {a b:Nat} (h:b≤a∧a≤9223372036854775807):iM P .sub t xo yo (.int .i64 (a:Int)) (.int .i64 (b:Int)) w (.int .i64 ((a - b:Nat):Int)):=
 vj (by rw [jD (by omega)]; omega)
theorem dq {a b:Nat} (h:a+b≤9223372036854775807):iM P .add t xo yo (.int .i64 (a:Int)) (.int .i64 (b:Int)) w (.int .i64 ((a+b:Nat):Int)):=
 dY (by rw [jD (by omega)]; omega)
theorem CB {a b:Nat} (h:a * b≤9223372036854775807):iM P .mul t xo yo (.int .i64 (a:Int)) (.int .i64 (b:Int)) w (.int .i64 ((a * b:Nat):Int)):=
 tO (by rw [← Int.natCast_mul,HF h])
theorem mI {a n:Nat} {k yk:IntKind} (h:n≤k.bits):iM P .shr t xo yo (.int k (a:Int)) (.int yk (n:Int)) w (.int k ((a / 2 ^ n:Nat):Int)):=
 QV (by rw [Nat.min_eq_left h]; exact Int.fdiv_eq_ediv_of_nonneg _ (by exact Int.natCast_nonneg _))
theorem Pt {a:Nat} (h:a<256):iM P .and t xo yo (.int .u8 (a:Int)) (.int .u8 1) w (.int .u8 ((a % 2:Nat):Int)):=by
 refine wP (.inl rfl) ?_
 have e:(BitVec.ofInt IntKind.u8.bits (a:Int) &&& BitVec.ofInt IntKind.u8.bits (1:Int)).toNat=a % 2:=by
   show (BitVec.ofInt 8 (a:Int) &&& BitVec.ofInt 8 ((1:Nat):Int)).toNat=_
   rw [jw,jw,BitVec.toNat_and,BitVec.toNat_ofNat,BitVec.toNat_ofNat,Nat.mod_eq_of_lt (by omega),Nat.mod_eq_of_lt (by omega),Nat.and_one_is_mod]
 simp only [Op.intBits,e]
 rw [Q3 (by omega)]; rfl
theorem MG {a b:Nat} (h:a<256∧b<256):iM P .or t xo yo (.int .u8 (a:Int)) (.int .u8 (b:Int)) w (.int .u8 ((a ||| b:Nat):Int)):=by
 refine wP (.inr (.inl rfl)) ?_
 have h2:a ||| b<2 ^ 8:=Nat.or_lt_two_pow (by omega) (by omega)
 have e:(BitVec.ofInt IntKind.u8.bits (a:Int) ||| BitVec.ofInt IntKind.u8.bits (b:Int)).toNat=a ||| b:=by
   show (BitVec.ofInt 8 (a:Int) ||| BitVec.ofInt 8 (b:Int)).toNat=_
   rw [jw,jw,BitVec.toNat_or,BitVec.toNat_ofNat,BitVec.toNat_ofNat,Nat.mod_eq_of_lt (by omega),Nat.mod_eq_of_lt (by omega)]
 simp only [Op.intBits,e]
 rw [Q3 (by omega)]; rfl
end
section
variable {P:Program} {N:Nat} {Q:Exit→Act→World→Prop} {f:Fr} {ds:List Deferred} {w w':World} {o:Oper} {ops:Array Oper} {L:List aD} {K:Act→World→Prop}
theorem xX (w:World) (e:TypeId) (s:ByteArray):iY (fun g=>g<w.heap.size) w (Lib.bytesWorld w e s):=
 ⟨rfl,rfl,rfl,by rw [Lib.bytesWorld_size]; omega,fun g hg=>Lib.bytesWorld_at_old w e s g hg,Nat.le_succ _⟩
theorem Fo {d sT dT e:Nat} {x:Operand} {s:ByteArray} (H:S w L) (hw:Wt ops f o) (hd:o.dst=some d) (hN:Nat.blt d N=true) (ho:o.op=.convert sT dT x) (hx:cy f x=some (.string s))
   (hs:P.underlying sT=some .string) (hd':P.underlying dT=some (.slice e)) (he:P.underlying e=some (.int .u8))
   (h:∀ g c fr cs w',S w' (Ob g (.cells cs e fr) :: L)→(∀ j,j<s.size→cs[j]?=some (.int .u8 ((s.data.toList.getD j 0).toNat:Nat)))→s.size≤c→G N K ((d,.slice (some ⟨g,0,none⟩) s.size c) :: f) ds w'):G N (bH P ops Q o K) f ds w:=by
 have hrun:=Lib.run_convert_string_bytes (P:=P) w sT dT e s hs hd' he
 have hS:S (Lib.bytesWorld w e s) (Ob w.heap.size (.cells (Lib.bytesCells w e s) e ((Lib.bytesCells w e s).size,(Lib.bytesCells w e s).size+1)) :: L):=by
   refine (H.move (xX w e s)).cons (Lib.bytesWorld_at_new w e s) (fun g hg=>?_) (fun x hx g hg hx'=>?_)
   · rw [Lib.bytesWorld_size]; have hg:g=w.heap.size:=hg; omega
   · have hg:g=w.heap.size:=hg
     have:=(H.1 x hx).2 g hx'
     omega
 exact aJ hw hd hN (fH (x:=convert sT dT (.string s)) (fun a ha=>by unfold execOp; simp only [ho,ha.eval hx]) hrun)
   (h _ _ _ _ _ hS (fun j hj=>by
     simp only [Lib.bytesCells]
     rw [Array.getElem?_append_left (by simpa using hj)]
     simp [List.getD,hj]) (grownCap_ge w s.size 0 e))
theorem jT {t e size n c j:Nat} {x y:Operand} {p:Option Addr} {xs:List Value} {v:Value} (H:S w L) (k:Nat) (hw:Wt ops f o) (hd:o.dst=none) (ho:o.op=.store t x y) (hx:cy f x=some (.pointer (p.map fun q=>q.add (j * size))))
   (hy:cy f y=some v) (hk:L[k]?=some (Rw e size p n c xs)) (hn:jW P t=some v.cells.size) (hv:v.cells.size=size) (h1:v.cells.toList.all (·.oneCell')=true) (hj:j<n)
   (h:∀ w',S w' (L.set k (Rw e size p n c (xs.take (j * size)++v.cells.toList++xs.drop (j * size+size))))→G N K f ds w'):G N (bH P ops Q o K) f ds w:=by
 obtain ⟨k1,k2,k3,k4⟩:=H.rw hk
 rcases k4 with ⟨_,h0,_⟩ | ⟨g,off,cur,rfl,hg,hcs,hc⟩
 · omega
 have hjs:j * size+size≤n * size:=by
   have:(j+1) * size≤n * size:=Nat.mul_le_mul_right _ hj
   rw [Nat.add_mul,Nat.one_mul] at this; exact this
 have hns:n * size≤c * size:=Nat.mul_le_mul_right _ k2
 have hr:=oW (P:=P) (t:=t) (g:=g) (i:=off+j * size) (v:=v) hg hn (by omega) (List.all_eq_true.1 h1)
 rw [hv] at hr
 have ha:(Option.map (fun q:Addr=>q.add (j * size)) (some ⟨g,off,none⟩))=some ⟨g,off+j * size,none⟩:=by rw [Option.map_some,iL]
 rw [ha] at hx
 have hvl:v.cells.toList.length=size:=by simpa using hv
 have hcl:cur.toList.length=cur.size:=by simp
 have hlt:g<w.heap.size:=(Array.getElem?_eq_some_iff.1 hg).1
 refine uJ hw hd (nQ ho hx hy hr) (h _ (H.turn hk ((kn w g _).less fun b hb he=>hb.2 ⟨off,by rw [he]⟩) ⟨?_,k2,k3,.inr ⟨g,off,_,rfl,by simp only [World.setRow,Array.getElem?_modify,if_true,hg,Option.map_some]; rfl,?_,fun i u hu=>?_⟩⟩ (fun b hb=>⟨.inl hb,?_⟩)))
 · simp only [List.length_append,List.length_take,List.length_drop,hvl,k1]; omega
 · simp only [List.size_toArray,List.length_append,List.length_take,List.length_drop,hvl,hcl]; omega
 · simp only [List.getElem?_toArray]
   rw [List.append_assoc,List.getElem?_append] at hu ⊢
   simp only [List.length_take,k1,hcl] at hu ⊢
   rw [Nat.min_eq_left (by omega)] at hu ⊢
   by_cases hi:i<j * size
   · rw [if_pos hi,List.getElem?_take,if_pos hi] at hu
     rw [if_pos (by omega),List.getElem?_take,if_pos (by omega),Array.getElem?_toList]
     exact hc i u hu
   rw [if_neg hi,List.getElem?_append,hvl] at hu
   rw [if_neg (by omega),List.getElem?_append,hvl,show off+i - (off+j * size)=i - j * size from by omega]
   by_cases hi2:i - j * size<size
   · rw [if_pos hi2] at hu ⊢; exact hu
   rw [if_neg hi2,List.getElem?_drop] at hu ⊢
   have hu':=hc _ u hu
   rw [Array.getElem?_toList]
   rw [show off+j * size+size+(i - j * size - size)=off+(j * size+size+(i - j * size - size)) from by omega]; exact hu'
 exact Nat.lt_of_lt_of_le (H.lt hk hb) (by simp [World.setRow])
end
end Go.Proofs.YthmmfhdpkddniaaGreatDoor
namespace Go.Proofs.YthmmfhdpkddniaaGreatDoor
open Go.RowKit Go.Deep
section
variable {P:Program} {N:Nat} {Q:Exit→Act→World→Prop} {f:Fr} {ds:List Deferred} {w w':World} {o:Oper} {ops:Array Oper} {L:List aD} {K:Act→World→Prop}
theorem S.obRw {k g e size n:Nat} {cs:Array Value} (h:S w L) (hk:L[k]?=some (Ob g (.cells cs e (0,0)))) (hn:cs.size=n * size) (hm:n≤maxLen):S w (L.set k (Rw e size (some ⟨g,0,none⟩) n n cs.toList)):=
 h.turn hk iY.rfl' ⟨by simpa using hn,Nat.le_refl _,hm,.inr ⟨g,0,cs,rfl,h.ob hk,by omega,fun j u hu=>by rw [Nat.zero_add]; simpa using hu⟩⟩ (fun b hb=>by
   obtain ⟨x,hx⟩:=hb
   cases hx
   exact ⟨.inl rfl,(Array.getElem?_eq_some_iff.1 (h.ob hk)).1⟩)
theorem rZ {α:Type}:∀ {l:List α} {k:Nat} {x:α},l[k]?=some x→l.set k x=l
 | [],_,_,h=>by simp at h
 | a :: l,0,x,h=>by simp at h; simp [h]
 | a :: l,k+1,x,h=>by
   have h:l[k]?=some x:=by simpa using h
   simp [rZ h]
theorem y_ {d t e size bytes n m c sc:Nat} {s x:Operand} {z:Value} {xs news:List Value} {p q:Option Addr} (H:S w L) (k:Nat) (hw:Wt ops f o) (hd:o.dst=some d) (hN:Nat.blt d N=true)
   (ho:o.op=.call { callee:=.builtin .append,args:=#[s,x],argTypes:=#[t,t] }) (hs:cy f s=some (.slice p n sc)) (hx:cy f x=some (.slice q m c)) (hk:L[k]?=some (Rw e size p n sc xs))
   (ht:P.underlying t=some (.slice e)) (hi:kf P e=some (some z,size,bytes)) (hz:z.cells.size=size) (hsz:0<size) (hb0:0<bytes) (hr:bz w q m c size news) (h1:news.all (·.oneCell')=true)
   (hb:(n+m) * bytes≤140737488355328)
   (h:∀ p' c' w',S w' (L.set k (Rw e size p' (n+m) c' (xs++news)))→G N K ((d,.slice p' (n+m) c') :: f) ds w'):G N (bH P ops Q o K) f ds w:=by
 by_cases hm:0<m
 · obtain ⟨k1,k2,k3⟩:=hr
   obtain ⟨ad,rfl,hc⟩:=k3 hm
   exact nH H k hw hd hN ho hs hx hk ht hi hz hsz hb0 k1 hm hc h1 hb h
 · obtain rfl:m=0:=by omega
   obtain ⟨k1,k2,k3⟩:=hr
   have hn0:news=[]:=List.eq_nil_of_length_eq_zero (by rw [k1,Nat.zero_mul])
   subst hn0
   obtain ⟨i,hi1,hi2,hi3,hi4⟩:=zU hi
   obtain ⟨r1,r2,r3,r4⟩:=H.rw hk
   have hrun:(Builtin.append_ #[t,t] o.type #[.slice p n sc,.slice q 0 c]).run P w=.ok (.slice p n sc) w:=by
     cases p <;> cases q <;> simp [Builtin.append_,run_underlying ht,sizeOf,typeInfo,hi1,Builtin.lenOf,Builtin.firstCells,loadCells,loadCellsFrom,storeCells,r2]
   have hS:S w (L.set k (Rw e size p (n+0) sc (xs++[]))):=by
     rw [Nat.add_zero,List.append_nil,rZ hk]; exact H
   exact aJ hw hd hN (fW (vs:=[.slice p n sc,.slice q 0 c]) ho (by simp only [Array.toList,rj,hs,hx]) (fun cs=>by
     simp only [builtin,Sem.run_bind,hrun,Result.andThen_ok,Sem.run_pure,Nat.add_zero])) (h p sc w hS)
theorem mL {d t e size:Nat} (H:S w L) (hw:Wt ops f o) (hd:o.dst=some d) (hN:Nat.blt d N=true) (ho:o.op=.buildSlice t 0 #[])
   (hu:P.underlying t=some (.slice e)) (hz:jW P e=some size)
   (h:∀ g w',S w' (Ob g (.cells #[] e (0,0)) :: L)→G N K ((d,.slice (some ⟨g,0,none⟩) 0 0) :: f) ds w'):G N (bH P ops Q o K) f ds w:=
 yO (v:=fun g=>.slice (some ⟨g,0,none⟩) 0 0) H hw hd hN (fun a ha=>by
   unfold execOp
   have h2:¬ (0 * size > 2 ^ 24):=by omega
   have h3:0 * size=0:=by omega
   simp only [ho,Instr.buildSlice,Sem.run_bind,run_underlying hu,Result.andThen_ok,iZ hz,if_neg h2,if_pos h3,Sem.run_pure]
   rw [h3]
   simp [Instr.fill,newRow,newObj,go_sem]
   rfl) h
end
end Go.Proofs.YthmmfhdpkddniaaGreatDoor
namespace Go.Proofs.YthmmfhdpkddniaaGreatDoor
open Go.RowKit
section
variable {P:Program} {w:World} {t:TypeId} {xo yo:Operand}
theorem kK {a:Nat} (h:a<18446744073709551616):IntKind.u64.wrap (a:Int)=(a:Int):=by rw [IntKind.wrap_u64]; omega
theorem GR (a:Nat):IntKind.u64.wrap (a:Int)=((a % 18446744073709551616:Nat):Int):=by rw [IntKind.wrap_u64]; omega
theorem Ml (a:Nat):IntKind.u8.wrap (a:Int)=((a % 256:Nat):Int):=by rw [IntKind.wrap_u8]; omega
theorem oC (a b:Nat):iM P .mul t xo yo (.int .u64 (a:Int)) (.int .u64 (b:Int)) w (.int .u64 ((a * b % 18446744073709551616:Nat):Int)):=
 tO (by rw [← Int.natCast_mul,GR])
theorem CE (a b:Nat):iM P .add t xo yo (.int .u64 (a:Int)) (.int .u64 (b:Int)) w (.int .u64 (((a+b) % 18446744073709551616:Nat):Int)):=
 dY (by rw [← Int.natCast_add,GR])
theorem Cz {a b:Nat} (h:0<b∧a<18446744073709551616):iM P .quo t xo yo (.int .u64 (a:Int)) (.int .u64 (b:Int)) w (.int .u64 ((a / b:Nat):Int)):=
 MF (by omega) (by
   have h1:a / b≤a:=Nat.div_le_self _ _
   rw [Int.tdiv_eq_ediv_of_nonneg (Int.natCast_nonneg a),← Int.natCast_ediv,kK (by omega)])
theorem Cy {a b:Nat} (h:0<b):iM P .rem t xo yo (.int .u64 (a:Int)) (.int .u64 (b:Int)) w (.int .u64 ((a % b:Nat):Int)):=
 yR (by omega) (by rw [EZ (by omega)]; rfl)
theorem qg {a b:Nat} (h:a<18446744073709551616∧b<18446744073709551616):iM P .xor t xo yo (.int .u64 (a:Int)) (.int .u64 (b:Int)) w (.int .u64 ((a ^^^ b:Nat):Int)):=by
 refine wP (.inr (.inr (.inl rfl))) ?_
 have h2:a ^^^ b<2 ^ 64:=Nat.xor_lt_two_pow (by omega) (by omega)
 have e:(BitVec.ofInt IntKind.u64.bits (a:Int) ^^^ BitVec.ofInt IntKind.u64.bits (b:Int)).toNat=a ^^^ b:=by
   show (BitVec.ofInt 64 (a:Int) ^^^ BitVec.ofInt 64 (b:Int)).toNat=_
   rw [jw,jw,BitVec.toNat_xor,BitVec.toNat_ofNat,BitVec.toNat_ofNat,Nat.mod_eq_of_lt (by omega),Nat.mod_eq_of_lt (by omega)]
 simp only [Op.intBits,e]
 rw [kK (by omega)]; rfl
end
section
variable {P:Program} {N:Nat} {f:Fr} {ds:List Deferred} {w:World} {o:Oper}
theorem AV {t e:TypeId} {len:Nat} {d:TypeDesc} {x y:Operand} {cs:Array Value} {k:IntKind} {i:Int} {v:Value} (j:Nat) (ho:o.op=.index t x y) (hx:cy f x=some (.agg cs)) (hy:cy f y=some (.int k i)) (hu:P.underlying t=some (.array len e)) (hz:jW P e=some 1) (he:P.underlying e=some d) (hd:jF d=false)
   (hb:i=(j:Int)∧j<len) (hv:cs[j]?=some v):Ex P N f ds o w v w:=
 fH (x:=Instr.index t (.agg cs) (.int k i)) (fun a ha=>by unfold execOp; simp only [ho,ha.eval hx,ha.eval hy]) (by
   obtain ⟨rfl,hj⟩:=hb
   unfold Instr.index
   simp only [asIntOf,Sem.run_bind,Sem.run_pure,Result.andThen_ok,run_underlying hu]
   have:(0:Int)≤(j:Int)∧(j:Int)<(len:Int):=by omega
   simp only [if_pos this,Sem.run_bind,iZ hz,Result.andThen_ok,Int.toNat_natCast,Nat.mul_one]
   exact za he hd hv)
theorem AW {s d e n c:Nat} {x:Operand} {p:Option Addr} {l:List UInt8} (ho:o.op=.convert s d x) (hx:cy f x=some (.slice p n c)) (hs:P.underlying s=some (.slice e)) (hd:P.underlying d=some .string) (he:P.underlying e=some (.int .u8))
   (hr:bz w p n c 1 (fM l)) (hl:l.length=n):Ex P N f ds o w (.string ⟨l.toArray⟩) w:=by
 obtain ⟨k1,k2,k3⟩:=hr
 cases p with
 | none =>
   have hn:n=0:=by
     rcases Nat.eq_zero_or_pos n with h | h
     · exact h
     · obtain ⟨a,ha,_⟩:=k3 h; cases ha
   have H2:l=[]:=List.eq_nil_of_length_eq_zero (by omega)
   subst H2
   exact Hv ho hx hs hd he
 | some a =>
   refine oG ho hx hs hd he hl (fun j u hu=>?_)
   have hj:=(List.getElem?_eq_some_iff.1 hu).1
   have:0<n:=by omega
   obtain ⟨a',ha,hc⟩:=k3 this
   cases ha
   exact hc j u hu
end
section
variable {P:Program} {w:World} {t:TypeId} {xo yo:Operand}
theorem Pp {a n:Nat} {y:Int} {k yk:IntKind} (hy:y=(n:Int)) (h:n≤k.bits):iM P .shr t xo yo (.int k (a:Int)) (.int yk y) w (.int k ((a / 2 ^ n:Nat):Int)):=by
 subst hy; exact mI h
end
def fN (L:List aD):aD:=⟨aT L,fun w=>S w L,fun {w w'} h k =>
 ⟨fun it hit=>⟨it.loc (h.less fun g hg=>⟨it,hit,hg⟩) (k.1 it hit).1,fun g hg=>Nat.lt_of_lt_of_le ((k.1 it hit).2 g hg) h.size⟩,k.2⟩⟩
theorem S.big {w:World} {L B:List aD} (h:S w (L++B)):S w (fN L :: B):=by
 have hp:=List.pairwise_append.1 h.2
 have hB:S w B:=⟨fun it hit=>h.1 it (List.mem_append_right _ hit),hp.2.1⟩
 have hL:S w L:=⟨fun it hit=>h.1 it (List.mem_append_left _ hit),hp.1⟩
 refine hB.cons hL ?_ ?_
 · rintro g ⟨it,hit,hg⟩; exact (hL.1 it hit).2 g hg
 rintro x hx g ⟨it,hit,hg⟩ hx'
 exact hp.2.2 it hit x hx g hg hx'
theorem S.unbig {w:World} {L B:List aD} (h:S w (fN L :: B)):S w (L++B):=by
 obtain ⟨h1,_,h3⟩:=h.head
 have hL:S w L:=h1
 have hB:=h.tail
 refine ⟨fun it hit=>?_,List.pairwise_append.2 ⟨hL.2,hB.2,fun a ha b hb g hga hgb=>h3 b hb g ⟨a,ha,hga⟩ hgb⟩⟩
 rcases List.mem_append.1 hit with hit | hit
 · exact hL.1 it hit
 exact hB.1 it hit
def SH {α:Type} (n:Nat) (P:Program) (g:Nat) (lb:Array Value) (encs:α→Array Value) (base:aD) (Φ:List α→α→aD→Prop) (Ok S' Sp:List α→Prop) (I0:aD):Prop:=
 ∀ (l:Nat) (J Jx:List α→aD→Prop) (W:World) (C:aD),(∀ pre C,J pre C→Ok pre) →
   (∀ pre x W1 I C,J pre C→Φ pre x I→S W1 [base,I,C]→YieldAt (WF none) (n - 1) P l (encs x) W1 fun e W' =>
     (e=.returned (.bool true)∧∃ C',J (pre++[x]) C'∧S W' [base,I,C'])∨(e=.returned (.bool false)∧∃ C',Jx (pre++[x]) C'∧S W' [base,I,C'])) →
   J [] C→S W [base,I0,C] →
   CallsIn (WF none) n P g (#[.func (.yield l) #[] #[]]++lb) W fun e W'=>(∃ v,e=.returned v)∧((∃ xs C,S' xs∧J xs C∧S W' [base,C])∨(∃ pre C,Sp pre∧Jx pre C∧S W' [base,C]))
def Sk {α:Type} (J Jx:List α→List aD→Prop) (base I K:aD) (xs:List α):Exit→Act→World→Prop
 | .normal,_,W=>∃ Lx,J xs Lx∧S W (base :: I :: K :: Lx)
 | .ret,_,W=>∃ Lx,Jx xs Lx∧S W (base :: I :: K :: Lx)
 | _,_,_=>False
section
variable {P:Program} {N:Nat} {Q:Exit→Act→World→Prop} {f:Fr} {ds:List Deferred} {w:World} {n:Nat} {ops:Array Oper} {rest:List Oper} {o:Oper} {L:List aD}
def Q7 (N:Nat) (FA:Fr) (L:List aD) (a:Act) (w:World):Prop:=jX N a FA []∧S w L
theorem S.putObj {D:Nat} {k:Nat} {o o':Obj} (H:S w L) (hk:L[k]?=some (Ob D o)):S (w.putObj D o') (L.set k (Ob D o')):=
 H.write hk (kq w D o') (World.putObj_heap_same (Array.getElem?_eq_some_iff.1 (H.ob hk)).1)
def jc (Ds:List Nat):aD:=⟨fun g=>g∈Ds,fun w=>Ds.Nodup∧∀ D∈Ds,w.heap[D]?=some (.deferred (some [])),fun {w w'} h k=>⟨k.1,fun D hD=>(h.block D hD).trans (k.2 D hD)⟩⟩
theorem S.nilMarks (H:S w L):S w (jc [] :: L):=H.cons ⟨.nil,fun _ h=>by cases h⟩ (fun g hg=>by cases hg) (fun _ _ g hg=>by cases hg)
theorem S.consMark {D k:Nat} {Ds:List Nat} (H:S w (Ob D (.deferred (some [])) :: L)) (hk:L[k]?=some (jc Ds)):S w (L.set k (jc (D :: Ds))):=by
 obtain ⟨h1,h2,h3⟩:=H.head
 have hm:jc Ds∈L:=List.mem_of_getElem? hk
 have hM:Ds.Nodup∧∀ D∈Ds,w.heap[D]?=some (.deferred (some [])):=(H.tail.1 _ hm).1
 have hnD:D ∉ Ds:=fun h=>h3 _ hm D rfl h
 refine ⟨fun it hit=>?_,?_⟩
 · rcases Bc hit with rfl | ⟨j,hj,hx⟩
   · refine ⟨⟨List.nodup_cons.2 ⟨hnD,hM.1⟩,fun x hx=>?_⟩,fun g hg=>?_⟩
     · rcases List.mem_cons.1 hx with rfl | hx
       · exact h1
       exact hM.2 x hx
     rcases List.mem_cons.1 hg with rfl | hg
     · exact h2 _ rfl
     exact (H.tail.1 _ hm).2 g hg
   exact H.tail.1 _ (List.mem_of_getElem? hx)
 rw [List.pairwise_iff_getElem]
 intro i j hi hj hlt g hg hg'
 rw [List.length_set] at hi hj
 rw [List.getElem_set] at hg hg'
 have hp:=List.pairwise_iff_getElem.1 H.tail.2
 have H3:k<L.length:=(List.getElem?_eq_some_iff.1 hk).1
 have H2:L[k]=jc Ds:=(List.getElem?_eq_some_iff.1 hk).2
 split at hg
 · split at hg'
   · omega
   rename_i e1 e2
   subst e1
   rcases List.mem_cons.1 hg with e | hg
   · exact h3 _ (List.getElem_mem hj) g e hg'
   exact hp k j hi hj hlt g (by rw [H2]; exact hg) hg'
 split at hg'
 · rename_i e1 e2
   subst e2
   rcases List.mem_cons.1 hg' with e | hg'
   · exact h3 _ (List.getElem_mem hi) g e hg
   exact hp i k hi hj hlt g hg (by rw [H2]; exact hg')
 exact hp i j hi hj hlt g hg hg'
theorem uC {fn:Func} {R:Ending→World→Prop} {tmps:Array Value} (h:∀ w',S w' L→LeavesInM (WF none) n P fn tmps R [] .returning w'):∀ (Ds:List Nat) (w:World),S w (jc Ds :: L)→LeavesInM (WF none) n P fn tmps R (Ds.map vX) .returning w
 | [],w,H=>h w H.tail
 | D :: Ds,w,H=>by
   obtain ⟨⟨h1,h2⟩,h3,h4⟩:=H.head
   have hD:=h2 D (by simp)
   have hn:=List.nodup_cons.1 h1
   have hlt:D<w.heap.size:=h3 D (List.mem_cons_self ..)
   have hS:S (w.putObj D (.deferred none)) (jc Ds :: L):=by
     have:=H.turn (k:=0) (it':=jc Ds) rfl ((kq w D (.deferred none)).less fun g hg e=>hg.2 (by subst e; exact List.mem_cons_self ..)) ⟨hn.2,fun x hx=>by
       have:x ≠ D:=fun e=>hn.1 (e ▸ hx)
       exact (World.putObj_heap_other this).trans (h2 x (List.mem_cons_of_mem _ hx))⟩ (fun g hg=>⟨.inl (List.mem_cons_of_mem _ hg),by
         have:=h3 g (List.mem_cons_of_mem _ hg)
         exact Nat.lt_of_lt_of_le this (kq w D (.deferred none)).size⟩)
     exact this
   exact ⟨by simp,.inl ⟨D,_,rfl,run_takeDeferred hD,uC h Ds _ hS⟩⟩
theorem lx {fn:Func} {R:Ending→World→Prop} {Ds:List Nat} (H:S w (jc Ds :: L)) (rs:List ResultVar) (vs:List Value) (hr:fn.results=rs.toArray) (h:∀ w',S w' L→pg P f w' rs vs∧R (.returned (dQ vs)) w') :
   G N (bodyPostM (WF none) n P fn R .ret) f (Ds.map vX) w:=fun a ha=>by
 show LeavesInM (WF none) n P fn a.tmps R a.defers .returning w
 rw [ha.defers]
 exact uC (fun w' hw=>by obtain ⟨h1,h2⟩:=h w' hw; exact ⟨_,jB ha hr h1,h2⟩) Ds w H
theorem vL {ι:Type} {r:Option Nat} {c:Code} (F:ι→Fr) (DS:ι→List Deferred) (I:ι→World→Prop) (μ:ι→Nat) (i0:ι) (hs:sub (F i0) f) (hd:DS i0=ds) (h0:I i0 w)
   (round:∀ i w,I i w→G N (c.wpIn (WF r) n P (Exit.then (fun a' w'=>∃ j,(jX N a' (F j) (DS j)∧I j w')∧μ j<μ i) Q)) (F i) (DS i) w):G N ((Code.loop c).wpIn (WF r) n P Q) f ds w:=fun a ha =>
 R.loop_ix (fun i a w=>jX N a (F i) (DS i)∧I i w) μ i0 ⟨by rw [hd]; exact ha.weak hs,h0⟩ (fun i a w ⟨h1,h2⟩=>round i w h2 a h1)
theorem nw {ι:Type} {F:ι→Fr} {DS:ι→List Deferred} {I:ι→World→Prop} {μ:ι→Nat} {i:ι} (j:ι) (hs:sub (F j) f) (hd:DS j=ds) (h:I j w) (hμ:μ j<μ i) :
   G N (fun a' w'=>∃ j,(jX N a' (F j) (DS j)∧I j w')∧μ j<μ i) f ds w:=fun _ ha=>⟨j,⟨by rw [hd]; exact ha.weak hs,h⟩,hμ⟩
end
section
variable {P:Program} {N:Nat} {f:Fr} {ds:List Deferred} {w:World} {o:Oper}
theorem ui {t e size n c:Nat} {p:Option Addr} {x y2:Operand} {k2:IntKind} {i2:Int} (h:Nat) (ho:o.op=.slice t x none (some y2) none) (hx:cy f x=some (.slice p n c)) (h2:cy f y2=some (.int k2 i2))
   (hu:P.underlying t=some (.slice e)) (hz:jW P e=some size) (hb:i2=(h:Int)∧h≤c) :
   Ex P N f ds o w (.slice (kA p 0 c size) h c) w:=
 fH (x:=Instr.sliceAt t (.slice p n c) none (some (.int k2 i2)) none) (fun a ha=>by unfold execOp; simp only [ho,ha.eval hx,ha.eval h2,Option.map_some,Option.map_none]) (by
   obtain ⟨rfl,q2⟩:=hb
   have hel:P.elem t=e:=by unfold Program.elem; rw [hu]
   have hu':P.underlying t=some (.slice (P.elem t)):=by rw [hel]; exact hu
   rw [run_sliceAt_slice (P:=P) w t _ _ _ _ hu',run_slice_h (P:=P) w t p n c hu' k2 (h:Int) (by omega) (by omega),hel,iZ hz]
   simp only [Result.andThen_ok,sliced,kA,Int.toNat_natCast,Nat.sub_zero])
theorem bz.cut {p:Option Addr} {n c size:Nat} {xs:List Value} (hr:bz w p n c size xs) (l h:Nat) (hl:l≤h) (hh:h≤n):bz w (kA p l c size) (h - l) (c - l) size ((xs.drop (l * size)).take ((h - l) * size)):=by
 obtain ⟨k1,k2,k3⟩:=hr
 have hx:h * size≤n * size:=Nat.mul_le_mul_right _ hh
 refine ⟨?_,by omega,fun h0=>?_⟩
 · rw [List.length_take,List.length_drop,k1,Nat.sub_mul]; omega
 obtain ⟨a,rfl,hc⟩:=k3 (by omega)
 refine ⟨a.add (l * size),?_,fun j u hu=>?_⟩
 · unfold kA; rw [if_neg (by omega)]; rfl
 rw [qz]
 refine hc _ _ ?_
 have hj:=(List.getElem?_eq_some_iff.1 hu).1
 rw [List.length_take] at hj
 rw [List.getElem?_take_of_lt (by omega),List.getElem?_drop] at hu
 exact hu
end
structure Ro (α:Type) where
 p:Option Addr
 c:Nat
 l:List α
def Sv {α:Type} (r:Ro α):Value:=.slice r.p r.l.length r.c
def SO {α:Type} (rs:List (Ro α)):List Value:=rs.map Sv
def PL {α:Type} (e size:Nat) (enc:α→List Value) (r:Ro α):aD:=Rw e size r.p r.l.length r.c (r.l.flatMap enc)
def p_ {α:Type} (e size:Nat) (enc:α→List Value) (rs:List (Ro α)):aD:=fN (rs.map (PL e size enc))
theorem S.rowsNil {w:World} {L:List aD} {α:Type} {e size:Nat} {enc:α→List Value} (h:S w L):S w (p_ e size enc [] :: L):=h.cons (show S w [] from S.nil w) (fun g hg=>by obtain ⟨_,h,_⟩:=hg; cases h) (fun _ _ g hg=>by obtain ⟨_,h,_⟩:=hg; cases h)
theorem S.rowsSnoc {w:World} {L:List aD} {α:Type} {e size:Nat} {enc:α→List Value} {rs:List (Ro α)} {r:Ro α} (h:S w (p_ e size enc rs :: PL e size enc r :: L)):S w (p_ e size enc (rs++[r]) :: L):=by
 have h1:S w ((rs.map (PL e size enc)++[PL e size enc r])++L):=by rw [List.append_assoc]; exact h.unbig
 have h2:=h1.big
 unfold p_
 rw [List.map_append]; exact h2
theorem Fv {w:World} {α:Type} {e size:Nat} {enc:α→List Value} {rs:List (Ro α)} {r:Ro α} {j:Nat} (h:(p_ e size enc rs).ok w) (hj:rs[j]?=some r):bz w r.p r.l.length r.c size (r.l.flatMap enc):=
 S.rwReads (k:=j) (show S w (rs.map (PL e size enc)) from h) (by rw [List.getElem?_map,hj]; rfl)
open Go.Maps (Keyed)
open Go.ChangeMaps (setBlock)
section
variable {κ α:Type}
structure rP (P:Program) (t k e:TypeId) (ek:κ→Value) (ok:κ→Prop):Prop where
 ht:P.underlying t=some (.map k e)
 K:Keyed P k
 key:∀ x,ok x→∃ l,keyOf P k (ek x)=some l
 inj:∀ x y,ok x→ok y→ek x=ek y→x=y
structure KV (ek:κ→Value) (va:α→Value) (ok:κ→Prop) (M:κ→Option α) (es:Array MapEntry) (c:Nat) (kv:List (κ × α)):Prop where
 same:es.toList.map (fun e=>(e.key,e.val))=kv.map (fun p=>(ek p.1,va p.2))
 nodup:(kv.map Prod.fst).Nodup
 oks:∀ p∈kv,ok p.1
 born:(es.toList.map (·.born)).Nodup
 old:∀ e∈es.toList,e.born<c
 is:∀ p:κ × α,p∈kv ↔ (ok p.1∧M p.1=some p.2)
def Mp (ek:κ→Value) (va:α→Value) (ok:κ→Prop) (g:Nat) (M:κ→Option α):aD:=
 ⟨fun j=>j=g,fun w=>∃ es c kv,w.heap[g]?=some (.map es c)∧KV ek va ok M es c kv,fun h k=>by
   obtain ⟨es,c,kv,h1,h2⟩:=k
   exact ⟨es,c,kv,(h.block g rfl).trans h1,h2⟩⟩
variable {ek:κ→Value} {va:α→Value} {ok:κ→Prop} {M:κ→Option α} {es:Array MapEntry} {c:Nat} {kv:List (κ × α)}
theorem KV.at (h:KV ek va ok M es c kv) {j:Nat} {e:MapEntry} (he:es.toList[j]?=some e):∃ p,kv[j]?=some p∧e.key=ek p.1∧e.val=va p.2:=by
 have h1:(es.toList.map (fun e=>(e.key,e.val)))[j]?=some (e.key,e.val):=by rw [List.getElem?_map,he]; rfl
 rw [h.same,List.getElem?_map] at h1
 cases hp:kv[j]? with
 | none=>rw [hp] at h1; cases h1
 | some p =>
   rw [hp] at h1
   simp only [Option.map_some,Option.some.injEq,Prod.mk.injEq] at h1
   exact ⟨p,rfl,h1.1.symm,h1.2.symm⟩
theorem KV.len (h:KV ek va ok M es c kv):es.size=kv.length:=by
 have:=congrArg List.length h.same
 simpa using this
theorem KV.ofp (h:KV ek va ok M es c kv) {p:κ × α} (hp:p∈kv):∃ e∈es.toList,e.key=ek p.1∧e.val=va p.2:=by
 have h1:(ek p.1,va p.2)∈kv.map (fun p=>(ek p.1,va p.2)):=List.mem_map.2 ⟨p,hp,rfl⟩
 rw [← h.same] at h1
 obtain ⟨e,he,h2⟩:=List.mem_map.1 h1
 simp only [Prod.mk.injEq] at h2
 exact ⟨e,he,h2.1,h2.2⟩
theorem KV.key {P:Program} {t k e0:TypeId} (T:rP P t k e0 ek ok) (h:KV ek va ok M es c kv):∀ e∈es.toList,∃ l,keyOf P k e.key=some l:=fun e he=>by
 obtain ⟨j,hj⟩:=List.getElem?_of_mem he
 obtain ⟨p,hp,h1,_⟩:=h.at hj
 rw [h1]; exact T.key _ (h.oks p (List.mem_of_getElem? hp))
theorem KV.find {P:Program} {t k e0:TypeId} (T:rP P t k e0 ek ok) (h:KV ek va ok M es c kv) (w:World) {x:κ} (hx:ok x) :
   (M x=none∧(Instr.findKey k (ek x) es.toList).run P w=.ok none w)∨∃ j a,M x=some a∧kv[j]?=some (x,a)∧(Instr.findKey k (ek x) es.toList).run P w=.ok (some (j,va a)) w∧∃ e,es.toList[j]?=some e∧e.key=ek x:=by
 obtain ⟨l,hl⟩:=T.key x hx
 rcases T.K.find w hl es.toList (h.key T) with ⟨h1,h2⟩ | ⟨j,e,h1,h2,h3⟩
 · refine .inl ⟨?_,h1⟩
   cases hM:M x with
   | none=>rfl
   | some a =>
     obtain ⟨e,he,h4,_⟩:=h.ofp ((h.is (x,a)).2 ⟨hx,hM⟩)
     exact absurd h4 (h2 e he)
 obtain ⟨p,hp,h4,h5⟩:=h.at h2
 have hp1:=h.oks p (List.mem_of_getElem? hp)
 have hpx:p.1=x:=T.inj _ _ hp1 hx (by rw [← h4,h3])
 obtain ⟨p1,p2⟩:=p
 have hpx:p1=x:=hpx
 subst hpx
 exact .inr ⟨j,p2,((h.is (p1,p2)).1 (List.mem_of_getElem? hp)).2,hp,by rw [h1,h5],e,h2,h3⟩
def upM [DecidableEq κ] (M:κ→Option α) (x:κ) (a:α):κ→Option α:=fun y=>if y=x then some a else M y
theorem KV.push [DecidableEq κ] {P:Program} {t k e0:TypeId} (T:rP P t k e0 ek ok) (h:KV ek va ok M es c kv) {x:κ} {a:α} (hx:ok x) (hM:M x=none):KV ek va ok (upM M x a) (es.push ⟨ek x,va a,c⟩) (c+1) (kv++[(x,a)]):=by
 have hno:∀ p∈kv,p.1 ≠ x:=fun p hp e=>by
   have:=((h.is p).1 hp).2
   rw [e,hM] at this; cases this
 refine ⟨?_,?_,?_,?_,?_,?_⟩
 · simp [h.same]
 · rw [List.map_append,List.nodup_append]
   refine ⟨h.nodup,by simp,?_⟩
   intro y hy z hz e
   obtain ⟨p,hp,rfl⟩:=List.mem_map.1 hy
   have:z=x:=by simpa using hz
   exact hno p hp (e.trans this)
 · intro p hp
   rcases List.mem_append.1 hp with hp | hp
   · exact h.oks p hp
   have:p=(x,a):=by simpa using hp
   rw [this]; exact hx
 · rw [Array.toList_push,List.map_append,List.nodup_append]
   refine ⟨h.born,by simp,?_⟩
   intro y hy z hz e
   obtain ⟨q,hq,rfl⟩:=List.mem_map.1 hy
   have:=h.old q hq
   have hz:z=c:=by simpa using hz
   omega
 · intro e he
   rw [Array.toList_push] at he
   rcases List.mem_append.1 he with he | he
   · have:=h.old e he; omega
   have:e=⟨ek x,va a,c⟩:=by simpa using he
   rw [this]; exact Nat.lt_succ_self c
 intro p
 rw [List.mem_append,h.is]
 unfold upM
 constructor
 · rintro (hp | hp)
   · have:=hno p ((h.is p).2 hp)
     rw [if_neg this]; exact hp
   have hp:p=(x,a):=by simpa using hp
   subst hp
   exact ⟨hx,if_pos rfl⟩
 rintro ⟨h1,h2⟩
 split at h2
 · rename_i hpx
   right
   obtain ⟨p1,p2⟩:=p
   have hpx:p1=x:=hpx
   simp only [Option.some.injEq] at h2
   rw [hpx,← h2]; simp
 exact .inl ⟨h1,h2⟩
theorem uS {kv:List (κ × α)} (hn:(kv.map Prod.fst).Nodup) {i j:Nat} {p q:κ × α} (hi:kv[i]?=some p) (hj:kv[j]?=some q) (h:p.1=q.1):i=j:=by
 obtain ⟨hi1,hi2⟩:=List.getElem?_eq_some_iff.1 hi
 obtain ⟨hj1,hj2⟩:=List.getElem?_eq_some_iff.1 hj
 have hw:=List.pairwise_iff_getElem.1 hn
 rcases Nat.lt_trichotomy i j with hl | hl | hl
 · exact absurd (show (kv.map Prod.fst)[i]'(by simpa using hi1)=(kv.map Prod.fst)[j]'(by simpa using hj1) from by simp [hi2,hj2,h]) (hw i j (by simpa using hi1) (by simpa using hj1) hl)
 · exact hl
 · exact absurd (show (kv.map Prod.fst)[j]'(by simpa using hj1)=(kv.map Prod.fst)[i]'(by simpa using hi1) from by simp [hi2,hj2,h]) (hw j i (by simpa using hj1) (by simpa using hi1) hl)
theorem KV.set [DecidableEq κ] {P:Program} {t k e0:TypeId} (T:rP P t k e0 ek ok) (h:KV ek va ok M es c kv) {x:κ} {a b:α} {j:Nat} (hx:ok x) (hj:kv[j]?=some (x,b)):KV ek va ok (upM M x a) (es.modify j fun e=>{ e with key:=ek x,val:=va a }) c (kv.set j (x,a)):=by
 have hjl:j<kv.length:=(List.getElem?_eq_some_iff.1 hj).1
 have hel:j<es.size:=by rw [h.len]; exact hjl
 have hfst:(kv.set j (x,a)).map Prod.fst=kv.map Prod.fst:=by
   apply List.ext_getElem?
   intro i
   rw [List.getElem?_map,List.getElem?_map,List.getElem?_set]
   by_cases e:j=i
   · subst e; rw [if_pos rfl,if_pos hjl,hj]; rfl
   · rw [if_neg e]
 have hto:(es.modify j fun e=>{ e with key:=ek x,val:=va a }).toList=es.toList.modify j (fun e=>{ e with key:=ek x,val:=va a }):=by simp
 refine ⟨?_,?_,?_,?_,?_,?_⟩
 · rw [hto]
   apply List.ext_getElem?
   intro i
   rw [List.getElem?_map,List.getElem?_map,List.getElem?_modify,List.getElem?_set]
   have hs:(es.toList.map (fun e=>(e.key,e.val)))[i]?=(kv.map (fun p=>(ek p.1,va p.2)))[i]?:=by rw [h.same]
   rw [List.getElem?_map,List.getElem?_map] at hs
   by_cases e:j=i
   · subst e
     rw [if_pos rfl,if_pos hjl]
     have:es.toList[j]?=some es[j]:=by simp [hel]
     simp [this]
   rw [if_neg e]
   cases h1:es.toList[i]? with
   | none=>rw [h1] at hs; simp only [Option.map_none] at hs ⊢; rw [← hs]; rfl
   | some q=>rw [h1] at hs; rw [← hs]; simp [e]
 · rw [hfst]; exact h.nodup
 · intro p hp
   rcases List.mem_or_eq_of_mem_set hp with hp | rfl
   · exact h.oks p hp
   exact hx
 · rw [hto]
   have:(es.toList.modify j (fun e=>{ e with key:=ek x,val:=va a })).map (·.born)=es.toList.map (·.born):=by
     apply List.ext_getElem?
     intro i
     rw [List.getElem?_map,List.getElem?_map,List.getElem?_modify]
     cases h1:es.toList[i]? with
     | none=>rfl
     | some q=>by_cases e:j=i <;> simp [e]
   rw [this]; exact h.born
 · intro e he
   rw [hto] at he
   obtain ⟨i,hi⟩:=List.getElem?_of_mem he
   rw [List.getElem?_modify] at hi
   cases h1:es.toList[i]? with
   | none=>rw [h1] at hi; cases hi
   | some q =>
     rw [h1] at hi
     have:=h.old q (List.mem_of_getElem? h1)
     by_cases e1:j=i
     · simp [e1] at hi; rw [← hi]; exact this
     simp [e1] at hi; rw [← hi]; exact this
 intro p
 unfold upM
 constructor
 · intro hp
   obtain ⟨i,hi⟩:=List.getElem?_of_mem hp
   rw [List.getElem?_set] at hi
   by_cases e:j=i
   · rw [if_pos e,if_pos hjl] at hi
     cases hi
     exact ⟨hx,if_pos rfl⟩
   rw [if_neg e] at hi
   have hp':=(h.is p).1 (List.mem_of_getElem? hi)
   rw [if_neg (fun e1=>e (uS h.nodup hj hi e1.symm))]
   exact hp'
 rintro ⟨h1,h2⟩
 split at h2
 · rename_i hpx
   obtain ⟨p1,p2⟩:=p
   have hpx:p1=x:=hpx
   simp only [Option.some.injEq] at h2
   rw [hpx,← h2]; exact List.mem_set hjl _
 rename_i hpx
 obtain ⟨i,hi⟩:=List.getElem?_of_mem ((h.is p).2 ⟨h1,h2⟩)
 refine List.mem_of_getElem? (i:=i) ?_
 rw [List.getElem?_set,if_neg ?_]
 · exact hi
 intro e
 subst e
 rw [hj] at hi
 cases hi
 exact hpx rfl
variable {P:Program} {N:Nat} {Q:Exit→Act→World→Prop} {f:Fr} {ds:List Deferred} {w w':World} {o:Oper} {ops:Array Oper} {L:List aD} {K:Act→World→Prop}
theorem S.mp {k0 g:Nat} (H:S w L) (hk:L[k0]?=some (Mp ek va ok g M)):∃ es c kv,w.heap[g]?=some (.map es c)∧KV ek va ok M es c kv:=H.at hk
theorem bU {t k e:TypeId} {m y:Operand} {g:Nat} {x:κ} {z:Value} (T:rP P t k e ek ok) (H:S w L) (k0:Nat) (hk:L[k0]?=some (Mp ek va ok g M)) (ho:o.op=.lookup t m y false) (hm:cy f m=some (.map (some g))) (hy:cy f y=some (ek x)) (hx:ok x) (hz:tw P e=some z) :
   Ex P N f ds o w (((M x).map va).getD z) w:=
 fH (x:=Instr.lookup t (.map (some g)) (ek x) false) (fun a ha=>by unfold execOp; simp only [ho,ha.eval hm,ha.eval hy]) (by
   obtain ⟨es,c,kv,hb,hkv⟩:=H.mp hk
   obtain ⟨l,hl⟩:=T.key x hx
   rcases hkv.find T w hx with ⟨h1,h2⟩ | ⟨j,a,h1,h2,h3,_⟩
   · rw [h1]; simp [Instr.lookup,run_underlying T.ht,MapKept.run_getObj_map hb,T.K.check w _ hl,h2,zJ hz,Result.andThen]
   · rw [h1]; simp [Instr.lookup,run_underlying T.ht,MapKept.run_getObj_map hb,T.K.check w _ hl,h3,Result.andThen])
theorem gG (w:World) (b:Nat) (o:Obj):iY (fun k=>k ≠ b) w (setBlock w b o):=
 ⟨rfl,rfl,rfl,by simp [setBlock],fun k hk=>by simp only [setBlock]; rw [Array.getElem?_setIfInBounds_ne (fun e=>hk e.symm)],Nat.le_refl _⟩
theorem mP {w:World} {b:Nat} {o o':Obj} (h:w.heap[b]?=some o):(setBlock w b o').heap[b]?=some o':=by
 have hl:b<w.heap.size:=(Array.getElem?_eq_some_iff.1 h).1
 simp [setBlock,hl]
theorem jz [DecidableEq κ] {t k e:TypeId} {m y z:Operand} {g:Nat} {x:κ} {a:α} (T:rP P t k e ek ok) (H:S w L) (k0:Nat) (hw:Wt ops f o) (hd:o.dst=none) (hk:L[k0]?=some (Mp ek va ok g M)) (ho:o.op=.mapUpdate t m y z) (hm:cy f m=some (.map (some g))) (hy:cy f y=some (ek x)) (hz:cy f z=some (va a)) (hx:ok x)
   (h:∀ w',S w' (L.set k0 (Mp ek va ok g (upM M x a)))→G N K f ds w'):G N (bH P ops Q o K) f ds w:=by
 obtain ⟨es,c,kv,hb,hkv⟩:=H.mp hk
 obtain ⟨l,hl⟩:=T.key x hx
 have hrun:∃ es' c' kv',(Instr.mapUpdate t (.map (some g)) (ek x) (va a)).run P w=.ok () (setBlock w g (.map es' c'))∧KV ek va ok (upM M x a) es' c' kv':=by
   rcases hkv.find T w hx with ⟨h1,h2⟩ | ⟨j,b,h1,h2,h3,q,hq,hqk⟩
   · refine ⟨es.push ⟨ek x,va a,c⟩,c+1,_,?_,hkv.push T hx h1⟩
     simp [Instr.mapUpdate,run_underlying T.ht,MapKept.run_getObj_map hb,T.K.check w _ hl,h2,MapKept.run_setObj_map _ hb,Result.andThen,setBlock]
   · refine ⟨_,c,_,?_,hkv.set T hx h2⟩
     have hq':es[j]?=some q:=by simpa using hq
     simp [Instr.mapUpdate,run_underlying T.ht,MapKept.run_getObj_map hb,T.K.check w _ hl,h3,hq',hqk,T.K.stays w hl,MapKept.run_setObj_map _ hb,Result.andThen,setBlock]
 obtain ⟨es',c',kv',hrun,hkv'⟩:=hrun
 refine uJ hw hd (w':=setBlock w g (.map es' c')) (fun a' ha=>by unfold execOp; simp only [ho,ha.eval hm,ha.eval hy,ha.eval hz,Sem.run_bind,hrun,Result.andThen_ok,Sem.run_pure]) (h _ ?_)
 exact H.turn hk ((gG w g _).less fun j hj=>hj.2) ⟨es',c',kv',mP hb,hkv'⟩ (fun j hj=>by
   have:j=g:=hj
   exact ⟨.inl this,Nat.lt_of_lt_of_le (H.lt hk this) (gG w g _).size⟩)
theorem nG {t d:TypeId} (ek:κ→Value) (va:α→Value) (ok:κ→Prop) (H:S w L) (hw:Wt ops f o) (hd:o.dst=some d) (hN:Nat.blt d N=true) (ho:o.op=.makeMap t none)
   (h:∀ g w',S w' (Mp ek va ok g (fun _=>(none:Option α)) :: L)→G N K ((d,.map (some g)) :: f) ds w'):G N (bH P ops Q o K) f ds w:=by
 refine aJ hw hd hN (fH (v:=.map (some w.heap.size)) (w':=w.alloc (.map #[] 0)) (x:=Instr.makeMap t none) (fun a ha=>by unfold execOp; simp only [ho,Option.map_none]) (by simp [Instr.makeMap,newObj,Sem.run,Result.andThen])) (h _ _ ?_)
 have h1:=H.alloc (.map #[] 0)
 obtain ⟨a1,a2,a3⟩:=h1.head
 have hkv:KV ek va ok (fun _=>(none:Option α)) #[] 0 []:=⟨rfl,List.nodup_nil,fun p hp=>absurd hp (List.not_mem_nil),List.nodup_nil,fun e he=>absurd he (List.not_mem_nil),fun p=>⟨fun h=>absurd h (List.not_mem_nil),fun h=>absurd h.2 (by simp)⟩⟩
 exact h1.tail.cons ⟨#[],0,[],a1,hkv⟩ a2 a3
end
end Go.Proofs.YthmmfhdpkddniaaGreatDoor
namespace Go.Proofs.YthmmfhdpkddniaaGreatDoor
open Go.RowKit
section
variable {P:Program} {N:Nat} {Q:Exit→Act→World→Prop} {f:Fr} {ds:List Deferred} {w w':World} {o:Oper} {ops:Array Oper} {L:List aD} {n:Nat}
end
def Sf (x:Nat × Nat):Value:=.agg #[.int .i64 (x.1:Int),.int .i64 (x.2:Int)]
def Q6 (x:Nat × Nat):Prop:=x.1≤1099511627776∧x.2≤1099511627776
end Go.Proofs.YthmmfhdpkddniaaGreatDoor
