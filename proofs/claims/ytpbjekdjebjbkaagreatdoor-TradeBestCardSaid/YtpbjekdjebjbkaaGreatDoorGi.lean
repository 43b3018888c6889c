import Derived.Test.YtpbjekdjebjbkaaGreatDoorFm
import Derived.Test.YtpbjekdjebjbkaaGreatDoorGg
import Derived.Test.YtpbjekdjebjbkaaGreatDoorSel
import Derived.Test.YtpbjekdjebjbkaaGreatDoorShelf
import Derived.Lib.ItoaLen
set_option maxRecDepth 20000
set_option maxHeartbeats 4000000
set_option linter.unusedSimpArgs false
set_option linter.unusedVariables false
namespace Go.Proofs.YtpbjekdjebjbkaaGreatDoor
open Go.RowKit Go.Sort
theorem less_cmp:∀ a b:List UInt8,(!(Op.bytesLess a b || a == b))=decide (0<Lib.compareBytes a b)
 | [],[]=>rfl
 | [],_ :: _=>by simp [Op.bytesLess,Lib.compareBytes]
 | _ :: _,[]=>by simp [Op.bytesLess,Lib.compareBytes]
 | x :: a,y :: b=>by
   have ih:=less_cmp a b
   unfold Op.bytesLess Lib.compareBytes
   by_cases h:x<y
   · simp [h]
   · by_cases h2:y<x
     · have:¬ x=y:=fun e=>by subst e; exact UInt8.lt_irrefl _ h2
       simp [h,h2,this]
     · have e:x=y:=UInt8.le_antisymm (UInt8.not_lt.1 h2) (UInt8.not_lt.1 h)
       subst e
       simp only [if_neg h]
       rw [← ih]
       simp
theorem cmp_trans:∀ a b c:List UInt8,Lib.compareBytes a b≤0→Lib.compareBytes b c≤0→Lib.compareBytes a c≤0∧(Lib.compareBytes a b<0∨Lib.compareBytes b c<0→Lib.compareBytes a c<0)
 | [],[],c=>by cases c <;> simp [Lib.compareBytes]
 | [],_ :: _,[]=>by simp [Lib.compareBytes]
 | [],_ :: _,_ :: _=>by simp [Lib.compareBytes]
 | _ :: _,[],_=>by simp [Lib.compareBytes]
 | _ :: _,_ :: _,[]=>by simp [Lib.compareBytes]
 | x :: a,y :: b,z :: c=>by
   have ih:=cmp_trans a b c
   unfold Lib.compareBytes
   intro h1 h2
   have hx:=@UInt8.lt_irrefl
   by_cases h3:x<y
   · have h3':¬ y<x:=fun h=>hx _ (UInt8.lt_trans h3 h)
     by_cases h4:y<z
     · simp [UInt8.lt_trans h3 h4]
     · by_cases h5:z<y
       · simp [h4,h5] at h2
       · have e:y=z:=UInt8.le_antisymm (UInt8.not_lt.1 h5) (UInt8.not_lt.1 h4)
         subst e; simp [h3]
   · by_cases h3':y<x
     · simp [h3,h3'] at h1
     · have e:x=y:=UInt8.le_antisymm (UInt8.not_lt.1 h3') (UInt8.not_lt.1 h3)
       subst e
       simp only [h3,if_false] at h1
       by_cases h4:x<z
       · simp [h4]
       · by_cases h5:z<x
         · simp [h4,h5] at h2
         · simp only [h4,h5,h3,if_false] at h2 ⊢
           exact ih h1 h2
theorem cmp_swap:∀ a b:List UInt8,Lib.compareBytes a b=- Lib.compareBytes b a
 | [],[]=>rfl
 | [],_ :: _=>rfl
 | _ :: _,[]=>rfl
 | x :: a,y :: b=>by
   unfold Lib.compareBytes
   by_cases h:x<y
   · have h2:¬ y<x:=fun h3=>UInt8.lt_irrefl _ (UInt8.lt_trans h h3)
     simp [h,h2]
   · by_cases h2:y<x
     · simp [h,h2]
     · simp only [h,h2,if_false]; exact cmp_swap a b
theorem less_lt:∀ a b:List UInt8,Op.bytesLess a b=decide (Lib.compareBytes a b<0)
 | [],[]=>rfl
 | [],_ :: _=>by simp [Op.bytesLess,Lib.compareBytes]
 | _ :: _,[]=>by simp [Op.bytesLess,Lib.compareBytes]
 | x :: a,y :: b=>by
   have ih:=less_lt a b
   unfold Op.bytesLess Lib.compareBytes
   by_cases h:x<y
   · simp [h]
   · by_cases h2:y<x
     · have:¬ x=y:=fun e=>by subst e; exact UInt8.lt_irrefl _ h2
       simp [h,h2,this]
     · have e:x=y:=UInt8.le_antisymm (UInt8.not_lt.1 h2) (UInt8.not_lt.1 h)
       subst e
       simp only [if_neg h]
       rw [← ih]
       simp
def cmpSt (x y:ByteArray):Int:=Lib.compareBytes x.data.toList y.data.toList
theorem cmpSt_wk:Wk cmpSt:=⟨fun x y=>by
 have:=cmp_swap x.data.toList y.data.toList
 unfold cmpSt; omega,fun x y z h1 h2=>(cmp_trans _ _ _ h1 h2).1⟩
def minSt (x y:ByteArray):ByteArray:=if cmpSt x y≤0 then x else y
theorem le_cmp (x y:ByteArray):(Op.bytesLess x.toList y.toList || x.toList == y.toList)=decide (cmpSt x y≤0):=by
 have h:=less_cmp x.data.toList y.data.toList
 rw [ByteArray.toList_eq,ByteArray.toList_eq]
 unfold cmpSt
 rw [← Bool.not_inj_iff,h]
 by_cases h1:0<Lib.compareBytes x.data.toList y.data.toList
 · rw [decide_eq_true h1,decide_eq_false (by omega)]; rfl
 · rw [decide_eq_false h1,decide_eq_true (by omega)]; rfl
section
variable {P:Program} {N:Nat} {Q:Exit→Act→World→Prop} {f:Fr} {ds:List Deferred} {w w' w0:World} {o:Oper} {ops:Array Oper} {L:List Item} {K:Act→World→Prop}
theorem b_lsS {t:TypeId} {xo yo:Operand} {x y:ByteArray}:Bin P .lss t xo yo (.string x) (.string y) w (.bool (decide (cmpSt x y<0))):=by
 unfold Bin; rw [Sem.run_bind,guard_str]
 have h:=less_lt x.data.toList y.data.toList
 simp only [binOp,Op.stringOp,Result.andThen_ok]
 rw [ByteArray.toList_eq,ByteArray.toList_eq,h]; rfl
theorem min2_str (x y:ByteArray) (w:World):(Builtin.min2 (.string x) (.string y)).run P w=.ok (.string (minSt x y)) w:=by
 unfold Builtin.min2 Op.stringOp minSt
 simp only [Sem.run_bind,Sem.run_pure,Result.andThen_ok]
 rw [le_cmp]
 by_cases h:cmpSt x y≤0
 · simp [h,asBool]
 · simp [h,asBool]
theorem x_min3S {x y z:Operand} {ts:Array TypeId} {a b c:ByteArray} (ho:o.op=.call { callee:=.builtin .min,args:=#[x,y,z],argTypes:=ts }) (hx:evo f x=some (.string a)) (hy:evo f y=some (.string b)) (hz:evo f z=some (.string c)):Ex P N f ds o w (.string (minSt (minSt a b) c)) w:=
 x_builtin (vs:=[.string a,.string b,.string c]) ho (by simp only [evs,hx,hy,hz]) (fun cs=>by
   simp [builtin,Builtin.min_,min2_str,List.foldlM,Sem.run_bind,Result.andThen_ok])
end
theorem cl69:callable Tryz.prog 69=true:=by kernel_rfl
theorem cl74:callable Tryz.prog 74=true:=by kernel_rfl
theorem cl80:callable Tryz.prog 80=true:=by kernel_rfl
def digS:ByteArray:=⟨#[48,49,50,51,52,53,54,55,56,57,97,98,99,100,101,102,103,104,105,106,107,108,109,110,111,112,113,114,115,116,117,118,119,120,121,122]⟩
def smlS:ByteArray:=⟨#[48,48,48,49,48,50,48,51,48,52,48,53,48,54,48,55,48,56,48,57,49,48,49,49,49,50,49,51,49,52,49,53,49,54,49,55,49,56,49,57,50,48,50,49,50,50,50,51,50,52,50,53,50,54,50,55,50,56,50,57,51,48,51,49,51,50,51,51,51,52,51,53,51,54,51,55,51,56,51,57,52,48,52,49,52,50,52,51,52,52,52,53,52,54,52,55,52,56,52,57,53,48,53,49,53,50,53,51,53,52,53,53,53,54,53,55,53,56,53,57,54,48,54,49,54,50,54,51,54,52,54,53,54,54,54,55,54,56,54,57,55,48,55,49,55,50,55,51,55,52,55,53,55,54,55,55,55,56,55,57,56,48,56,49,56,50,56,51,56,52,56,53,56,54,56,55,56,56,56,57,57,48,57,49,57,50,57,51,57,52,57,53,57,54,57,55,57,56,57,57]⟩
theorem digS_size:digS.size=36:=rfl
theorem smlS_size:smlS.size=200:=by kernel_rfl
def itS (n:Int):ByteArray:=if n<10 then digS.extract n.toNat (n+1).toNat else smlS.extract (n * 2).toNat (n * 2+2).toNat
theorem itS_size {n:Int} (h0:0≤n) (h1:n≤99):(itS n).size≤21:=by
 have e1:=digS_size
 have e2:=smlS_size
 unfold itS
 split
 · rw [ByteArray.size_extract]; omega
 · rw [ByteArray.size_extract]; omega
def PowTab (w:World):Prop:=True
theorem S.tab {w w0:World} {L:List Item} {k:Nat} (h:S w L) (hk:L[k]?=some (Old w0 no)) (ht:PowTab w0):PowTab w:=trivial
theorem compare_s (a b:ByteArray) (w:World):Calls Tryz.prog 170 #[.string a,.string b] w fun e w'=>e=.returned (.int .i64 (cmpSt a b))∧S w' [Old w no]:=
 (Tryz.strings_Compare a b w).mono fun e w' ⟨he,hw⟩=>⟨he,by rw [hw]; exact S.old w⟩
theorem small_s (n:Int) (h0:0≤n) (h1:n≤99)  (w:World):Calls Tryz.prog 80 #[.int .i64 n] w fun e w'=>e=.returned (.string (itS n))∧S w' [Old w no]:=by
 have H0:=S.old w
 refine enter 15 Tryz.func80 rfl rfl rfl ?_
 refine g_wk [(0,_)] ?_
 refine w_s ?_
 refine w_k7 ?_
 by_cases hb1:(n:Int)<10
 ·
  refine g_ct hb1 ?_
  refine w_k3 ?_
  refine w_b (v:=.int .i64 (n+1)) (hb:=(b_add (w64 (by omega)))) ?_
  refine w_v (v:=.string ((digS.extract n.toNat (n+1).toNat))) (x_slices (s:=digS) n.toNat (n+1).toNat rfl rfl Tryz.underlying9 (.inr ⟨_,_,_,rfl,rfl,by omega⟩) (.inr ⟨_,_,_,rfl,rfl,by omega⟩) (by rw [digS_size]; omega)) ?_
  refine w_k4 ?_
  refine fin_r [.tmp 2] [.string ((digS.extract n.toNat (n+1).toNat))] ?_
  exact ⟨by unfold itS; first | (rw [if_pos (by omega)]; rfl) | (rw [if_neg (by omega)]; rfl),H0.mask [true]⟩
 ·
  refine g_cf hb1 ?_
  refine w_k4 ?_
  refine w_b (v:=.int .i64 (n * 2)) (hb:=(b_mul (w64 (by omega)))) ?_
  refine w_m ?_
  refine w_b (v:=.int .i64 (n * 2)) (hb:=(b_mul (w64 (by omega)))) ?_
  refine w_b (v:=.int .i64 ((n * 2)+2)) (hb:=(b_add (w64 (by omega)))) ?_
  refine w_v (v:=.string ((smlS.extract (n * 2).toNat (n * 2+2).toNat))) (x_slices (s:=smlS) (n * 2).toNat (n * 2+2).toNat rfl rfl Tryz.underlying9 (.inr ⟨_,_,_,rfl,rfl,by omega⟩) (.inr ⟨_,_,_,rfl,rfl,by omega⟩) (by rw [smlS_size]; omega)) ?_
  refine w_k3 ?_
  refine fin_r [.tmp 2] [.string ((smlS.extract (n * 2).toNat (n * 2+2).toNat))] ?_
  exact ⟨by unfold itS; first | (rw [if_pos (by omega)]; rfl) | (rw [if_neg (by omega)]; rfl),H0.mask [true]⟩
theorem fmt_s (n:Int) (h0:0≤n) (h1:n≤99)  (w:World):Calls Tryz.prog 74 #[.int .i64 n,.int .i64 10] w fun e w'=>e=.returned (.string (itS n))∧S w' [Old w no]:=by
 have H0:=S.old w
 refine enter 54 Tryz.func74 rfl rfl rfl ?_
 refine g_wk [(0,_),(1,_)] ?_
 refine w_s ?_
 refine w_k7 ?_
 refine g_ct rfl ?_
 refine w_k5 ?_
 refine w_g (decide_eq_true h0) xm ?_
 refine w_g (decide_eq_true h0) (x_bin rfl rfl rfl b_lss) ?_
 refine w_v (x_pick_t rfl rfl (decide_eq_true h0) rfl) ?_
 refine w_e ?_
 refine g_cond_t rfl (decide_eq_true (by omega)) ?_
 refine w_k2 ?_
 refine l_of (s_call0 H0 (wt0 rfl) (x_call' rfl rfl cl80) (small_s n h0 h1 _) rfl rfl ?_)
 intro wq1 H2
 refine w_k5 ?_
 refine fin_r [.tmp 4] [.string ((itS n))] ?_
 exact ⟨rfl,H2.mask [true]⟩
theorem itoa0_s (n:Int) (h0:0≤n) (h1:n≤99)  (w:World):Calls Tryz.prog 69 #[.int .i64 n] w fun e w'=>e=.returned (.string (itS n))∧S w' [Old w no]:=by
 have H0:=S.old w
 refine enter 5 Tryz.func69 rfl rfl rfl ?_
 refine g_wk [(0,_)] ?_
 refine w_s ?_
 refine w_k4 ?_
 refine l_of (s_call0 H0 (wt0 rfl) (x_call' rfl rfl cl74) (fmt_s n h0 h1 _) rfl rfl ?_)
 intro wq1 H2
 refine w_k3 ?_
 refine fin_r [.tmp 2] [.string ((itS n))] ?_
 exact ⟨rfl,H2.mask [true]⟩
theorem itoa1_s (n:Int) (h0:0≤n) (h1:n≤99)  (w:World):Calls Tryz.prog 59 #[.int .i64 n] w fun e w'=>e=.returned (.string (itS n))∧S w' [Old w no]:=by
 have H0:=S.old w
 refine enter 5 Tryz.func59 rfl rfl rfl ?_
 refine g_wk [(0,_)] ?_
 refine w_s ?_
 refine w_k4 ?_
 refine l_of (s_call0 H0 (wt0 rfl) (x_call' rfl rfl cl69) (itoa0_s n h0 h1 _) rfl rfl ?_)
 intro wq1 H2
 refine w_k3 ?_
 refine fin_r [.tmp 2] [.string ((itS n))] ?_
 exact ⟨rfl,H2.mask [true]⟩
theorem itoa_s (n:Int) (h0:0≤n) (h1:n≤99) (w:World) (ht:PowTab w):Calls Tryz.prog 59 #[.int .i64 n] w fun e w'=>e=.returned (.string (itS n))∧S w' [Old w no]:=itoa1_s n h0 h1 w
end Go.Proofs.YtpbjekdjebjbkaaGreatDoor
