import Derived.Shelf.Small.Bits
import Derived.Shelf.Small.Wraps
import Derived.Shelf.Strconv.Itoa0
import Derived.Shelf.Strconv.Itoa1
import Derived.Shelf.LaysM
import Derived.Shelf.Strconv.Itoa2
import Derived.Shelf.Strconv.Itoa3
import Derived.Shelf.Sort.Plain
import Derived.Shelf.Slices.Turned
import Derived.Ground.Names2Prog
import Derived.Shelf.Slices.Clone
import Derived.Shelf.Slices.SearchI
import Derived.Shelf.Slices.In.SortNone
import Derived.Ground.SlgnProg
import Derived.Shelf.SlicesE.Clone
import Derived.Ground.SlsfProg
import Derived.Shelf.SlSortCmp.Insertion
import Derived.Shelf.SlSortCmp.SiftDown1
import Derived.Shelf.SlSortCmp.HeapSort1
import Derived.Shelf.SlSortCmp.Insertion1
import Derived.Shelf.SlSortCmp.Median1
import Derived.Shelf.SlSortCmp.Pivot1
import Derived.Shelf.SlSortCmp.ReverseRange1
import Derived.Shelf.SlSortCmp.PartialInsertion1
import Derived.Shelf.SlSortCmp.PartitionEqual1
import Derived.Shelf.SlSortCmp.Partition1
import Derived.Shelf.SlSortCmp.Pdq1
import Derived.Shelf.SlSortCmp.Whole1
import Derived.Shelf.SlSortCmp.NoneTotal
import Derived.Test.YthmmfhdpkddniaaGreatDoorSp
import Derived.LaidEqlPtr
set_option linter.all false
/-
 DERIVED: THE SHELF's CONTRACTS AT THIS DUMP, IN PLAIN WORDS (tools/PE-plain.mjs out of 'TryzShelf.lean', which tools/PE-shelf.mjs wrote): THE SAME DECLARATIONS UNDER THE SAME NAMES: 'import', 'namespace', 'open', 'def', 'theorem' AND NOTHING ELSE: no command of the shelf's: FOR A HAND-IN. Each laying: the table of numbers ('.._ren') and one theorem, a field a fact of the dump's own or the kernel's comparison; each contract: ONE APPLICATION.
-/
namespace Go.Proofs
open Go.Shelf
def Tryz.lays189_ren:Go.Shelf.Ren:=⟨fun | 189=>48 | 125=>109 | 257=>108 | 128=>148 | 129=>149 | 294=>139 | 295=>140 | 296=>141 | 297=>142 | 298=>143 | 299=>144 | 216=>145 | 300=>146 | 301=>147 | 328=>160 | 329=>161 | 330=>162 | 331=>163 | 332=>164 | 215=>159 | 343=>174 | n=>n,fun | 28=>59 | 3=>3 | 46=>144 | 0=>0 | 51=>172 | 53=>174 | 4=>4 | 183=>164 | 182=>163 | 131=>169 | 5=>5 | 9=>9 | 218=>184 | 222=>188 | 228=>200 | 229=>201 | n=>n,fun | n=>n⟩
theorem Tryz.lays189:Go.Proofs.Lays.n189 Tryz.prog Tryz.lays189_ren:={
 mixed:=by kernel_rfl
 f125:=Tryz.func109.trans (congrArg some (by kernel_rfl))
 f128:=Tryz.func148.trans (congrArg some (by kernel_rfl))
 f129:=Tryz.func149.trans (congrArg some (by kernel_rfl))
 f189:=Tryz.func48.trans (congrArg some (by kernel_rfl))
 f215:=Tryz.func159.trans (congrArg some (by kernel_rfl))
 f216:=Tryz.func145.trans (congrArg some (by kernel_rfl))
 f257:=Tryz.func108.trans (congrArg some (by kernel_rfl))
 f294:=Tryz.func139.trans (congrArg some (by kernel_rfl))
 f295:=Tryz.func140.trans (congrArg some (by kernel_rfl))
 f296:=Tryz.func141.trans (congrArg some (by kernel_rfl))
 f297:=Tryz.func142.trans (congrArg some (by kernel_rfl))
 f298:=Tryz.func143.trans (congrArg some (by kernel_rfl))
 f299:=Tryz.func144.trans (congrArg some (by kernel_rfl))
 f300:=Tryz.func146.trans (congrArg some (by kernel_rfl))
 f301:=Tryz.func147.trans (congrArg some (by kernel_rfl))
 f328:=Tryz.func160.trans (congrArg some (by kernel_rfl))
 f329:=Tryz.func161.trans (congrArg some (by kernel_rfl))
 f330:=Tryz.func162.trans (congrArg some (by kernel_rfl))
 f331:=Tryz.func163.trans (congrArg some (by kernel_rfl))
 f332:=Tryz.func164.trans (congrArg some (by kernel_rfl))
 f343:=Tryz.func174.trans (congrArg some (by kernel_rfl))
 t0:=Tryz.underlying0
 a0:=Tryz.isAgg0
 z0:=Tryz.sizeOf0
 v0:=Tryz.zeroValue0
 t3:=Tryz.underlying3
 a3:=Tryz.isAgg3
 z3:=Tryz.sizeOf3
 v3:=Tryz.zeroValue3
 t4:=Tryz.underlying4
 a4:=Tryz.isAgg4
 z4:=Tryz.sizeOf4
 v4:=Tryz.zeroValue4
 t5:=Tryz.underlying5
 a5:=Tryz.isAgg5
 z5:=Tryz.sizeOf5
 v5:=Tryz.zeroValue5
 t9:=Tryz.underlying9
 a9:=Tryz.isAgg9
 z9:=Tryz.sizeOf9
 v9:=Tryz.zeroValue9
 t28:=Tryz.underlying59
 a28:=Tryz.isAgg59
 z28:=Tryz.sizeOf59
 v28:=Tryz.zeroValue59
 t46:=Tryz.underlying144
 a46:=Tryz.isAgg144
 z46:=Tryz.sizeOf144
 v46:=Tryz.zeroValue144
 t51:=Tryz.underlying172
 a51:=Tryz.isAgg172
 z51:=Tryz.sizeOf172
 v51:=Tryz.zeroValue172
 t53:=Tryz.underlying174
 a53:=Tryz.isAgg174
 z53:=Tryz.sizeOf174
 v53:=Tryz.zeroValue174
 t131:=Tryz.underlying169
 a131:=Tryz.isAgg169
 z131:=Tryz.sizeOf169
 v131:=Tryz.zeroValue169
 t182:=Tryz.underlying163
 a182:=Tryz.isAgg163
 z182:=Tryz.sizeOf163
 v182:=Tryz.zeroValue163
 t183:=Tryz.underlying164
 a183:=Tryz.isAgg164
 z183:=Tryz.sizeOf164
 v183:=Tryz.zeroValue164
 t218:=Tryz.underlying184
 a218:=Tryz.isAgg184
 z218:=Tryz.sizeOf184
 v218:=Tryz.zeroValue184
 t222:=Tryz.underlying188
 a222:=Tryz.isAgg188
 z222:=Tryz.sizeOf188
 v222:=Tryz.zeroValue188
 t228:=Tryz.underlying200
 a228:=Tryz.isAgg200
 z228:=Tryz.sizeOf200
 v228:=Tryz.zeroValue200
 t229:=Tryz.underlying201
 a229:=Tryz.isAgg201
 z229:=Tryz.sizeOf201
 v229:=Tryz.zeroValue201 }
open Go.Sort Go.RowKit in
theorem Tryz.slices_Sort_int (blk off cap:Nat) (zs:List Int) (w:World) (hH:Holds (Value.int .i64) w blk off zs.toArray) (hblk:blk<w.heap.size) (hsz:zs.length<4611686018427387904) :
   Calls Tryz.prog 48 #[.slice (some ⟨blk,off,none⟩) zs.length cap] w fun e w' =>
     e=.returned (.tuple #[])∧∃ n os,w'=grow (putRow (Value.int .i64) (Sort.ahead w n) blk off (zs.mergeSort fun x y=>decide (x≤y)).toArray) os:=Any.slices_Sort_int Tryz.lays189 blk off cap zs w hH hblk hsz
open Go.RowKit Go.Sort in
theorem Tryz.slices_Sort_int_none (p:Option Addr) (cap:Nat) (w:World) :
   Calls Tryz.prog 48 #[.slice p 0 cap] w fun e w'=>e=.returned (.tuple #[])∧w'=w:=Any.slices_Sort_int_none Tryz.lays189 p cap w
def Tryz.laysSlF6_f155_ren:Go.Shelf.Ren:=⟨fun | 6=>155 | 15=>109 | 14=>171 | 28=>148 | 29=>149 | 20=>181 | 21=>182 | 22=>183 | 23=>184 | 24=>185 | 25=>186 | 26=>187 | 27=>188 | 46=>198 | 47=>161 | 48=>162 | 49=>199 | 50=>200 | 57=>211 | n=>n,fun | 22=>59 | 24=>3 | 25=>160 | 3=>3 | 39=>144 | 0=>0 | 53=>172 | 55=>174 | 4=>4 | 46=>164 | 45=>163 | 50=>169 | 5=>5 | 9=>9 | 66=>184 | 70=>188 | 76=>200 | 77=>201 | n=>n,fun | n=>n⟩
theorem Tryz.laysSlF6_f155:Go.Proofs.SlLaysF.n6 Tryz.prog Tryz.laysSlF6_f155_ren:={
 mixed:=by kernel_rfl
 f6:=⟨Tryz.f155.name,by decide,Tryz.func155.trans (congrArg some (by kernel_rfl))⟩
 f14:=⟨Tryz.f171.name,by decide,Tryz.func171.trans (congrArg some (by kernel_rfl))⟩
 f15:=Tryz.func109.trans (congrArg some (by kernel_rfl))
 f20:=⟨Tryz.f181.name,by decide,Tryz.func181.trans (congrArg some (by kernel_rfl))⟩
 f21:=⟨Tryz.f182.name,by decide,Tryz.func182.trans (congrArg some (by kernel_rfl))⟩
 f22:=⟨Tryz.f183.name,by decide,Tryz.func183.trans (congrArg some (by kernel_rfl))⟩
 f23:=⟨Tryz.f184.name,by decide,Tryz.func184.trans (congrArg some (by kernel_rfl))⟩
 f24:=⟨Tryz.f185.name,by decide,Tryz.func185.trans (congrArg some (by kernel_rfl))⟩
 f25:=⟨Tryz.f186.name,by decide,Tryz.func186.trans (congrArg some (by kernel_rfl))⟩
 f26:=⟨Tryz.f187.name,by decide,Tryz.func187.trans (congrArg some (by kernel_rfl))⟩
 f27:=⟨Tryz.f188.name,by decide,Tryz.func188.trans (congrArg some (by kernel_rfl))⟩
 f28:=Tryz.func148.trans (congrArg some (by kernel_rfl))
 f29:=Tryz.func149.trans (congrArg some (by kernel_rfl))
 f46:=⟨Tryz.f198.name,by decide,Tryz.func198.trans (congrArg some (by kernel_rfl))⟩
 f47:=Tryz.func161.trans (congrArg some (by kernel_rfl))
 f48:=Tryz.func162.trans (congrArg some (by kernel_rfl))
 f49:=⟨Tryz.f199.name,by decide,Tryz.func199.trans (congrArg some (by kernel_rfl))⟩
 f50:=⟨Tryz.f200.name,by decide,Tryz.func200.trans (congrArg some (by kernel_rfl))⟩
 f57:=⟨Tryz.f211.name,by decide,Tryz.func211.trans (congrArg some (by kernel_rfl))⟩
 t0:=Tryz.underlying0
 a0:=Tryz.isAgg0
 z0:=Tryz.sizeOf0
 v0:=Tryz.zeroValue0
 t3:=Tryz.underlying3
 a3:=Tryz.isAgg3
 z3:=Tryz.sizeOf3
 v3:=Tryz.zeroValue3
 t4:=Tryz.underlying4
 a4:=Tryz.isAgg4
 z4:=Tryz.sizeOf4
 v4:=Tryz.zeroValue4
 t5:=Tryz.underlying5
 a5:=Tryz.isAgg5
 z5:=Tryz.sizeOf5
 v5:=Tryz.zeroValue5
 t9:=Tryz.underlying9
 a9:=Tryz.isAgg9
 z9:=Tryz.sizeOf9
 v9:=Tryz.zeroValue9
 t22:=Tryz.underlying59
 a22:=Tryz.isAgg59
 z22:=Tryz.sizeOf59
 v22:=Tryz.zeroValue59
 a24:=Tryz.isAgg3
 z24:=Tryz.sizeOf3
 t25:=Tryz.underlying160
 a25:=Tryz.isAgg160
 z25:=Tryz.sizeOf160
 v25:=Tryz.zeroValue160
 t39:=Tryz.underlying144
 a39:=Tryz.isAgg144
 z39:=Tryz.sizeOf144
 v39:=Tryz.zeroValue144
 t45:=Tryz.underlying163
 a45:=Tryz.isAgg163
 z45:=Tryz.sizeOf163
 v45:=Tryz.zeroValue163
 t46:=Tryz.underlying164
 a46:=Tryz.isAgg164
 z46:=Tryz.sizeOf164
 v46:=Tryz.zeroValue164
 t50:=Tryz.underlying169
 a50:=Tryz.isAgg169
 z50:=Tryz.sizeOf169
 v50:=Tryz.zeroValue169
 t53:=Tryz.underlying172
 a53:=Tryz.isAgg172
 z53:=Tryz.sizeOf172
 v53:=Tryz.zeroValue172
 t55:=Tryz.underlying174
 a55:=Tryz.isAgg174
 z55:=Tryz.sizeOf174
 v55:=Tryz.zeroValue174
 t66:=Tryz.underlying184
 a66:=Tryz.isAgg184
 z66:=Tryz.sizeOf184
 v66:=Tryz.zeroValue184
 t70:=Tryz.underlying188
 a70:=Tryz.isAgg188
 z70:=Tryz.sizeOf188
 v70:=Tryz.zeroValue188
 t76:=Tryz.underlying200
 a76:=Tryz.isAgg200
 z76:=Tryz.sizeOf200
 v76:=Tryz.zeroValue200
 t77:=Tryz.underlying201
 a77:=Tryz.isAgg201
 z77:=Tryz.sizeOf201
 v77:=Tryz.zeroValue201 }
def Tryz.laysSlF06_f155_ren:Go.Shelf.Ren:=⟨fun | 6=>155 | 15=>109 | 14=>171 | 28=>148 | 29=>149 | 20=>181 | 21=>182 | 22=>183 | 23=>184 | 24=>185 | 25=>186 | 26=>187 | 27=>188 | 46=>198 | 47=>161 | 48=>162 | 49=>199 | 50=>200 | 57=>211 | n=>n,fun | 22=>59 | 24=>3 | 25=>160 | 3=>3 | 39=>144 | 0=>0 | 53=>172 | 55=>174 | 4=>4 | 46=>164 | 45=>163 | 50=>169 | 5=>5 | 9=>9 | 66=>184 | 70=>188 | 76=>200 | 77=>201 | n=>n,fun | n=>n⟩
theorem Tryz.laysSlF06_f155:Go.Proofs.SlLaysF0.n6 Tryz.prog Tryz.laysSlF06_f155_ren:={
 mixed:=by kernel_rfl
 f6:=⟨Tryz.f155.name,by decide,Tryz.func155.trans (congrArg some (by kernel_rfl))⟩
 f14:=⟨Tryz.f171.name,by decide,Tryz.func171.trans (congrArg some (by kernel_rfl))⟩
 f15:=Tryz.func109.trans (congrArg some (by kernel_rfl))
 f20:=⟨Tryz.f181.name,by decide,Tryz.func181.trans (congrArg some (by kernel_rfl))⟩
 f21:=⟨Tryz.f182.name,by decide,Tryz.func182.trans (congrArg some (by kernel_rfl))⟩
 f22:=⟨Tryz.f183.name,by decide,Tryz.func183.trans (congrArg some (by kernel_rfl))⟩
 f23:=⟨Tryz.f184.name,by decide,Tryz.func184.trans (congrArg some (by kernel_rfl))⟩
 f24:=⟨Tryz.f185.name,by decide,Tryz.func185.trans (congrArg some (by kernel_rfl))⟩
 f25:=⟨Tryz.f186.name,by decide,Tryz.func186.trans (congrArg some (by kernel_rfl))⟩
 f26:=⟨Tryz.f187.name,by decide,Tryz.func187.trans (congrArg some (by kernel_rfl))⟩
 f27:=⟨Tryz.f188.name,by decide,Tryz.func188.trans (congrArg some (by kernel_rfl))⟩
 f28:=Tryz.func148.trans (congrArg some (by kernel_rfl))
 f29:=Tryz.func149.trans (congrArg some (by kernel_rfl))
 f46:=⟨Tryz.f198.name,by decide,Tryz.func198.trans (congrArg some (by kernel_rfl))⟩
 f47:=Tryz.func161.trans (congrArg some (by kernel_rfl))
 f48:=Tryz.func162.trans (congrArg some (by kernel_rfl))
 f49:=⟨Tryz.f199.name,by decide,Tryz.func199.trans (congrArg some (by kernel_rfl))⟩
 f50:=⟨Tryz.f200.name,by decide,Tryz.func200.trans (congrArg some (by kernel_rfl))⟩
 f57:=⟨Tryz.f211.name,by decide,Tryz.func211.trans (congrArg some (by kernel_rfl))⟩
 t0:=Tryz.underlying0
 a0:=Tryz.isAgg0
 z0:=Tryz.sizeOf0
 v0:=Tryz.zeroValue0
 t3:=Tryz.underlying3
 a3:=Tryz.isAgg3
 z3:=Tryz.sizeOf3
 v3:=Tryz.zeroValue3
 t4:=Tryz.underlying4
 a4:=Tryz.isAgg4
 z4:=Tryz.sizeOf4
 v4:=Tryz.zeroValue4
 t5:=Tryz.underlying5
 a5:=Tryz.isAgg5
 z5:=Tryz.sizeOf5
 v5:=Tryz.zeroValue5
 t9:=Tryz.underlying9
 a9:=Tryz.isAgg9
 z9:=Tryz.sizeOf9
 v9:=Tryz.zeroValue9
 t22:=Tryz.underlying59
 a22:=Tryz.isAgg59
 z22:=Tryz.sizeOf59
 v22:=Tryz.zeroValue59
 t25:=Tryz.underlying160
 a25:=Tryz.isAgg160
 z25:=Tryz.sizeOf160
 v25:=Tryz.zeroValue160
 t39:=Tryz.underlying144
 a39:=Tryz.isAgg144
 z39:=Tryz.sizeOf144
 v39:=Tryz.zeroValue144
 t45:=Tryz.underlying163
 a45:=Tryz.isAgg163
 z45:=Tryz.sizeOf163
 v45:=Tryz.zeroValue163
 t46:=Tryz.underlying164
 a46:=Tryz.isAgg164
 z46:=Tryz.sizeOf164
 v46:=Tryz.zeroValue164
 t50:=Tryz.underlying169
 a50:=Tryz.isAgg169
 z50:=Tryz.sizeOf169
 v50:=Tryz.zeroValue169
 t53:=Tryz.underlying172
 a53:=Tryz.isAgg172
 z53:=Tryz.sizeOf172
 v53:=Tryz.zeroValue172
 t55:=Tryz.underlying174
 a55:=Tryz.isAgg174
 z55:=Tryz.sizeOf174
 v55:=Tryz.zeroValue174
 t66:=Tryz.underlying184
 a66:=Tryz.isAgg184
 z66:=Tryz.sizeOf184
 v66:=Tryz.zeroValue184
 t70:=Tryz.underlying188
 a70:=Tryz.isAgg188
 z70:=Tryz.sizeOf188
 v70:=Tryz.zeroValue188
 t76:=Tryz.underlying200
 a76:=Tryz.isAgg200
 z76:=Tryz.sizeOf200
 v76:=Tryz.zeroValue200
 t77:=Tryz.underlying201
 a77:=Tryz.isAgg201
 z77:=Tryz.sizeOf201
 v77:=Tryz.zeroValue201 }
open Go.RowKit Go.Lib Go.Sort in
theorem Tryz.slices_SortFunc_none {α:Type} [Inhabited α] (p:Option Addr) (cap:Nat) (fv:Value) (w:World) :
   Calls Tryz.prog 155 #[.slice p 0 cap,fv] w fun e w'=>e=.returned (.tuple #[])∧w'=w:=AnyF.slices_SortFunc_none Tryz.laysSlF06_f155 p cap fv w
open Go.RowKit Go.Lib Go.Sort in
theorem Tryz.slices_SortFunc_total {α:Type} [Inhabited α] (enc:α→Value) (h1:OneCell enc) (cf:α→α→Int) (hO:SWO (ltOf cf)) (g:Nat) (cb:Array Value) (blk off cap:Nat) (d:Array α) (w:World) (eg:∀ args w,(callFunc g args).run Tryz.prog w=.ok (.enter g args) w) (hcmp:CmpLays1 Tryz.prog g cb enc cf blk off d.size w) (hH:Holds enc w blk off d) (hblk:blk<w.heap.size) (hsz:d.size<4611686018427387904) (hT:∀ x y,(ltOf cf) x y=false→(ltOf cf) y x=false→x=y) :
   Calls Tryz.prog 155 #[.slice (some ⟨blk,off,none⟩) d.size cap,.func (.func g) #[] cb] w fun e w' =>
     e=.returned (.tuple #[])∧∃ n os,w'=sortWorld enc w blk off n (d.toList.mergeSort fun x y=>!(ltOf cf) y x).toArray os:=Any.slices_SortFunc_total Tryz.laysSlF6_f155 enc h1 cf hO g cb blk off cap d w eg hcmp hH hblk hsz hT
end Go.Proofs
namespace Go.Proofs.YthmmfhdpkddniaaGreatDoor
open Go.RowKit
def MI {α:Type} (n:Nat) (P:Program) (g:Nat) (lb:Array Value) (encs:α→Array Value) (base:aD) (Φ:List α→α→aD→Prop) (Ok:List α→World→Prop) (S' Sp:List α→Prop) (I0:aD):Prop:=
 ∀ (l:Nat) (J Jx:List α→aD→Prop) (W:World) (C:aD),(∀ pre C W,J pre C→C.ok W→Ok pre W) →
   (∀ pre x W1 I C,J pre C→Φ pre x I→S W1 [base,I,C]→YieldAt (WF none) (n - 1) P l (encs x) W1 fun e W' =>
     (e=.returned (.bool true)∧∃ C',J (pre++[x]) C'∧S W' [base,I,C'])∨(e=.returned (.bool false)∧∃ C',Jx (pre++[x]) C'∧S W' [base,I,C'])) →
   J [] C→S W [base,I0,C] →
   CallsIn (WF none) n P g (#[.func (.yield l) #[] #[]]++lb) W fun e W'=>(∃ v,e=.returned v)∧((∃ xs C,S' xs∧J xs C∧S W' [base,C])∨(∃ pre C,Sp pre∧Jx pre C∧S W' [base,C]))
def EQ {ι:Type} (N:Nat) (FA:ι→Fr) (LA:ι→List aD) (L:List aD) (a:Act) (w:World):Prop:=∃ i,jX N a (FA i) []∧S w (LA i++L)
section
variable {P:Program} {N:Nat} {Q:Exit→Act→World→Prop} {f:Fr} {ds:List Deferred} {w:World} {n:Nat} {ops:Array Oper} {rest:List Oper} {o:Oper} {L:List aD}
theorem iD {ι:Type} {FA:ι→Fr} {LA:ι→List aD} (i:ι) (hs:sub (FA i) f) (H:S w (LA i++L)):G N (EQ N FA LA L) f [] w:=fun a ha=>⟨i,ha.weak hs,H⟩
end
def upd {α:Type} (tk:Nat→α) (x:Nat) (a:α):Nat→α:=fun y=>if y=x then a else tk y
def SV {α:Type} (e:TypeId) (enc:α→Array Value) (gs:List Nat) (tk:Nat→α):aD:=
 ⟨fun g=>g∈gs,fun w=>gs.Nodup∧∀ x∈gs,w.heap[x]?=some (.cells (enc (tk x)) e (0,0)),fun h k=>⟨k.1,fun x hx=>(h.block x hx).trans (k.2 x hx)⟩⟩
section
variable {P:Program} {N:Nat} {Q:Exit→Act→World→Prop} {f:Fr} {ds:List Deferred} {w w':World} {o:Oper} {ops:Array Oper} {L:List aD} {K:Act→World→Prop}
variable {α:Type} {e:TypeId} {enc:α→Array Value} {gs:List Nat} {tk:Nat→α}
theorem oY {β:Type}:∀ {l:List β} {j:Nat} {r:β},l[j]?=some r→l.Perm (r :: l.eraseIdx j)
 | [],j,r,h=>by cases h
 | a :: l,0,r,h=>by cases h; exact .refl _
 | a :: l,j+1,r,h=>by
   rw [List.getElem?_cons_succ] at h
   exact ((oY h).cons a).trans (List.Perm.swap ..)
end
section
variable {P:Program} {N:Nat} {Q:Exit→Act→World→Prop} {f:Fr} {ds:List Deferred} {w w':World} {o:Oper} {ops:Array Oper} {L:List aD} {K:Act→World→Prop}
abbrev SS:ByteArray→Prop:=fun s=>s.size≤1048576
def KN {κ α:Type} (ok:κ→Prop) (M:κ→Option α) (n:Nat):Prop:=∃ kv:List (κ × α),(kv.map Prod.fst).Nodup∧(∀ p:κ × α,p∈kv ↔ (ok p.1∧M p.1=some p.2))∧n=kv.length
theorem HY {κ α:Type} {ek:κ→Value} {va:α→Value} {ok:κ→Prop} {M:κ→Option α} {t k e:TypeId} {d g:Nat} {x:Operand} (H:S w L) (k0:Nat) (hw:Wt ops f o) (hd:o.dst=some d) (hN:Nat.blt d N=true)
   (hk:L[k0]?=some (Mp ek va ok g M)) (ho:o.op=.call { callee:=.builtin .len,args:=#[x],argTypes:=#[t] }) (hx:cy f x=some (.map (some g))) (hu:P.underlying t=some (.map k e))
   (h:∀ n:Nat,KN ok M n→G N K ((d,.int .i64 (n:Int)) :: f) ds w):G N (bH P ops Q o K) f ds w:=by
 obtain ⟨es,c,kv,hb,hkv⟩:=H.mp hk
 have hl:=hkv.len
 refine aJ hw hd hN (fW (vs:=[.map (some g)]) (v:=.int .i64 (es.size:Int)) (w':=w) ho (by simp only [rj,hx]) (fun cs=>by simp [builtin,Builtin.len_,run_underlying hu,goInt,Go.MapKept.run_getObj_map hb,Result.andThen])) (h es.size ⟨kv,hkv.nodup,hkv.is,hl⟩)
theorem Q0 {κ α β:Type} {ok:κ→Prop} {M1:κ→Option α} {M2:κ→Option β} {n1 n2:Nat} (h1:KN ok M1 n1) (h2:KN ok M2 n2) (h:∀ s,ok s→((M1 s).isSome=true ↔ (M2 s).isSome=true)):n1=n2:=by
 obtain ⟨kv1,a1,b1,rfl⟩:=h1
 obtain ⟨kv2,a2,b2,rfl⟩:=h2
 have hp:(kv1.map Prod.fst).Perm (kv2.map Prod.fst):=by
   rw [List.perm_ext_iff_of_nodup a1 a2]
   intro s
   have key:∀ {γ:Type} {M:κ→Option γ} {kv:List (κ × γ)},(∀ p:κ × γ,p∈kv ↔ (ok p.1∧M p.1=some p.2))→(s∈kv.map Prod.fst ↔ ok s∧(M s).isSome=true):=fun {γ M kv} hb=>by
     constructor
     · intro hs
       obtain ⟨p,hp,rfl⟩:=List.mem_map.1 hs
       obtain ⟨q1,q2⟩:=(hb p).1 hp
       exact ⟨q1,by rw [q2]; rfl⟩
     · rintro ⟨q1,q2⟩
       obtain ⟨b,hb2⟩:=Option.isSome_iff_exists.1 q2
       exact List.mem_map.2 ⟨(s,b),(hb (s,b)).2 ⟨q1,hb2⟩,rfl⟩
   rw [key b1,key b2]
   exact ⟨fun q=>⟨q.1,(h s q.1).1 q.2⟩,fun q=>⟨q.1,(h s q.1).2 q.2⟩⟩
 have:=hp.length_eq
 simpa using this
end
section
variable {P:Program} {N:Nat} {Q:Exit→Act→World→Prop} {f:Fr} {ds:List Deferred} {w w':World} {o:Oper} {ops:Array Oper} {L:List aD} {K:Act→World→Prop}
variable {κ α:Type} {ek:κ→Value} {va:α→Value} {ok:κ→Prop} {M:κ→Option α}
theorem A5 {t k e d:TypeId} {y:Operand} {g:Nat} (T:rP P t k e ek ok) (H:S w L) (k0:Nat) (hw:Wt ops f o) (hd:o.dst=some d) (hN:Nat.blt d N=true) (hk:L[k0]?=some (Mp ek va ok g M)) (ho:o.op=.range t y) (hy:cy f y=some (.map (some g)))
   (h:∀ r rem w',(rem.map Prod.fst).Nodup→(∀ p,p∈rem ↔ ok p.1∧M p.1=some p.2)→S w' (L.set k0 (MN ek va ok g r M rem none))→G N K ((d,.pointer (some ⟨r,0,none⟩)) :: f) ds w'):G N (bH P ops Q o K) f ds w:=by
 obtain ⟨es,c,kv,hb,hkv⟩:=H.mp hk
 have hgl:g<w.heap.size:=(Array.getElem?_eq_some_iff.1 hb).1
 have hrun:(Instr.range t (.map (some g))).run P w=.ok (.pointer (some ⟨w.heap.size,0,none⟩)) (w.alloc (.mapIter (some g) c #[] c)):=by
   simp [Instr.range,run_underlying T.ht,MapKept.run_getObj_map hb,newObj,Sem.run,Result.andThen]
 have hs:iY (fun j=>j<w.heap.size) w (w.alloc (.mapIter (some g) c #[] c)):=⟨rfl,rfl,rfl,by simp,fun j hj=>Below.heap_alloc _ _ _ hj,Nat.le_refl _⟩
 have hrem:nh es kv #[]=kv:=by
   unfold nh vb
   rw [List.filter_eq_self.2 (fun z _=>by simp)]
   exact List.map_snd_zip (by have:=hkv.len; simp; omega)
 refine aJ hw hd hN (fH (x:=Instr.range t (.map (some g))) (fun a ha=>by unfold execOp; simp only [ho,ha.eval hy]) hrun) (h _ kv _ hkv.nodup hkv.is ?_)
 refine H.turn hk (hs.less fun j hj=>hj.1) ⟨by omega,es,c,kv,#[],c,c,?_,hkv,heap_alloc_new w _,hkv.old,⟨Nat.le_refl _,Nat.le_refl _⟩,hrem.symm,fun h=>Bool.noConfusion h,trivial⟩ (fun j hj=>?_)
 · rw [Below.heap_alloc _ _ _ hgl]; exact hb
 rcases hj with rfl | rfl
 · exact ⟨.inl rfl,by simp; omega⟩
 exact ⟨.inr (Nat.le_refl _),by simp⟩
def SR (ek:κ→Value) (va:α→Value) (ok:κ→Prop) (ms:List Nat) (ct:Nat→κ→Option α):aD:=fN (ms.map fun x=>Mp ek va ok x (ct x))
variable {ms:List Nat} {ct:Nat→κ→Option α}
end
section
variable {P:Program} {N:Nat} {Q:Exit→Act→World→Prop} {f:Fr} {ds:List Deferred} {w w':World} {o:Oper} {ops:Array Oper} {L:List aD} {K:Act→World→Prop}
theorem uI {t e size n c:Nat} {p:Option Addr} {x y2 y3:Operand} {k2 k3:IntKind} {i2 i3:Int} (h m:Nat) (ho:o.op=.slice t x none (some y2) (some y3)) (hx:cy f x=some (.slice p n c)) (h2:cy f y2=some (.int k2 i2)) (h3:cy f y3=some (.int k3 i3))
   (hu:P.underlying t=some (.slice e)) (hz:jW P e=some size) (hb:i2=(h:Int)∧i3=(m:Int)∧h≤m∧m≤c) :
   Ex P N f ds o w (.slice (if m=0 then p else p.map fun q=>q.add (0 * size)) h m) w:=
 fH (x:=Instr.sliceAt t (.slice p n c) none (some (.int k2 i2)) (some (.int k3 i3))) (fun a ha=>by unfold execOp; simp only [ho,ha.eval hx,ha.eval h2,ha.eval h3,Option.map_some,Option.map_none]) (by
   obtain ⟨rfl,rfl,q2,q3⟩:=hb
   have hel:P.elem t=e:=by unfold Program.elem; rw [hu]
   have hu':P.underlying t=some (.slice (P.elem t)):=by rw [hel]; exact hu
   have hrun:(Instr.slice t (.slice p n c) none (some (.int k2 (h:Int))) (some (.int k3 (m:Int)))).run P w=((sizeOf (P.elem t)).run P w).andThen fun s w=>.ok (sliced p 0 h m s) w:=by
     simp [Instr.slice,run_underlying hu',Instr.sliceBounds,run_sliceBound,sliced,q2,q3]
   rw [run_sliceAt_slice (P:=P) w t _ _ _ _ hu',hrun,hel,iZ hz]
   simp only [Result.andThen_ok,sliced,Nat.sub_zero])
theorem BV {d t e size bytes n m c:Nat} {s x:Operand} {z:Value} {xs news:List Value} {p:Option Addr} {ad:Addr} (H:S w L) (hw:Wt ops f o) (hd:o.dst=some d) (hN:Nat.blt d N=true)
   (ho:o.op=.call { callee:=.builtin .append,args:=#[s,x],argTypes:=#[t,t] }) (hs:cy f s=some (.slice p n n)) (hx:cy f x=some (.slice (some ad) m c)) (hr0:bz w p n n size xs)
   (ht:P.underlying t=some (.slice e)) (hi:kf P e=some (some z,size,bytes)) (hz:z.cells.size=size) (hsz:0<size) (hb0:0<bytes) (hr:bz w (some ad) m c size news) (hm:0<m) (h1:news.all (·.oneCell')=true)
   (hb:(n+m) * bytes≤140737488355328)
   (h:∀ p' c' w',S w' (Rw e size p' (n+m) c' (xs++news) :: L)→G N K ((d,.slice p' (n+m) c') :: f) ds w'):G N (bH P ops Q o K) f ds w:=by
 cases p with
 | some a=>exact yE H hw hd hN ho hs hx hr0 ⟨a,rfl⟩ ht hi hz hsz hb0 hr hm h1 hb h
 | none =>
   obtain ⟨k1,_,k3⟩:=hr0
   have hn:n=0:=by
     rcases Nat.eq_zero_or_pos n with h0 | h0
     · exact h0
     · obtain ⟨a,ha,_⟩:=k3 h0; cases ha
   subst hn
   have hxs:xs=[]:=List.eq_nil_of_length_eq_zero (by rw [k1,Nat.zero_mul])
   subst hxs
   obtain ⟨q1,q2,q3⟩:=hr
   obtain ⟨a,ha,hc⟩:=q3 hm
   cases ha
   exact nH (xs:=[]) (H.nilRw e size) 0 hw hd hN ho hs hx rfl ht hi hz hsz hb0 q1 hm hc h1 hb (fun p' c' w' h9=>h p' c' w' h9)
end
end Go.Proofs.YthmmfhdpkddniaaGreatDoor
namespace Go.Proofs.YthmmfhdpkddniaaGreatDoor
open Go.RowKit Go.Sort
def zV (l:List Int):List Value:=l.map (Value.int .i64)
theorem GO (l:List Int):(zV l).length=l.length:=by unfold zV; simp
def vg (l:List Int):List Int:=l.mergeSort fun x y=>decide (x≤y)
theorem xQ (l:List Int):(vg l).Perm l:=List.mergeSort_perm ..
theorem uO (l:List Int):(vg l).length=l.length:=(xQ l).length_eq
theorem r6 {w:World} {os:Array Obj} {k:Nat} (h:k<w.heap.size):(grow w os).heap[k]?=w.heap[k]?:=by
 unfold grow
 exact Array.getElem?_append_left h
theorem yp {w:World} {g k:Nat} {f:Array Value→Array Value} (h:k ≠ g):(mapBlock w g f).heap[k]?=w.heap[k]?:=by
 unfold mapBlock
 rw [Array.getElem?_modify,if_neg (fun e=>h e.symm)]
theorem yG {w:World} {g:Nat} {f:Array Value→Array Value} {c:Array Value} {e:TypeId} {fr:Nat × Nat} (h:w.heap[g]?=some (.cells c e fr)):(mapBlock w g f).heap[g]?=some (.cells (f c) e fr):=by
 unfold mapBlock
 rw [Array.getElem?_modify,if_pos rfl,h]; rfl
theorem NL {α:Type} [Inhabited α] {enc:α→Value} {off:Nat} {d:Array α} {c:Array Value} {j:Nat} (hj:j<d.size) (hc:off+d.size≤c.size):(putCells enc off d c)[off+j]?=some (enc d[j]!):=by
 unfold putCells
 rw [Array.getElem?_mapIdx,Array.getElem?_eq_getElem (by omega)]
 simp only [Option.map_some]
 rw [if_pos ⟨by omega,by omega⟩,show off+j - off=j from by omega]
theorem H_ {α:Type} [Inhabited α] {enc:α→Value} {off:Nat} {d:Array α} {c:Array Value}:(putCells enc off d c).size=c.size:=by
 unfold putCells; simp
section
variable {w:World} {l:List Int} {p:Option Addr} {n c:Nat} {L:List aD}
theorem D8 {g o:Nat} {cur:Array Value} (hg:w.heap[g]?=some (.cells cur 3 (0,0))) (hc:∀ j u,(zV l)[j]?=some u→cur[o+j]?=some u):Holds (Value.int .i64) w g o l.toArray:=fun j hj=>by
 have hj2:j<l.length:=by simpa using hj
 refine ⟨?_,?_⟩
 · rw [cell_of_row w g _ cur 3 (0,0) hg]
   refine (hc j _ (show (zV l)[j]?=some (.int .i64 l[j]) from ?_)).trans ?_
   · unfold zV; rw [List.getElem?_map,List.getElem?_eq_getElem hj2]; rfl
   rw [getElem!_pos _ j hj]; rfl
 unfold World.frozen?
 rw [hg]; simp
theorem Ms {g o:Nat} {cur:Array Value} {m:List Int} {os:Array Obj} {q n':Nat} (H:S w L) {k:Nat} (hk:L[k]?=some (Rw 3 1 (some ⟨g,o,none⟩) n c (zV l))) (hg:w.heap[g]?=some (.cells cur 3 (0,0))) (hs:o+c≤cur.size) (hn:n≤c) (hcm:c≤maxLen) (hm:n'≤m.length) (hml:m.length≤c) (hn':n'≤n) :
   S (grow (putRow (Value.int .i64) (Go.Sort.ahead w q) g o m.toArray) os) (L.set k (Rw 3 1 (some ⟨g,o,none⟩) n' c (zV (m.take n')))):=by
 have hlt:g<w.heap.size:=(Array.getElem?_eq_some_iff.1 hg).1
 have hW:(putRow (Value.int .i64) (Go.Sort.ahead w q) g o m.toArray).heap.size=w.heap.size:=by rw [size_putRow]; rfl
 have hblk:(grow (putRow (Value.int .i64) (Go.Sort.ahead w q) g o m.toArray) os).heap[g]?=some (.cells (putCells (Value.int .i64) o m.toArray cur) 3 (0,0)):=by
   rw [r6 (by rw [hW]; exact hlt)]
   exact yG (w:=Go.Sort.ahead w q) hg
 refine H.turn (it':=Rw 3 1 (some ⟨g,o,none⟩) n' c (zV (m.take n'))) hk ⟨rfl,rfl,rfl,?_,fun k hk=>?_,Nat.le_add_right _ _⟩ ⟨?_,by omega,hcm,.inr ⟨g,o,_,rfl,hblk,?_,fun j u hu=>?_⟩⟩ (fun b hb=>⟨.inl hb,?_⟩)
 · show w.heap.size≤(grow _ os).heap.size
   unfold grow
   simp only [Array.size_append]
   rw [hW]; omega
 · rw [r6 (by rw [hW]; exact hk.1)]
   exact yp (w:=Go.Sort.ahead w q) (fun e=>hk.2 ⟨o,by rw [e]⟩)
 · rw [GO,List.length_take]; omega
 · rw [H_,Nat.mul_one]; exact hs
 · have hj:j<n':=by
     have:=(List.getElem?_eq_some_iff.1 hu).1
     rw [GO,List.length_take] at this; omega
   rw [NL (by simp; omega) (by simp; omega)]
   unfold zV at hu
   rw [List.getElem?_map,List.getElem?_take_of_lt hj,List.getElem?_eq_getElem (by omega)] at hu
   simp only [Option.map_some,Option.some.injEq] at hu
   rw [← hu,getElem!_pos _ j (by simp; omega)]
   simp
 obtain ⟨o'',ho''⟩:=hb
 have:b=g:=by cases ho''; rfl
 rw [this]
 show g<(grow _ os).heap.size
 unfold grow
 simp only [Array.size_append]
 rw [hW]; omega
end
theorem CS (l:List Int) (p:Option Addr) (n c:Nat) (hn:l.length=n) (hn2:n≤1000000) (w:World) (HS:S w [Rw 3 1 p n c (zV l)]) :
   Calls Tryz.prog 48 #[.slice p n c] w fun e w'=>e=.returned (.tuple #[])∧S w' ([Rw 3 1 p n c (zV (vg l))]++[aB w (aT [Rw 3 1 p n c (zV l)])]):=by
 have H:=HS.beginI
 obtain ⟨k1,k2,k3,k4⟩:=HS.rw (k:=0) rfl
 rcases Nat.eq_zero_or_pos n with hz | hp
 · subst hz
   have hl:l=[]:=List.eq_nil_of_length_eq_zero hn
   subst hl
   refine (Tryz.slices_Sort_int_none p c w).mono ?_
   rintro e w' ⟨rfl,rfl⟩
   rw [show vg []=[] from by simp [vg]]
   exact ⟨rfl,H⟩
 rcases k4 with ⟨_,h0,_⟩ | ⟨g,o,cur,rfl,hg,hs,hc⟩
 · omega
 rw [Nat.mul_one] at hs
 have hlt:g<w.heap.size:=(Array.getElem?_eq_some_iff.1 hg).1
 have hr:=Tryz.slices_Sort_int g o c l w (D8 hg hc) hlt (by omega)
 rw [hn] at hr
 refine hr.mono ?_
 rintro e w' ⟨rfl,m,os,rfl⟩
 refine ⟨rfl,?_⟩
 have h9:=Ms (m:=vg l) (os:=os) (q:=m) (n':=n) H (k:=0) rfl hg hs k2 k3 (by rw [uO]; omega) (by rw [uO]; omega) (Nat.le_refl _)
 rw [List.take_of_length_le (by rw [uO]; omega)] at h9
 exact h9
end Go.Proofs.YthmmfhdpkddniaaGreatDoor
