import Derived.Test.YtpbjekdjebjbkaaGreatDoorFm
import Derived.Test.YtpbjekdjebjbkaaGreatDoorYd
set_option linter.unusedSimpArgs false
set_option linter.unusedVariables false
namespace Go.Proofs.YtpbjekdjebjbkaaGreatDoor
open Go.RowKit
theorem cl11:callable Tryz.prog 11=true:=by kernel_rfl
theorem change_g {pl:List Rd} {X:GM} {g0:Nat} {w:World} (hX:MOK pl X) (hg:X.g=g0) (n:Int) (hn:0≤n∧n<X.A.ps.length) (st rt:Int) (hp:(1≤st∧st≤7)∧0≤rt∧rt≤1000000) (HS:S w [X.I]):Calls Tryz.prog 11 #[.pointer (some ⟨g0,0,none⟩),.int .i64 n,.agg #[.int .i64 st,.int .i64 rt]] w fun e w'=>∃ Y:GM,e=.returned (.int .i64 0)∧Y.A=chA X.A n.toNat ⟨st,rt⟩∧Y.g=g0∧Y.gs.length=X.gs.length∧MOK pl Y∧S w' ([Y.I]++[Old w (fps [X.I])]):=by
 subst hg
 refine (change_x X hX.ok n hn st rt hp w HS).mono ?_
 rintro e w' ⟨Y,rfl,hA,hg2,hs,h⟩
 exact ⟨Y,rfl,hA,hg2,by rw [hs],⟨hA ▸ chA_ok hX.ok hp,fun r hr=>hX.mem r (hs ▸ hr)⟩,h⟩
noncomputable def gainV (A:GA) (n r:Nat) (rt st:Int) (s:Int):Int:=((stepsA r (if s=st then A else chA A n ⟨s,rt⟩)).got.getD n 0) - A.got.getD n 0
noncomputable def bestF (A:GA) (n r:Nat) (rt st:Int):Nat→Int × Int
 | 0=>(0,-1)
 | k+1=>if (bestF A n r rt st k).2<gainV A n r rt st ((k+1:Nat):Int) then (((k+1:Nat):Int),gainV A n r rt st ((k+1:Nat):Int)) else bestF A n r rt st k
theorem gotD_bd {A:GA} (h:GOK A) (n:Nat):0≤A.got.getD n 0∧A.got.getD n 0≤10000000 * (A.gv.length:Int):=h.gt.2.getD (by omega) n
end Go.Proofs.YtpbjekdjebjbkaaGreatDoor
