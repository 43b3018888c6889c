import Derived.Test.YtpbjekdjebjbkaaGreatDoorFj
set_option linter.unusedSimpArgs false
set_option linter.unusedVariables false
namespace Go.Proofs.YtpbjekdjebjbkaaGreatDoor
open Go.RowKit
open Go.Maps (Keyed)
def okI (x:Int):Prop:=-9223372036854775808≤x∧x≤9223372036854775807
theorem okI_wf {x:Int} (h:okI x):(Lit.int .i64 x).wf=true:=by
 have h1:IntKind.i64.min=-9223372036854775808:=by decide
 have h2:IntKind.i64.max=9223372036854775807:=by decide
 obtain ⟨a,b⟩:=h
 simp [Lit.wf,h1,h2]; omega
theorem wf_okI {x:Int} (h:(Lit.int .i64 x).wf=true):okI x:=by
 have h1:IntKind.i64.min=-9223372036854775808:=by decide
 have h2:IntKind.i64.max=9223372036854775807:=by decide
 simp [Lit.wf,h1,h2] at h
 exact h
theorem intTy {P:Program} {t k e:TypeId} (ht:P.underlying t=some (.map k e)) (hk:P.underlying k=some (.int .i64)):MapTy P t k e (Value.int .i64) okI:=
 ⟨ht,Go.Maps.int_keyed hk,fun x hx=>⟨_,Go.Maps.keyOf_int_mk hk (okI_wf hx)⟩,fun x y _ _ h=>by cases h; rfl⟩
theorem look_B (x:Option Bool):(x.map Value.bool).getD (.bool false)=.bool (x.getD false):=by cases x <;> rfl
theorem look_I (x:Option Int):(x.map (Value.int .i64)).getD (.int .i64 0)=.int .i64 (x.getD 0):=by cases x <;> rfl
end Go.Proofs.YtpbjekdjebjbkaaGreatDoor
