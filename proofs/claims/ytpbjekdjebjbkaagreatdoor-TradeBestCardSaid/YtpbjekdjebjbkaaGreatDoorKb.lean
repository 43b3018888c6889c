import Derived.Test.YtpbjekdjebjbkaaGreatDoorFm
import Derived.Test.YtpbjekdjebjbkaaGreatDoorKa
set_option maxRecDepth 20000
set_option maxHeartbeats 4000000
set_option linter.unusedSimpArgs false
set_option linter.unusedVariables false
namespace Go.Proofs.YtpbjekdjebjbkaaGreatDoor
open Go.RowKit
theorem sz180:szO Tryz.prog 180=some 1:=by kernel_rfl
theorem FunC.ofBig {β:Type} {P:Program} {g:Nat} {fi ca:Array Value} {L:List Item} {av:β→List Value} {rv:β→Value} {D:β→Prop} (hg:callable P g=true) (h:∀ b,D b→∀ w,S w L→Calls P g (fi.toList++av b++ca.toList).toArray w fun e w'=>e=.returned (rv b)∧S w' (L++[Old w (fps L)])):FunC P g fi ca (Big L) av rv D:=⟨hg,fun b hb w HS=>by
 have h2:S w (L++[]):=S.unbig HS
 rw [List.append_nil] at h2
 refine (h b hb w h2).mono ?_
 rintro e w' ⟨he,hs⟩
 refine ⟨he,?_⟩
 have e2:fps [Big L]=fps L:=by
   funext k
   refine propext ⟨fun ⟨it,h1,h3⟩=>?_,fun h=>⟨Big L,List.mem_singleton.2 rfl,h⟩⟩
   rw [List.mem_singleton] at h1; subst h1; exact h3
 rw [e2]; exact S.big (B:=[_]) hs⟩
theorem mV_rv (z:List (Rv × Nat)):mV (fun p:Rv × Nat=>p.1.v) z=fl rvL (z.map Prod.fst):=by
 unfold mV fl
 rw [List.flatMap_map]; rfl
theorem sortR (l:List Rv) (p:Option Addr) (cc:Nat) (hl:l.length≤20) (gf:Nat) (figf cagf:Array Value) (X:Item) (c:Rv→Rv→Int) (D:Rv→Prop) (hf:FunC Tryz.prog gf figf cagf X (fun p:Rv × Rv=>[p.1.v,p.2.v]) (fun p=>.int .i64 (c p.1 p.2)) (fun p=>D p.1∧D p.2)) (hD:∀ x∈l,D x) (w:World) (HS:S w [Rw 111 10 p l.length cc (fl rvL l),X]):Calls Tryz.prog 148 #[.slice p l.length cc,.func (.func gf) figf cagf] w fun e w'=>e=.returned (.tuple #[])∧S w' ([Rw 111 10 p l.length cc (fl rvL (srt Rv.zero c l)),X]++[Old w (fps [Rw 111 10 p l.length cc (fl rvL l),X])]):=by
 have h:=sortStable_s (Rv.zero,0) (fun p:Rv × Nat=>p.1.v) (fun p=>(p.1.v).cells) (fun _=>rfl) (fun _=>rfl) (fun _=>rfl) l.zipIdx l.length List.length_zipIdx p cc (by omega) (fun p q=>c p.1 q.1) gf figf cagf X (hf.cmpsZ (l:=l.zipIdx) fun x hx=>hD x.1 (List.fst_mem_of_mem_zipIdx hx)) hl w (by rw [mV_rv,zipFst]; exact HS)
 rw [mV_rv,mV_rv,zipFst] at h
 exact h
theorem less_s (gf:Nat) (figf cagf:Array Value)  (w:World):Calls Tryz.prog 129 #[.func (.func gf) figf cagf] w fun e w'=>∃ b,e=.returned (.func (.func 152) #[] #[.pointer (some ⟨b,0,none⟩)])∧S w' ([Ob b (.cells #[.func (.func gf) figf cagf] 135 (0,0))]++[Old w no]):=by
 have H0:=S.old w
 refine enter 4 Tryz.func129 rfl rfl rfl ?_
 refine g_wk [(0,_)] ?_
 refine w_s ?_
 refine l_of (s_box H0 (wt0 rfl) rfl rfl rfl rfl ?_)
 intro g1 wq2 H3
 refine w_k3 ?_
 refine w_v (x_makeFunc rfl rfl rfl) ?_
 refine w_k3 ?_
 refine fin_r [.tmp 2] [.func (.func 152) #[] #[.pointer (some ⟨g1,0,none⟩)]] ?_
 exact ⟨_,rfl,H3⟩
theorem less1_s (b:Nat) (gf:Nat) (figf cagf:Array Value) (X:Item) (f:Rv→Int) (D:Rv→Prop) (hf:FunC Tryz.prog gf figf cagf X (fun x:Rv=>[x.v]) (fun x=>.int .i64 (f x)) D) (hsub:∀ x y,D x→D y→-9223372036854775808≤f x - f y∧f x - f y≤9223372036854775807) (x y:Rv) (hx:D x) (hy:D y)  (w:World) (HS:S w [Ob b (.cells #[.func (.func gf) figf cagf] 135 (0,0)),X]):Calls Tryz.prog 152 #[.agg #[.int .i64 (x.id),.bool x.intr,.bool x.chk,.int .i64 (x.frm),.int .i64 (x.to),.int .i64 (x.lt),.int .i64 (x.since),.bool x.snb,.bool x.now,.bool x.seed],.agg #[.int .i64 (y.id),.bool y.intr,.bool y.chk,.int .i64 (y.frm),.int .i64 (y.to),.int .i64 (y.lt),.int .i64 (y.since),.bool y.snb,.bool y.now,.bool y.seed],.pointer (some ⟨b,0,none⟩)] w fun e w'=>e=.returned (.int .i64 (f x - f y))∧S w' ([Ob b (.cells #[.func (.func gf) figf cagf] 135 (0,0)),X]++[Old w (fps [Ob b (.cells #[.func (.func gf) figf cagf] 135 (0,0)),X])]):=by
 have H0:=HS.beginI
 have hs1:=hsub x y hx hy
 have hs2:=hsub y x hy hx
 refine enter 13 Tryz.func152 rfl rfl rfl ?_
 refine g_wk [(0,_),(1,_),(2,_)] ?_
 refine w_s ?_
 refine l_of (s_box H0 (wt0 rfl) rfl rfl rfl rfl ?_)
 intro g1 wq2 H3
 refine l_of (s_box H3 (wt0 rfl) rfl rfl rfl rfl ?_)
 intro g4 wq5 H6
 refine w_k2 ?_
 refine g_seq ?_
 refine g_any [] (fun wx=>S wx [Ob g4 (.cells #[.int .i64 (y.id),.bool y.intr,.bool y.chk,.int .i64 (y.frm),.int .i64 (y.to),.int .i64 (y.lt),.int .i64 (y.since),.bool y.snb,.bool y.now,.bool y.seed] 111 (0,0)),Ob g1 (.cells #[.int .i64 (x.id),.bool x.intr,.bool x.chk,.int .i64 (x.frm),.int .i64 (x.to),.int .i64 (x.lt),.int .i64 (x.since),.bool x.snb,.bool x.now,.bool x.seed] 111 (0,0)),Ob b (.cells #[.func (.func gf) figf cagf] 135 (0,0))]) [] (by kernel_rfl) H6 (fun wq7 H8=>?_)
 have cm1:=H8.mask [true,true,true,false,false]
 refine w_t 0 rfl cm1 (fun _ H=>xl H 2) ?_
 refine w_t (v:=.agg #[.int .i64 (x.id),.bool x.intr,.bool x.chk,.int .i64 (x.frm),.int .i64 (x.to),.int .i64 (x.lt),.int .i64 (x.since),.bool x.snb,.bool x.now,.bool x.seed]) 1 rfl cm1 (fun _ H=>x_loadA H 1 rfl rfl Tryz.underlying111 rfl sz111 rfl rfl rfl) ?_
 refine w_t 3 rfl cm1 (fun _ H=>xl H 2) ?_
 refine w_t (v:=.agg #[.int .i64 (y.id),.bool y.intr,.bool y.chk,.int .i64 (y.frm),.int .i64 (y.to),.int .i64 (y.lt),.int .i64 (y.since),.bool y.snb,.bool y.now,.bool y.seed]) 4 rfl cm1 (fun _ H=>x_loadA H 0 rfl rfl Tryz.underlying111 rfl sz111 rfl rfl rfl) ?_
 refine a_one (i:=2) (by kernel_rfl) rfl ?_
 refine s_call (wt0 rfl) (x_call rfl rfl rfl hf.ok) (hf.does x (hx) _ (H8.tk [3])) ?_
 rintro _ wq9 ⟨rfl,H10⟩
 replace H10:S _ [_,_,_,_,_]:=H8.abI (new:=[_]) [3] H10 rfl
 refine b_ret rfl rfl ?_
 refine a_k (H10.mask [false,true,true,true,false]) ?_
 refine a_one (i:=5) (by kernel_rfl) rfl ?_
 refine s_call (wt0 rfl) (x_call rfl rfl rfl hf.ok) (hf.does y (hy) _ (H10.tk [0])) ?_
 rintro _ wq11 ⟨rfl,H12⟩
 replace H12:S _ [_,_,_,_,_]:=H10.abI (new:=[_]) [0] H12 rfl
 refine b_ret rfl rfl ?_
 have cm2:=H12.mask [false,true,true,true,false]
 refine a_k cm2 ?_
 refine w_t (v:=.int .i64 ((f x) - (f y))) 6 rfl cm2 (fun _ _=>x_bin rfl rfl rfl (b_sub (w64 (by omega)))) ?_
 refine w_t 7 rfl cm2 (fun _ _=>xa) ?_
 refine a_done (by kernel_rfl) ?_
 refine w_k2 ?_
 refine fin_r [.tmp 5] [.int .i64 ((f x) - (f y))] ?_
 exact ⟨rfl,H12.tk [3,0,4]⟩
theorem less1_f (b:Nat) (gf:Nat) (figf cagf:Array Value) (X:Item) (f:Rv→Int) (D:Rv→Prop) (hf:FunC Tryz.prog gf figf cagf X (fun x:Rv=>[x.v]) (fun x=>.int .i64 (f x)) D) (hsub:∀ x y,D x→D y→-9223372036854775808≤f x - f y∧f x - f y≤9223372036854775807):FunC Tryz.prog 152 #[] #[.pointer (some ⟨b,0,none⟩)] (Big [Ob b (.cells #[.func (.func gf) figf cagf] 135 (0,0)),X]) (fun p:Rv × Rv=>[p.1.v,p.2.v]) (fun p=>.int .i64 (f p.1 - f p.2)) (fun p=>D p.1∧D p.2):=
 FunC.ofBig (by kernel_rfl) fun z hb w HS=>less1_s b gf figf cagf X f D hf hsub _ _ hb.1 hb.2 w HS
theorem more_s (gf:Nat) (figf cagf:Array Value)  (w:World):Calls Tryz.prog 125 #[.func (.func gf) figf cagf] w fun e w'=>∃ b,e=.returned (.func (.func 150) #[] #[.pointer (some ⟨b,0,none⟩)])∧S w' ([Ob b (.cells #[.func (.func gf) figf cagf] 135 (0,0))]++[Old w no]):=by
 have H0:=S.old w
 refine enter 4 Tryz.func125 rfl rfl rfl ?_
 refine g_wk [(0,_)] ?_
 refine w_s ?_
 refine l_of (s_box H0 (wt0 rfl) rfl rfl rfl rfl ?_)
 intro g1 wq2 H3
 refine w_k3 ?_
 refine w_v (x_makeFunc rfl rfl rfl) ?_
 refine w_k3 ?_
 refine fin_r [.tmp 2] [.func (.func 150) #[] #[.pointer (some ⟨g1,0,none⟩)]] ?_
 exact ⟨_,rfl,H3⟩
theorem more1_s (b:Nat) (gf:Nat) (figf cagf:Array Value) (X:Item) (f:Rv→Int) (D:Rv→Prop) (hf:FunC Tryz.prog gf figf cagf X (fun x:Rv=>[x.v]) (fun x=>.int .i64 (f x)) D) (hsub:∀ x y,D x→D y→-9223372036854775808≤f x - f y∧f x - f y≤9223372036854775807) (x y:Rv) (hx:D x) (hy:D y)  (w:World) (HS:S w [Ob b (.cells #[.func (.func gf) figf cagf] 135 (0,0)),X]):Calls Tryz.prog 150 #[.agg #[.int .i64 (x.id),.bool x.intr,.bool x.chk,.int .i64 (x.frm),.int .i64 (x.to),.int .i64 (x.lt),.int .i64 (x.since),.bool x.snb,.bool x.now,.bool x.seed],.agg #[.int .i64 (y.id),.bool y.intr,.bool y.chk,.int .i64 (y.frm),.int .i64 (y.to),.int .i64 (y.lt),.int .i64 (y.since),.bool y.snb,.bool y.now,.bool y.seed],.pointer (some ⟨b,0,none⟩)] w fun e w'=>e=.returned (.int .i64 (f y - f x))∧S w' ([Ob b (.cells #[.func (.func gf) figf cagf] 135 (0,0)),X]++[Old w (fps [Ob b (.cells #[.func (.func gf) figf cagf] 135 (0,0)),X])]):=by
 have H0:=HS.beginI
 have hs1:=hsub x y hx hy
 have hs2:=hsub y x hy hx
 refine enter 13 Tryz.func150 rfl rfl rfl ?_
 refine g_wk [(0,_),(1,_),(2,_)] ?_
 refine w_s ?_
 refine l_of (s_box H0 (wt0 rfl) rfl rfl rfl rfl ?_)
 intro g1 wq2 H3
 refine l_of (s_box H3 (wt0 rfl) rfl rfl rfl rfl ?_)
 intro g4 wq5 H6
 refine w_k2 ?_
 refine g_seq ?_
 refine g_any [] (fun wx=>S wx [Ob g4 (.cells #[.int .i64 (y.id),.bool y.intr,.bool y.chk,.int .i64 (y.frm),.int .i64 (y.to),.int .i64 (y.lt),.int .i64 (y.since),.bool y.snb,.bool y.now,.bool y.seed] 111 (0,0)),Ob g1 (.cells #[.int .i64 (x.id),.bool x.intr,.bool x.chk,.int .i64 (x.frm),.int .i64 (x.to),.int .i64 (x.lt),.int .i64 (x.since),.bool x.snb,.bool x.now,.bool x.seed] 111 (0,0)),Ob b (.cells #[.func (.func gf) figf cagf] 135 (0,0))]) [] (by kernel_rfl) H6 (fun wq7 H8=>?_)
 have cm1:=H8.mask [true,true,true,false,false]
 refine w_t 0 rfl cm1 (fun _ H=>xl H 2) ?_
 refine w_t (v:=.agg #[.int .i64 (y.id),.bool y.intr,.bool y.chk,.int .i64 (y.frm),.int .i64 (y.to),.int .i64 (y.lt),.int .i64 (y.since),.bool y.snb,.bool y.now,.bool y.seed]) 1 rfl cm1 (fun _ H=>x_loadA H 0 rfl rfl Tryz.underlying111 rfl sz111 rfl rfl rfl) ?_
 refine w_t 3 rfl cm1 (fun _ H=>xl H 2) ?_
 refine w_t (v:=.agg #[.int .i64 (x.id),.bool x.intr,.bool x.chk,.int .i64 (x.frm),.int .i64 (x.to),.int .i64 (x.lt),.int .i64 (x.since),.bool x.snb,.bool x.now,.bool x.seed]) 4 rfl cm1 (fun _ H=>x_loadA H 1 rfl rfl Tryz.underlying111 rfl sz111 rfl rfl rfl) ?_
 refine a_one (i:=2) (by kernel_rfl) rfl ?_
 refine s_call (wt0 rfl) (x_call rfl rfl rfl hf.ok) (hf.does y (hy) _ (H8.tk [3])) ?_
 rintro _ wq9 ⟨rfl,H10⟩
 replace H10:S _ [_,_,_,_,_]:=H8.abI (new:=[_]) [3] H10 rfl
 refine b_ret rfl rfl ?_
 refine a_k (H10.mask [false,true,true,true,false]) ?_
 refine a_one (i:=5) (by kernel_rfl) rfl ?_
 refine s_call (wt0 rfl) (x_call rfl rfl rfl hf.ok) (hf.does x (hx) _ (H10.tk [0])) ?_
 rintro _ wq11 ⟨rfl,H12⟩
 replace H12:S _ [_,_,_,_,_]:=H10.abI (new:=[_]) [0] H12 rfl
 refine b_ret rfl rfl ?_
 have cm2:=H12.mask [false,true,true,true,false]
 refine a_k cm2 ?_
 refine w_t (v:=.int .i64 ((f y) - (f x))) 6 rfl cm2 (fun _ _=>x_bin rfl rfl rfl (b_sub (w64 (by omega)))) ?_
 refine w_t 7 rfl cm2 (fun _ _=>xa) ?_
 refine a_done (by kernel_rfl) ?_
 refine w_k2 ?_
 refine fin_r [.tmp 5] [.int .i64 ((f y) - (f x))] ?_
 exact ⟨rfl,H12.tk [3,0,4]⟩
theorem more1_f (b:Nat) (gf:Nat) (figf cagf:Array Value) (X:Item) (f:Rv→Int) (D:Rv→Prop) (hf:FunC Tryz.prog gf figf cagf X (fun x:Rv=>[x.v]) (fun x=>.int .i64 (f x)) D) (hsub:∀ x y,D x→D y→-9223372036854775808≤f x - f y∧f x - f y≤9223372036854775807):FunC Tryz.prog 150 #[] #[.pointer (some ⟨b,0,none⟩)] (Big [Ob b (.cells #[.func (.func gf) figf cagf] 135 (0,0)),X]) (fun p:Rv × Rv=>[p.1.v,p.2.v]) (fun p=>.int .i64 (f p.2 - f p.1)) (fun p=>D p.1∧D p.2):=
 FunC.ofBig (by kernel_rfl) fun z hb w HS=>more1_s b gf figf cagf X f D hf hsub _ _ hb.1 hb.2 w HS
theorem ahead_s (gf:Nat) (figf cagf:Array Value)  (w:World):Calls Tryz.prog 127 #[.func (.func gf) figf cagf] w fun e w'=>∃ b2 b1,e=.returned (.func (.func 152) #[] #[.pointer (some ⟨b2,0,none⟩)])∧S w' ([Ob b2 (.cells #[.func (.func 151) #[] #[.pointer (some ⟨b1,0,none⟩)]] 135 (0,0)),Ob b1 (.cells #[.func (.func gf) figf cagf] 134 (0,0))]++[Old w no]):=by
 have H0:=S.old w
 refine enter 5 Tryz.func127 rfl rfl rfl ?_
 refine g_wk [(0,_)] ?_
 refine w_s ?_
 refine l_of (s_box H0 (wt0 rfl) rfl rfl rfl rfl ?_)
 intro g1 wq2 H3
 refine w_k3 ?_
 refine w_v (x_makeFunc rfl rfl rfl) ?_
 refine l_of (s_cl (less_s 151 #[] #[.pointer (some ⟨g1,0,none⟩)] _) ?_)
 rintro _ wq4 ⟨bl,rfl,H5⟩
 replace H5:S _ [_,_,_]:=H3.ab (new:=[_]) H5 rfl
 refine b_ret rfl rfl ?_
 refine w_k3 ?_
 refine fin_r [.tmp 2] [.func (.func 152) #[] #[.pointer (some ⟨bl,0,none⟩)]] ?_
 exact ⟨_,_,rfl,H5⟩
abbrev DKb0 (x:Rv):Array Value:=#[.int .i64 (x.id),.bool x.intr,.bool x.chk,.int .i64 (x.frm),.int .i64 (x.to),.int .i64 (x.lt),.int .i64 (x.since),.bool x.snb,.bool x.now,.bool x.seed]
theorem ahead1_s (b:Nat) (gf:Nat) (figf cagf:Array Value) (X:Item) (q:Rv→Bool) (D:Rv→Prop) (hf:FunC Tryz.prog gf figf cagf X (fun x:Rv=>[x.v]) (fun x=>.bool (q x)) D) (x:Rv) (hx:D x)  (w:World) (HS:S w [Ob b (.cells #[.func (.func gf) figf cagf] 134 (0,0)),X]):Calls Tryz.prog 151 #[.agg (DKb0 x),.pointer (some ⟨b,0,none⟩)] w fun e w'=>e=.returned (.int .i64 (if q x=true then 0 else 1))∧S w' ([Ob b (.cells #[.func (.func gf) figf cagf] 134 (0,0)),X]++[Old w (fps [Ob b (.cells #[.func (.func gf) figf cagf] 134 (0,0)),X])]):=by
 have H0:=HS.beginI
 refine enter 7 Tryz.func151 rfl rfl rfl ?_
 refine g_wk [(0,_),(1,_)] ?_
 refine w_s ?_
 refine l_of (s_box H0 (wt0 rfl) rfl rfl rfl rfl ?_)
 intro g1 wq2 H3
 refine w_k5 ?_
 refine w_v (v:=.agg (DKb0 x)) (x_loadA H3 0 rfl rfl Tryz.underlying111 rfl sz111 rfl rfl rfl) ?_
 refine l_of (s_call (wt0 rfl) (x_call rfl rfl rfl hf.ok) (hf.does x (hx) _ (H3.tk [2])) ?_)
 rintro _ wq4 ⟨rfl,H5⟩
 replace H5:S _ [_,_,_,_]:=H3.abI (new:=[_]) [2] H5 rfl
 refine b_ret rfl rfl ?_
 refine w_e ?_
 rcases Bool.eq_false_or_eq_true (q x) with hb6 | hb6
 ·
  refine g_cond_t rfl hb6 ?_
  refine w_k5 ?_
  refine fin_r [.tmp 3] [.int .i64 0] ?_
  exact ⟨by rw [if_pos hb6]; rfl,H5.tk [2,0,3]⟩
 ·
  refine g_cond_f rfl hb6 ?_
  refine w_k6 ?_
  refine fin_r [.tmp 3] [.int .i64 1] ?_
  exact ⟨by rw [if_neg (by rw [hb6]; decide)]; rfl,H5.tk [2,0,3]⟩
theorem ahead1_f (b:Nat) (gf:Nat) (figf cagf:Array Value) (X:Item) (q:Rv→Bool) (D:Rv→Prop) (hf:FunC Tryz.prog gf figf cagf X (fun x:Rv=>[x.v]) (fun x=>.bool (q x)) D):FunC Tryz.prog 151 #[] #[.pointer (some ⟨b,0,none⟩)] (Big [Ob b (.cells #[.func (.func gf) figf cagf] 134 (0,0)),X]) (fun x:Rv=>[x.v]) (fun x=>.int .i64 (if q x=true then 0 else 1)) D:=
 FunC.ofBig (by kernel_rfl) fun z hb w HS=>ahead1_s b gf figf cagf X q D hf _ hb w HS
theorem by_s (p:Option Addr) (n c:Nat)  (w:World):Calls Tryz.prog 124 #[.slice p n c] w fun e w'=>∃ b,e=.returned (.func (.func 149) #[] #[.pointer (some ⟨b,0,none⟩)])∧S w' ([Ob b (.cells #[.slice p n c] 189 (0,0))]++[Old w no]):=by
 have H0:=S.old w
 refine enter 4 Tryz.func124 rfl rfl rfl ?_
 refine g_wk [(0,_)] ?_
 refine w_s ?_
 refine l_of (s_box H0 (wt0 rfl) rfl rfl rfl rfl ?_)
 intro g1 wq2 H3
 refine w_k3 ?_
 refine w_v (x_makeFunc rfl rfl rfl) ?_
 refine w_k3 ?_
 refine fin_r [.tmp 2] [.func (.func 149) #[] #[.pointer (some ⟨g1,0,none⟩)]] ?_
 exact ⟨_,rfl,H3⟩
abbrev DKb1 (y:Rv):Array Value:=#[.int .i64 (y.id),.bool y.intr,.bool y.chk,.int .i64 (y.frm),.int .i64 (y.to),.int .i64 (y.lt),.int .i64 (y.since),.bool y.snb,.bool y.now,.bool y.seed]
theorem by1_4s (b ga:Nat) (D:Rv→Prop) (oA:Nat) (fioA caoA:Array Value) (XA:Item) (cA:Rv→Rv→Int) (hA:FunC Tryz.prog oA fioA caoA XA (fun p:Rv × Rv=>[p.1.v,p.2.v]) (fun p=>.int .i64 (cA p.1 p.2)) (fun p=>D p.1∧D p.2)) (oB:Nat) (fioB caoB:Array Value) (XB:Item) (cB:Rv→Rv→Int) (hB:FunC Tryz.prog oB fioB caoB XB (fun p:Rv × Rv=>[p.1.v,p.2.v]) (fun p=>.int .i64 (cB p.1 p.2)) (fun p=>D p.1∧D p.2)) (oC:Nat) (fioC caoC:Array Value) (XC:Item) (cC:Rv→Rv→Int) (hC:FunC Tryz.prog oC fioC caoC XC (fun p:Rv × Rv=>[p.1.v,p.2.v]) (fun p=>.int .i64 (cC p.1 p.2)) (fun p=>D p.1∧D p.2)) (oD:Nat) (fioD caoD:Array Value) (XD:Item) (cD:Rv→Rv→Int) (hD:FunC Tryz.prog oD fioD caoD XD (fun p:Rv × Rv=>[p.1.v,p.2.v]) (fun p=>.int .i64 (cD p.1 p.2)) (fun p=>D p.1∧D p.2)) (x y:Rv) (hx:D x) (hy:D y)  (w:World) (HS:S w [Ob b (.cells #[.slice (some ⟨ga,0,none⟩) (4) (4)] 189 (0,0)),Ob ga (.cells #[.func (.func oA) fioA caoA,.func (.func oB) fioB caoB,.func (.func oC) fioC caoC,.func (.func oD) fioD caoD] 180 (0,0)),XA,XB,XC,XD]):Calls Tryz.prog 149 #[.agg (DKb0 x),.agg (DKb1 y),.pointer (some ⟨b,0,none⟩)] w fun e w'=>e=.returned (.int .i64 ((if cA x y ≠ 0 then cA x y else (if cB x y ≠ 0 then cB x y else (if cC x y ≠ 0 then cC x y else cD x y)))))∧S w' ([Ob b (.cells #[.slice (some ⟨ga,0,none⟩) (4) (4)] 189 (0,0)),Ob ga (.cells #[.func (.func oA) fioA caoA,.func (.func oB) fioB caoB,.func (.func oC) fioC caoC,.func (.func oD) fioD caoD] 180 (0,0)),XA,XB,XC,XD]++[Old w (fps [Ob b (.cells #[.slice (some ⟨ga,0,none⟩) (4) (4)] 189 (0,0)),Ob ga (.cells #[.func (.func oA) fioA caoA,.func (.func oB) fioB caoB,.func (.func oC) fioC caoC,.func (.func oD) fioD caoD] 180 (0,0)),XA,XB,XC,XD])]):=by
 have H0:=HS.beginI
 refine enter 23 Tryz.func149 rfl rfl rfl ?_
 refine g_wk [(0,_),(1,_),(2,_)] ?_
 refine w_s ?_
 refine l_of (s_box H0 (wt0 rfl) rfl rfl rfl rfl ?_)
 intro g1 wq2 H3
 refine l_of (s_box H3 (wt0 rfl) rfl rfl rfl rfl ?_)
 intro g4 wq5 H6
 refine w_k9 ?_
 refine g_rounds 5 ?_
 refine g_roundU ?_
 refine w_k3 ?_
 refine g_seq ?_
 refine g_cond_t rfl (by decide) ?_
 refine w_k5 ?_
 refine w_v (v:=.pointer (some ⟨ga,0,none⟩)) (x_indexAddr 0 rfl rfl rfl Tryz.underlying189 sz180 (by omega) (off':=0) rfl) ?_
 refine w_k5 ?_
 refine w_v (v:=.agg (DKb0 x)) (x_loadA H6 1 rfl rfl Tryz.underlying111 rfl sz111 rfl rfl rfl) ?_
 refine w_v (v:=.agg (DKb1 y)) (x_loadA H6 0 rfl rfl Tryz.underlying111 rfl sz111 rfl rfl rfl) ?_
 refine l_of (s_call (wt0 rfl) (x_call rfl rfl rfl hA.ok) (hA.does (x,y) (⟨hx,hy⟩) _ (H6.tk [4])) ?_)
 rintro _ wq7 ⟨rfl,H8⟩
 replace H8:S _ [_,_,_,_,_,_,_,_,_]:=H6.abI (new:=[_]) [4] H8 rfl
 refine b_ret rfl rfl ?_
 refine w_k4 ?_
 refine w_b (v:=.bool (!decide (((cA x y):Int)=0))) (hb:=b_neq) ?_
 refine w_e ?_
 by_cases hb9:((cA x y):Int)=0
 ·
  refine g_nf hb9 ?_
  refine w_k4 ?_
  refine w_b (v:=.int .i64 1) (hb:=(b_add (r:=1) (by decide))) ?_
  refine w_k2 ?_
  refine g_roundU ?_
  refine w_k3 ?_
  refine g_seq ?_
  refine g_cond_t rfl (by decide) ?_
  refine w_k5 ?_
  refine w_v (v:=.pointer (some ⟨ga,1,none⟩)) (x_indexAddr 1 rfl rfl rfl Tryz.underlying189 sz180 (by omega) (off':=1) rfl) ?_
  refine w_k5 ?_
  refine w_v (v:=.agg (DKb0 x)) (x_loadA H8 2 rfl rfl Tryz.underlying111 rfl sz111 rfl rfl rfl) ?_
  refine w_v (v:=.agg (DKb1 y)) (x_loadA H8 1 rfl rfl Tryz.underlying111 rfl sz111 rfl rfl rfl) ?_
  refine l_of (s_call (wt0 rfl) (x_call rfl rfl rfl hB.ok) (hB.does (x,y) (⟨hx,hy⟩) _ (H8.tk [5])) ?_)
  rintro _ wq10 ⟨rfl,H11⟩
  replace H11:S _ [_,_,_,_,_,_,_,_,_]:=H8.abI (new:=[_]) [5] H11 rfl
  refine b_ret rfl rfl ?_
  refine w_k4 ?_
  refine w_b (v:=.bool (!decide (((cB x y):Int)=0))) (hb:=b_neq) ?_
  refine w_e ?_
  by_cases hb12:((cB x y):Int)=0
  ·
   refine g_nf hb12 ?_
   refine w_k4 ?_
   refine w_b (v:=.int .i64 2) (hb:=(b_add (r:=2) (by decide))) ?_
   refine w_k2 ?_
   refine g_roundU ?_
   refine w_k3 ?_
   refine g_seq ?_
   refine g_cond_t rfl (by decide) ?_
   refine w_k5 ?_
   refine w_v (v:=.pointer (some ⟨ga,2,none⟩)) (x_indexAddr 2 rfl rfl rfl Tryz.underlying189 sz180 (by omega) (off':=2) rfl) ?_
   refine w_k5 ?_
   refine w_v (v:=.agg (DKb0 x)) (x_loadA H11 3 rfl rfl Tryz.underlying111 rfl sz111 rfl rfl rfl) ?_
   refine w_v (v:=.agg (DKb1 y)) (x_loadA H11 2 rfl rfl Tryz.underlying111 rfl sz111 rfl rfl rfl) ?_
   refine l_of (s_call (wt0 rfl) (x_call rfl rfl rfl hC.ok) (hC.does (x,y) (⟨hx,hy⟩) _ (H11.tk [6])) ?_)
   rintro _ wq13 ⟨rfl,H14⟩
   replace H14:S _ [_,_,_,_,_,_,_,_,_]:=H11.abI (new:=[_]) [6] H14 rfl
   refine b_ret rfl rfl ?_
   refine w_k4 ?_
   refine w_b (v:=.bool (!decide (((cC x y):Int)=0))) (hb:=b_neq) ?_
   refine w_e ?_
   by_cases hb15:((cC x y):Int)=0
   ·
    refine g_nf hb15 ?_
    refine w_k4 ?_
    refine w_b (v:=.int .i64 3) (hb:=(b_add (r:=3) (by decide))) ?_
    refine w_k2 ?_
    refine g_roundU ?_
    refine w_k3 ?_
    refine g_seq ?_
    refine g_cond_t rfl (by decide) ?_
    refine w_k5 ?_
    refine w_v (v:=.pointer (some ⟨ga,3,none⟩)) (x_indexAddr 3 rfl rfl rfl Tryz.underlying189 sz180 (by omega) (off':=3) rfl) ?_
    refine w_k5 ?_
    refine w_v (v:=.agg (DKb0 x)) (x_loadA H14 4 rfl rfl Tryz.underlying111 rfl sz111 rfl rfl rfl) ?_
    refine w_v (v:=.agg (DKb1 y)) (x_loadA H14 3 rfl rfl Tryz.underlying111 rfl sz111 rfl rfl rfl) ?_
    refine l_of (s_call (wt0 rfl) (x_call rfl rfl rfl hD.ok) (hD.does (x,y) (⟨hx,hy⟩) _ (H14.tk [7])) ?_)
    rintro _ wq16 ⟨rfl,H17⟩
    replace H17:S _ [_,_,_,_,_,_,_,_,_]:=H14.abI (new:=[_]) [7] H17 rfl
    refine b_ret rfl rfl ?_
    refine w_k4 ?_
    refine w_b (v:=.bool (!decide (((cD x y):Int)=0))) (hb:=b_neq) ?_
    refine w_e ?_
    by_cases hb18:((cD x y):Int)=0
    ·
     refine g_nf hb18 ?_
     refine w_k4 ?_
     refine w_b (v:=.int .i64 4) (hb:=(b_add (r:=4) (by decide))) ?_
     refine w_k2 ?_
     refine g_roundU ?_
     refine w_k3 ?_
     refine g_seq ?_
     refine g_cond_f rfl (by decide) ?_
     refine w_k9 ?_
     refine fin_r [.tmp 5] [.int .i64 0] ?_
     exact ⟨by simp [hb9,hb12,hb15,hb18,tupled],H17.tk [6,7,3,2,1,0,8]⟩
    ·
     refine g_nt hb18 ?_
     refine w_k10 ?_
     refine fin_r [.tmp 5] [.int .i64 ((cD x y))] ?_
     exact ⟨by simp [hb9,hb12,hb15,hb18,tupled],H17.tk [6,7,3,2,1,0,8]⟩
   ·
    refine g_nt hb15 ?_
    refine w_k10 ?_
    refine fin_r [.tmp 5] [.int .i64 ((cC x y))] ?_
    exact ⟨by simp [hb9,hb12,hb15,tupled],H14.tk [5,6,2,1,0,7,8]⟩
  ·
   refine g_nt hb12 ?_
   refine w_k10 ?_
   refine fin_r [.tmp 5] [.int .i64 ((cB x y))] ?_
   exact ⟨by simp [hb9,hb12,tupled],H11.tk [4,5,1,0,6,7,8]⟩
 ·
  refine g_nt hb9 ?_
  refine w_k10 ?_
  refine fin_r [.tmp 5] [.int .i64 ((cA x y))] ?_
  exact ⟨by simp [hb9,tupled],H8.tk [3,4,0,5,6,7,8]⟩
theorem by1_4f (b ga:Nat) (D:Rv→Prop) (oA:Nat) (fioA caoA:Array Value) (XA:Item) (cA:Rv→Rv→Int) (hA:FunC Tryz.prog oA fioA caoA XA (fun p:Rv × Rv=>[p.1.v,p.2.v]) (fun p=>.int .i64 (cA p.1 p.2)) (fun p=>D p.1∧D p.2)) (oB:Nat) (fioB caoB:Array Value) (XB:Item) (cB:Rv→Rv→Int) (hB:FunC Tryz.prog oB fioB caoB XB (fun p:Rv × Rv=>[p.1.v,p.2.v]) (fun p=>.int .i64 (cB p.1 p.2)) (fun p=>D p.1∧D p.2)) (oC:Nat) (fioC caoC:Array Value) (XC:Item) (cC:Rv→Rv→Int) (hC:FunC Tryz.prog oC fioC caoC XC (fun p:Rv × Rv=>[p.1.v,p.2.v]) (fun p=>.int .i64 (cC p.1 p.2)) (fun p=>D p.1∧D p.2)) (oD:Nat) (fioD caoD:Array Value) (XD:Item) (cD:Rv→Rv→Int) (hD:FunC Tryz.prog oD fioD caoD XD (fun p:Rv × Rv=>[p.1.v,p.2.v]) (fun p=>.int .i64 (cD p.1 p.2)) (fun p=>D p.1∧D p.2)):FunC Tryz.prog 149 #[] #[.pointer (some ⟨b,0,none⟩)] (Big [Ob b (.cells #[.slice (some ⟨ga,0,none⟩) (4) (4)] 189 (0,0)),Ob ga (.cells #[.func (.func oA) fioA caoA,.func (.func oB) fioB caoB,.func (.func oC) fioC caoC,.func (.func oD) fioD caoD] 180 (0,0)),XA,XB,XC,XD]) (fun p:Rv × Rv=>[p.1.v,p.2.v]) (fun p=>.int .i64 ((if cA p.1 p.2 ≠ 0 then cA p.1 p.2 else (if cB p.1 p.2 ≠ 0 then cB p.1 p.2 else (if cC p.1 p.2 ≠ 0 then cC p.1 p.2 else cD p.1 p.2))))) (fun p=>D p.1∧D p.2):=
 FunC.ofBig (by kernel_rfl) fun z hb w HS=>by1_4s b ga D oA fioA caoA XA cA hA oB fioB caoB XB cB hB oC fioC caoC XC cC hC oD fioD caoD XD cD hD _ _ hb.1 hb.2 w HS
theorem which1_s (b:Nat) (gf:Nat) (figf cagf:Array Value) (X:Item) (q:Rv→Bool) (D:Rv→Prop) (hf:FunC Tryz.prog gf figf cagf X (fun x:Rv=>[x.v]) (fun x=>.bool (q x)) D) (x:Rv) (hx:D x)  (w:World) (HS:S w [Ob b (.cells #[.func (.func gf) figf cagf] 134 (0,0)),X]):Calls Tryz.prog 147 #[.agg (DKb0 x),.pointer (some ⟨b,0,none⟩)] w fun e w'=>e=.returned (.bool (!q x))∧S w' ([Ob b (.cells #[.func (.func gf) figf cagf] 134 (0,0)),X]++[Old w (fps [Ob b (.cells #[.func (.func gf) figf cagf] 134 (0,0)),X])]):=by
 have H0:=HS.beginI
 refine enter 8 Tryz.func147 rfl rfl rfl ?_
 refine g_wk [(0,_),(1,_)] ?_
 refine w_s ?_
 refine l_of (s_box H0 (wt0 rfl) rfl rfl rfl rfl ?_)
 intro g1 wq2 H3
 refine w_k4 ?_
 refine w_v (v:=.agg (DKb0 x)) (x_loadA H3 0 rfl rfl Tryz.underlying111 rfl sz111 rfl rfl rfl) ?_
 refine l_of (s_call (wt0 rfl) (x_call rfl rfl rfl hf.ok) (hf.does x (hx) _ (H3.tk [2])) ?_)
 rintro _ wq4 ⟨rfl,H5⟩
 replace H5:S _ [_,_,_,_]:=H3.abI (new:=[_]) [2] H5 rfl
 refine b_ret rfl rfl ?_
 refine w_v (x_not (b:=q x) rfl rfl) ?_
 refine w_k3 ?_
 refine fin_r [.tmp 3] [.bool (!(q x))] ?_
 exact ⟨rfl,H5.tk [2,0,3]⟩
theorem which1_f (b:Nat) (gf:Nat) (figf cagf:Array Value) (X:Item) (q:Rv→Bool) (D:Rv→Prop) (hf:FunC Tryz.prog gf figf cagf X (fun x:Rv=>[x.v]) (fun x=>.bool (q x)) D):FunC Tryz.prog 147 #[] #[.pointer (some ⟨b,0,none⟩)] (Big [Ob b (.cells #[.func (.func gf) figf cagf] 134 (0,0)),X]) (fun x:Rv=>[x.v]) (fun x=>.bool (!q x)) D:=
 FunC.ofBig (by kernel_rfl) fun z hb w HS=>which1_s b gf figf cagf X q D hf _ hb w HS
theorem keep_not {q:Rv→Bool} {l:List Rv}:keepS (fun x=>!q x) l=l.filter q:=by unfold keepS; simp
theorem which_s (l:List Rv) (p:Option Addr) (n c0:Nat) (hn:n≤20) (gi:Nat) (figi cagi:Array Value) (X1:Item) (q:Rv→Bool) (D1:Rv→Prop) (hi:FunC Tryz.prog gi figi cagi X1 (fun x:Rv=>[x.v]) (fun x=>.bool (q x)) D1) (go:Nat) (figo cago:Array Value) (X2:Item) (c:Rv→Rv→Int) (D2:Rv→Prop) (ho:FunC Tryz.prog go figo cago X2 (fun p:Rv × Rv=>[p.1.v,p.2.v]) (fun p=>.int .i64 (c p.1 p.2)) (fun p=>D2 p.1∧D2 p.2)) (hD1:∀ x∈l,D1 x) (hD2:∀ x∈l,D2 x)  (w:World) (HS:S w [X1,X2]) (hst:∀ w1,S w1 [X1,X2,Old w (fps [X1,X2])]→Reads w1 p n c0 10 (fl rvL l)):Calls Tryz.prog 121 #[.slice p n c0,.func (.func gi) figi cagi,.func (.func go) figo cago] w fun e w'=>∃ p' c',e=.returned (.slice p' (srt Rv.zero c (l.filter q)).length c')∧S w' ([Rw 111 10 p' (srt Rv.zero c (l.filter q)).length c' (fl rvL (srt Rv.zero c (l.filter q))),X1,X2]++[Old w (fps [X1,X2])]):=by
 have H0:=HS.beginI
 have hnl:=(hst _ H0).lenL rvE
 refine enter 16 Tryz.func121 rfl rfl rfl ?_
 refine g_wk [(0,_),(1,_),(2,_)] ?_
 refine w_s ?_
 refine l_of (s_box H0 (wt0 rfl) rfl rfl rfl rfl ?_)
 intro g1 wq2 H3
 refine w_k4 ?_
 refine l_of (s_cl (clone_r l p n c0 (by omega) _ ((hst _ (H3.tk [1,2,3])))) ?_)
 rintro _ wq4 ⟨pz,cz,rfl,H5⟩
 replace H5:S _ [_,_,_,_,_]:=H3.ab (new:=[_]) H5 rfl
 refine b_ret rfl rfl ?_
 refine w_v (x_makeFunc rfl rfl rfl) ?_
 have H6:S _ [_,_,_,_]:=S.big (L:=[_,_]) (H5.tk [1,2,0,3,4])
 refine l_of (s_cl (delF_r l pz cz (by omega) (fun x=>!q x) 147 #[] #[.pointer (some ⟨g1,0,none⟩)] (Big [Ob g1 (.cells #[.func (.func gi) figi cagi] 134 (0,0)),X1]) D1 (which1_f g1 gi figi cagi X1 q D1 hi) hD1 _ (H6.tk [0,1])) ?_)
 rintro _ wq8 ⟨rfl,H9⟩
 rw [keep_not] at H9 ⊢
 replace H9:S _ [_,_,_,_]:=H6.abI (new:=[_,_]) [0,1] H9 rfl
 have H10:S _ [_,_,_,_,_]:=S.unbig H9
 refine b_ret rfl rfl ?_
 refine w_k5 ?_
 refine l_of (s_cl (sortR (l.filter q) pz cz (by have:=List.length_filter_le q l; omega) go figo cago X2 c D2 ho (fun x hx=>hD2 x (List.mem_filter.1 hx).1) _ (H10.tk [2,3])) ?_)
 rintro _ wq11 ⟨rfl,H12⟩
 replace H12:S _ [_,_,_,_,_]:=H10.abI (new:=[_,_]) [2,3] H12 rfl
 refine b_ret rfl rfl ?_
 refine w_k6 ?_
 refine fin_r [.tmp 6] [.slice pz ((l.filter q).length) cz] ?_
 have hsl:=srt_len Rv.zero c (l.filter q)
 exact ⟨pz,cz,by rw [hsl]; rfl,by rw [hsl]; exact H12.tk [0,3,1,4]⟩
end Go.Proofs.YtpbjekdjebjbkaaGreatDoor
