-- Written by this session's own program (wip/x/xprint.py, over the kit's printer); Lean checks it.
import Derived.Test.YtmgkflkfoccgkaaQFnPutForx0
import Derived.Test.YtmgkflkfoccgkaaQFnPutForx9
import Derived.Test.YtmgkflkfoccgkaaQFnPutForx11
import Derived.Test.YtmgkflkfoccgkaaQFnPutForx15
namespace Go.Proofs.Ytmgkflkfoccgkaa.QFnPutFor
open Go.RowKit Go.Proofs.YtmgkflkfoccgkaaW.PrintWords Go.Proofs.YtmgkflkfoccgkaaW.PrintLast Go.Proofs.YtmgkflkfoccgkaaW.PrintMore
attribute [local go_sem] max2_int min2_int max_two min_two max_three min_three max_four min_four   -- for this text's walks alone
set_option linter.unusedVariables false
set_option linter.unusedSimpArgs false

/-! ### impl_Sign_holdsAt: function 51 -/
def impl_Sign_holdsAt.f (k:Nat) (l0_0:List Int) (a1_0:Int) (l1_1:List (List Int)) (l2:List (S83)) (l3:List Int):Option (Bool):=(impl_Sign_holdsAt_1_any.f k l2 l0_0 a1_0 l1_1 l3).bind fun t532=>(some t532)
theorem impl_Sign_holdsAt.mono:∀ a0 a1 a2 a3 a4 k,LeO (impl_Sign_holdsAt.f k a0 a1 a2 a3 a4) (impl_Sign_holdsAt.f (k + 1) a0 a1 a2 a3 a4):=by
 intro a0 a1 a2 a3 a4 k
 unfold impl_Sign_holdsAt.f
 have m0:=@impl_Sign_holdsAt_1_any.mono
 exact mO
set_option maxHeartbeats 8000000 in
set_option maxRecDepth 100000 in
theorem impl_Sign_holdsAt.calls (k:Nat) (A0_0:Option Addr) (c0_0:Nat) (l0_0:List Int) (a1_0:Int) (A1_1:Option Addr) (c1_1:Nat) (l1_1:List (List Int)) (A2:Option Addr) (c2:Nat) (l2:List (S83)) (A3:Option Addr) (c3:Nat) (l3:List Int) (r:Bool) (w:World) (hr0_0:Kd.C (Kd.int .i64) w A0_0 l0_0.length l0_0) (hc0_0:l0_0.length ≤ c0_0) (hr1_1:Kd.C (Kd.slice 3 (Kd.int .i64)) w A1_1 l1_1.length l1_1) (hc1_1:l1_1.length ≤ c1_1) (hr2:Kd.C k83 w A2 l2.length l2) (hc2:l2.length ≤ c2) (hr3:Kd.C (Kd.int .i64) w A3 l3.length l3) (hc3:l3.length ≤ c3) (h:impl_Sign_holdsAt.f k l0_0 a1_0 l1_1 l2 l3 = some r) :
  Calls Try.prog 51 #[.agg #[.slice A0_0 l0_0.length c0_0],.agg #[.int .i64 a1_0,.slice A1_1 l1_1.length c1_1],.slice A2 l2.length c2,.slice A3 l3.length c3] w fun e w'=>e = .returned (.bool r) ∧ Below w.heap.size w w':=by
 have hu26:=Try.underlying26
 have hu31:=Try.underlying31
 have HR0_0:=Aside0.mk hr0_0
 have HC0_0:=Aside0.mk hc0_0
 clear hr0_0 hc0_0
 have HR1_1:=Aside0.mk hr1_1
 have HC1_1:=Aside0.mk hc1_1
 clear hr1_1 hc1_1
 have HR2:=Aside0.mk hr2
 have HC2:=Aside0.mk hc2
 clear hr2 hc2
 have HR3:=Aside0.mk hr3
 have HC3:=Aside0.mk hc3
 clear hr3 hc3
 have HB:=Aside0.mk (Below.refl w.heap.size w)
 have H:((impl_Sign_holdsAt_1_any.f k l2 l0_0 a1_0 l1_1 l3).bind fun t532=>(some t532)) = some r:=h
 clear h
 replace H:=Option.bind_eq_some_iff.mp H
 obtain ⟨t532,A50,H⟩:=H
 replace H:(some t532) = some r:=H
 have A5:=Aside0.mk A50
 clear A50
 obtain rfl:=Option.some.inj H
 go_enter Try.func51,Try.ntmps51
 go_wp2_with (first|((with_reducible refine gate_dst (N:=4) rfl ?_);refine box_event ?hg (N:=4) ?hd (cs:=#[.slice A0_0 l0_0.length c0_0]) (t:=26) ?hr ?_;(case hd=>rfl);(case hg=>rfl);(case hr=>exact Yd);intro gb529 hg w6 hbox hb;have BK529:=Aside0.mk (hbox);have GW529:=Aside0.mk ((hZ:w.heap.size ≤ gb529));have GE529:=Aside0.mk ((hZ:w.heap.size ≤ gb529));replace HB:=Aside0.mk (below_step bH hb);clear hb hbox hg)|((with_reducible refine gate_dst (N:=5) rfl ?_);refine box_event ?hg (N:=5) ?hd (cs:=#[.int .i64 a1_0,.slice A1_1 l1_1.length c1_1]) (t:=31) ?hr ?_;(case hd=>rfl);(case hg=>rfl);(case hr=>exact Yd);intro gb530 hg w7 hbox hb;have BK530:=Aside0.mk (hbox);have GW530:=Aside0.mk ((hZ:w.heap.size ≤ gb530));have GE530:=Aside0.mk ((hZ:w.heap.size ≤ gb530));replace HB:=Aside0.mk (below_step bH hb);have NB529_530:=Aside0.mk ((nL BK529:gb529 ≠ gb530));have NB530_529:=Aside0.mk ((nG BK529:gb530 ≠ gb529));replace BK529:=Aside0.mk (blk_below (bB BK529) hb);clear hb hbox hg)|((with_reducible refine gate_dst (N:=7) rfl ?_);refine box_event ?hg (N:=7) ?hd (cs:=#[.slice A3 l3.length c3]) (t:=24) ?hr ?_;(case hd=>rfl);(case hg=>rfl);(case hr=>exact Yd);intro gb531 hg w8 hbox hb;have BK531:=Aside0.mk (hbox);have GW531:=Aside0.mk ((hZ:w.heap.size ≤ gb531));have GE531:=Aside0.mk ((hZ:w.heap.size ≤ gb531));replace HB:=Aside0.mk (below_step bH hb);have NB529_531:=Aside0.mk ((nL BK529:gb529 ≠ gb531));have NB531_529:=Aside0.mk ((nG BK529:gb531 ≠ gb529));replace BK529:=Aside0.mk (blk_below (bB BK529) hb);have NB530_531:=Aside0.mk ((nL BK530:gb530 ≠ gb531));have NB531_530:=Aside0.mk ((nG BK530:gb531 ≠ gb530));replace BK530:=Aside0.mk (blk_below (bB BK530) hb);clear hb hbox hg)|(go_at_call 88;(with_reducible refine (impl_Sign_holdsAt_1_any.calls k _ _ l2 A0_0 c0_0 l0_0 a1_0 A1_1 c1_1 l1_1 A3 c3 l3 gb529 gb530 gb531 t532 _ ?side1 ?side2 ?side3 ?side4 ?side5 ?side6 ?side7 ?side8 ?side9 ?side10 ?side11 A5.out).mono ?_);(case side1=>exact sC HR2);(case side2=>exact HC2.out);(case side3=>exact Yv);(case side4=>exact Yu);(case side5=>exact YN);(case side6=>exact YK);(case side7=>exact sC HR3);(case side8=>exact HC3.out);(case side9=>(with_reducible repeat (first|refine blk_drewN ?_ _|refine blk_drew ?_|refine blk_alloc ?_ _));exact BK529.out);(case side10=>(with_reducible repeat (first|refine blk_drewN ?_ _|refine blk_drew ?_|refine blk_alloc ?_ _));exact BK530.out);(case side11=>(with_reducible repeat (first|refine blk_drewN ?_ _|refine blk_drew ?_|refine blk_alloc ?_ _));exact BK531.out);rintro e w9 ⟨rfl,hb⟩;replace BK529:=Aside0.mk (blk_below (bB BK529) hb);replace BK530:=Aside0.mk (blk_below (bB BK530) hb);replace BK531:=Aside0.mk (blk_below (bB BK531) hb);replace HB:=Aside0.mk (below_step bH hb);(try clear hb);(try clear hb2);(try clear hk);(try clear hi)))
 go_ret
 exact ⟨Yb,bH⟩

/-! ### impl_HoldsAt: function 14 -/
def impl_HoldsAt.f (k:Nat) (l0_0:List Int) (a1_0:Int) (l1_1:List (List Int)) (l2:List (S83)) (l3:List Int):Option (Bool × Bool):=(impl_GoodWorld.f k l0_0 a1_0 l1_1).bind fun t535=>(if t535 = true then ((impl_Sign_isClause.f k l0_0 l2).bind fun t536=>(if t536 = true then ((impl_World_isEnv.f a1_0 l1_1 l3).bind fun t537=>(if t537 = true then ((impl_Sign_holdsAt.f k l0_0 a1_0 l1_1 l2 l3).bind fun t538=>(some (t538,true))) else (some (false,false)))) else (some (false,false)))) else (some (false,false)))
theorem impl_HoldsAt.mono:∀ a0 a1 a2 a3 a4 k,LeO (impl_HoldsAt.f k a0 a1 a2 a3 a4) (impl_HoldsAt.f (k + 1) a0 a1 a2 a3 a4):=by
 intro a0 a1 a2 a3 a4 k
 unfold impl_HoldsAt.f
 have m0:=@impl_GoodWorld.mono
 have m1:=@impl_Sign_holdsAt.mono
 have m2:=@impl_Sign_isClause.mono
 exact mO
set_option maxHeartbeats 8000000 in
set_option maxRecDepth 100000 in
theorem impl_HoldsAt.calls (k:Nat) (A0_0:Option Addr) (c0_0:Nat) (l0_0:List Int) (a1_0:Int) (A1_1:Option Addr) (c1_1:Nat) (l1_1:List (List Int)) (A2:Option Addr) (c2:Nat) (l2:List (S83)) (A3:Option Addr) (c3:Nat) (l3:List Int) (r1:Bool) (r2:Bool) (w:World) (hr0_0:Kd.C (Kd.int .i64) w A0_0 l0_0.length l0_0) (hc0_0:l0_0.length ≤ c0_0) (hr1_1:Kd.C (Kd.slice 3 (Kd.int .i64)) w A1_1 l1_1.length l1_1) (hc1_1:l1_1.length ≤ c1_1) (hr2:Kd.C k83 w A2 l2.length l2) (hc2:l2.length ≤ c2) (hr3:Kd.C (Kd.int .i64) w A3 l3.length l3) (hc3:l3.length ≤ c3) (h:impl_HoldsAt.f k l0_0 a1_0 l1_1 l2 l3 = some (r1,r2)) :
  Calls Try.prog 14 #[.agg #[.slice A0_0 l0_0.length c0_0],.agg #[.int .i64 a1_0,.slice A1_1 l1_1.length c1_1],.slice A2 l2.length c2,.slice A3 l3.length c3] w fun e w'=>e = .returned (.tuple #[.bool r1,.bool r2]) ∧ Below w.heap.size w w':=by
 have hu26:=Try.underlying26
 have hu31:=Try.underlying31
 have HR0_0:=Aside0.mk hr0_0
 have HC0_0:=Aside0.mk hc0_0
 clear hr0_0 hc0_0
 have HR1_1:=Aside0.mk hr1_1
 have HC1_1:=Aside0.mk hc1_1
 clear hr1_1 hc1_1
 have HR2:=Aside0.mk hr2
 have HC2:=Aside0.mk hc2
 clear hr2 hc2
 have HR3:=Aside0.mk hr3
 have HC3:=Aside0.mk hc3
 clear hr3 hc3
 have HB:=Aside0.mk (Below.refl w.heap.size w)
 have H:((impl_GoodWorld.f k l0_0 a1_0 l1_1).bind fun t535=>(if t535 = true then ((impl_Sign_isClause.f k l0_0 l2).bind fun t536=>(if t536 = true then ((impl_World_isEnv.f a1_0 l1_1 l3).bind fun t537=>(if t537 = true then ((impl_Sign_holdsAt.f k l0_0 a1_0 l1_1 l2 l3).bind fun t538=>(some (t538,true))) else (some (false,false)))) else (some (false,false)))) else (some (false,false)))) = some (r1,r2):=h
 clear h
 replace H:=Option.bind_eq_some_iff.mp H
 obtain ⟨t535,A50,H⟩:=H
 replace H:(if t535 = true then ((impl_Sign_isClause.f k l0_0 l2).bind fun t536=>(if t536 = true then ((impl_World_isEnv.f a1_0 l1_1 l3).bind fun t537=>(if t537 = true then ((impl_Sign_holdsAt.f k l0_0 a1_0 l1_1 l2 l3).bind fun t538=>(some (t538,true))) else (some (false,false)))) else (some (false,false)))) else (some (false,false))) = some (r1,r2):=H
 have A5:=Aside0.mk A50
 clear A50
 by_cases c6:t535 = true
 ·subst c6
  have H1:((impl_Sign_isClause.f k l0_0 l2).bind fun t536=>(if t536 = true then ((impl_World_isEnv.f a1_0 l1_1 l3).bind fun t537=>(if t537 = true then ((impl_Sign_holdsAt.f k l0_0 a1_0 l1_1 l2 l3).bind fun t538=>(some (t538,true))) else (some (false,false)))) else (some (false,false)))) = some (r1,r2):=by rw [if_pos rfl] at H;exact H
  clear H
  have H:=H1
  clear H1
  replace H:=Option.bind_eq_some_iff.mp H
  obtain ⟨t536,A70,H⟩:=H
  replace H:(if t536 = true then ((impl_World_isEnv.f a1_0 l1_1 l3).bind fun t537=>(if t537 = true then ((impl_Sign_holdsAt.f k l0_0 a1_0 l1_1 l2 l3).bind fun t538=>(some (t538,true))) else (some (false,false)))) else (some (false,false))) = some (r1,r2):=H
  have A7:=Aside0.mk A70
  clear A70
  by_cases c8:t536 = true
  ·subst c8
   have H1:((impl_World_isEnv.f a1_0 l1_1 l3).bind fun t537=>(if t537 = true then ((impl_Sign_holdsAt.f k l0_0 a1_0 l1_1 l2 l3).bind fun t538=>(some (t538,true))) else (some (false,false)))) = some (r1,r2):=by rw [if_pos rfl] at H;exact H
   clear H
   have H:=H1
   clear H1
   replace H:=Option.bind_eq_some_iff.mp H
   obtain ⟨t537,A90,H⟩:=H
   replace H:(if t537 = true then ((impl_Sign_holdsAt.f k l0_0 a1_0 l1_1 l2 l3).bind fun t538=>(some (t538,true))) else (some (false,false))) = some (r1,r2):=H
   have A9:=Aside0.mk A90
   clear A90
   by_cases c10:t537 = true
   ·subst c10
    have H1:((impl_Sign_holdsAt.f k l0_0 a1_0 l1_1 l2 l3).bind fun t538=>(some (t538,true))) = some (r1,r2):=by rw [if_pos rfl] at H;exact H
    clear H
    have H:=H1
    clear H1
    replace H:=Option.bind_eq_some_iff.mp H
    obtain ⟨t538,A110,H⟩:=H
    replace H:(some (t538,true)) = some (r1,r2):=H
    have A11:=Aside0.mk A110
    clear A110
    simp only [Option.some.injEq,Prod.mk.injEq] at H
    obtain ⟨rfl,rfl⟩:=H
    go_enter Try.func14,Try.ntmps14
    go_wp2_with (first|((with_reducible refine gate_dst (N:=4) rfl ?_);refine box_event ?hg (N:=4) ?hd (cs:=#[.slice A0_0 l0_0.length c0_0]) (t:=26) ?hr ?_;(case hd=>rfl);(case hg=>rfl);(case hr=>exact Yd);intro gb533 hg w12 hbox hb;have BK533:=Aside0.mk (hbox);have GW533:=Aside0.mk ((hZ:w.heap.size ≤ gb533));have GE533:=Aside0.mk ((hZ:w.heap.size ≤ gb533));replace HB:=Aside0.mk (below_step bH hb);clear hb hbox hg)|((with_reducible refine gate_dst (N:=5) rfl ?_);refine box_event ?hg (N:=5) ?hd (cs:=#[.int .i64 a1_0,.slice A1_1 l1_1.length c1_1]) (t:=31) ?hr ?_;(case hd=>rfl);(case hg=>rfl);(case hr=>exact Yd);intro gb534 hg w13 hbox hb;have BK534:=Aside0.mk (hbox);have GW534:=Aside0.mk ((hZ:w.heap.size ≤ gb534));have GE534:=Aside0.mk ((hZ:w.heap.size ≤ gb534));replace HB:=Aside0.mk (below_step bH hb);have NB533_534:=Aside0.mk ((nL BK533:gb533 ≠ gb534));have NB534_533:=Aside0.mk ((nG BK533:gb534 ≠ gb533));replace BK533:=Aside0.mk (blk_below (bB BK533) hb);clear hb hbox hg;have hnb14:=NB533_534.out;have hnc14:=NB534_533.out;have hcz15_0:w13.cell? ⟨gb533,0,none⟩ = some (.slice A0_0 l0_0.length c0_0):=(blk_cell BK533.out 0).trans rfl;have hfz15_0:=blk_frozen BK533.out 0;have hcz16_0:w13.cell? ⟨gb534,0,none⟩ = some (.int .i64 a1_0):=(blk_cell BK534.out 0).trans rfl;have hcz16_1:w13.cell? ⟨gb534,1,none⟩ = some (.slice A1_1 l1_1.length c1_1):=(blk_cell BK534.out 1).trans rfl;have hfz16_0:=blk_frozen BK534.out 0;have hfz16_1:=blk_frozen BK534.out 1)|((with_reducible refine gate_callee (f:=16) rfl ?_);refine goesL_ (some 12) rfl rfl Try.func16 (by kernel_rfl) rfl #[.agg #[.slice A0_0 l0_0.length c0_0],.agg #[.int .i64 a1_0,.slice A1_1 l1_1.length c1_1]] rfl Ya ?_;(with_reducible refine (impl_GoodWorld.calls k _ _ l0_0 a1_0 _ _ l1_1 true _ ?side1 ?side2 ?side3 ?side4 A5.out).mono ?_);(case side1=>exact Yv);(case side2=>exact Yu);(case side3=>exact YN);(case side4=>exact YK);rintro e w17 ⟨rfl,hb⟩;refine ⟨_,rfl,?_⟩;replace BK533:=Aside0.mk (blk_below (bB BK533) hb);replace BK534:=Aside0.mk (blk_below (bB BK534) hb);replace HB:=Aside0.mk (below_step bH hb);(try clear hb);(try clear hb2);(try clear hk);(try clear hi);have hcz18_0:w17.cell? ⟨gb533,0,none⟩ = some (.slice A0_0 l0_0.length c0_0):=(blk_cell BK533.out 0).trans rfl;have hfz18_0:=blk_frozen BK533.out 0)|(go_at_call 50;(with_reducible refine (impl_Sign_isClause.calls k _ _ l0_0 _ _ l2 true _ ?side1 ?side2 ?side3 ?side4 A7.out).mono ?_);(case side1=>exact Yv);(case side2=>exact Yu);(case side3=>exact sC HR2);(case side4=>exact HC2.out);rintro e w19 ⟨rfl,hb⟩;replace BK533:=Aside0.mk (blk_below (bB BK533) hb);replace BK534:=Aside0.mk (blk_below (bB BK534) hb);replace HB:=Aside0.mk (below_step bH hb);(try clear hb);(try clear hb2);(try clear hk);(try clear hi);have hcz20_0:w19.cell? ⟨gb534,0,none⟩ = some (.int .i64 a1_0):=(blk_cell BK534.out 0).trans rfl;have hcz20_1:w19.cell? ⟨gb534,1,none⟩ = some (.slice A1_1 l1_1.length c1_1):=(blk_cell BK534.out 1).trans rfl;have hfz20_0:=blk_frozen BK534.out 0;have hfz20_1:=blk_frozen BK534.out 1)|(go_at_call 42;(with_reducible refine (impl_World_isEnv.calls a1_0 _ _ l1_1 _ _ l3 true _ ?side1 ?side2 ?side3 ?side4 A9.out).mono ?_);(case side1=>exact YN);(case side2=>exact YK);(case side3=>exact sC HR3);(case side4=>exact HC3.out);rintro e w21 ⟨rfl,hb⟩;replace BK533:=Aside0.mk (blk_below (bB BK533) hb);replace BK534:=Aside0.mk (blk_below (bB BK534) hb);replace HB:=Aside0.mk (below_step bH hb);(try clear hb);(try clear hb2);(try clear hk);(try clear hi);have hcz22_0:w21.cell? ⟨gb533,0,none⟩ = some (.slice A0_0 l0_0.length c0_0):=(blk_cell BK533.out 0).trans rfl;have hfz22_0:=blk_frozen BK533.out 0;have hcz23_0:w21.cell? ⟨gb534,0,none⟩ = some (.int .i64 a1_0):=(blk_cell BK534.out 0).trans rfl;have hcz23_1:w21.cell? ⟨gb534,1,none⟩ = some (.slice A1_1 l1_1.length c1_1):=(blk_cell BK534.out 1).trans rfl;have hfz23_0:=blk_frozen BK534.out 0;have hfz23_1:=blk_frozen BK534.out 1)|((with_reducible refine gate_callee (f:=51) rfl ?_);refine goesL_ (some 30) rfl rfl Try.func51 (by kernel_rfl) rfl #[.agg #[.slice A0_0 l0_0.length c0_0],.agg #[.int .i64 a1_0,.slice A1_1 l1_1.length c1_1],.slice A2 l2.length c2,.slice A3 l3.length c3] rfl Ya ?_;(with_reducible refine (impl_Sign_holdsAt.calls k _ _ l0_0 a1_0 _ _ l1_1 _ _ l2 _ _ l3 t538 _ ?side1 ?side2 ?side3 ?side4 ?side5 ?side6 ?side7 ?side8 A11.out).mono ?_);(case side1=>exact Yv);(case side2=>exact Yu);(case side3=>exact YN);(case side4=>exact YK);(case side5=>exact sC HR2);(case side6=>exact HC2.out);(case side7=>exact sC HR3);(case side8=>exact HC3.out);rintro e w24 ⟨rfl,hb⟩;refine ⟨_,rfl,?_⟩;replace BK533:=Aside0.mk (blk_below (bB BK533) hb);replace BK534:=Aside0.mk (blk_below (bB BK534) hb);replace HB:=Aside0.mk (below_step bH hb);(try clear hb);(try clear hb2);(try clear hk);(try clear hi)))
    go_ret2
    exact ⟨Yb,bH⟩
   ·replace c10:=Bool.eq_false_iff.mpr c10
    subst c10
    have H1:(some (false,false)) = some (r1,r2):=by rw [if_neg (show ¬ (false = true) by decide)] at H;exact H
    clear H
    have H:=H1
    clear H1
    simp only [Option.some.injEq,Prod.mk.injEq] at H
    obtain ⟨rfl,rfl⟩:=H
    go_enter Try.func14,Try.ntmps14
    go_wp2_with (first|((with_reducible refine gate_dst (N:=4) rfl ?_);refine box_event ?hg (N:=4) ?hd (cs:=#[.slice A0_0 l0_0.length c0_0]) (t:=26) ?hr ?_;(case hd=>rfl);(case hg=>rfl);(case hr=>exact Yd);intro gb533 hg w25 hbox hb;have BK533:=Aside0.mk (hbox);have GW533:=Aside0.mk ((hZ:w.heap.size ≤ gb533));have GE533:=Aside0.mk ((hZ:w.heap.size ≤ gb533));replace HB:=Aside0.mk (below_step bH hb);clear hb hbox hg)|((with_reducible refine gate_dst (N:=5) rfl ?_);refine box_event ?hg (N:=5) ?hd (cs:=#[.int .i64 a1_0,.slice A1_1 l1_1.length c1_1]) (t:=31) ?hr ?_;(case hd=>rfl);(case hg=>rfl);(case hr=>exact Yd);intro gb534 hg w26 hbox hb;have BK534:=Aside0.mk (hbox);have GW534:=Aside0.mk ((hZ:w.heap.size ≤ gb534));have GE534:=Aside0.mk ((hZ:w.heap.size ≤ gb534));replace HB:=Aside0.mk (below_step bH hb);have NB533_534:=Aside0.mk ((nL BK533:gb533 ≠ gb534));have NB534_533:=Aside0.mk ((nG BK533:gb534 ≠ gb533));replace BK533:=Aside0.mk (blk_below (bB BK533) hb);clear hb hbox hg;have hnb27:=NB533_534.out;have hnc27:=NB534_533.out;have hcz28_0:w26.cell? ⟨gb533,0,none⟩ = some (.slice A0_0 l0_0.length c0_0):=(blk_cell BK533.out 0).trans rfl;have hfz28_0:=blk_frozen BK533.out 0;have hcz29_0:w26.cell? ⟨gb534,0,none⟩ = some (.int .i64 a1_0):=(blk_cell BK534.out 0).trans rfl;have hcz29_1:w26.cell? ⟨gb534,1,none⟩ = some (.slice A1_1 l1_1.length c1_1):=(blk_cell BK534.out 1).trans rfl;have hfz29_0:=blk_frozen BK534.out 0;have hfz29_1:=blk_frozen BK534.out 1)|((with_reducible refine gate_callee (f:=16) rfl ?_);refine goesL_ (some 12) rfl rfl Try.func16 (by kernel_rfl) rfl #[.agg #[.slice A0_0 l0_0.length c0_0],.agg #[.int .i64 a1_0,.slice A1_1 l1_1.length c1_1]] rfl Ya ?_;(with_reducible refine (impl_GoodWorld.calls k _ _ l0_0 a1_0 _ _ l1_1 true _ ?side1 ?side2 ?side3 ?side4 A5.out).mono ?_);(case side1=>exact Yv);(case side2=>exact Yu);(case side3=>exact YN);(case side4=>exact YK);rintro e w30 ⟨rfl,hb⟩;refine ⟨_,rfl,?_⟩;replace BK533:=Aside0.mk (blk_below (bB BK533) hb);replace BK534:=Aside0.mk (blk_below (bB BK534) hb);replace HB:=Aside0.mk (below_step bH hb);(try clear hb);(try clear hb2);(try clear hk);(try clear hi);have hcz31_0:w30.cell? ⟨gb533,0,none⟩ = some (.slice A0_0 l0_0.length c0_0):=(blk_cell BK533.out 0).trans rfl;have hfz31_0:=blk_frozen BK533.out 0)|(go_at_call 50;(with_reducible refine (impl_Sign_isClause.calls k _ _ l0_0 _ _ l2 true _ ?side1 ?side2 ?side3 ?side4 A7.out).mono ?_);(case side1=>exact Yv);(case side2=>exact Yu);(case side3=>exact sC HR2);(case side4=>exact HC2.out);rintro e w32 ⟨rfl,hb⟩;replace BK533:=Aside0.mk (blk_below (bB BK533) hb);replace BK534:=Aside0.mk (blk_below (bB BK534) hb);replace HB:=Aside0.mk (below_step bH hb);(try clear hb);(try clear hb2);(try clear hk);(try clear hi);have hcz33_0:w32.cell? ⟨gb534,0,none⟩ = some (.int .i64 a1_0):=(blk_cell BK534.out 0).trans rfl;have hcz33_1:w32.cell? ⟨gb534,1,none⟩ = some (.slice A1_1 l1_1.length c1_1):=(blk_cell BK534.out 1).trans rfl;have hfz33_0:=blk_frozen BK534.out 0;have hfz33_1:=blk_frozen BK534.out 1)|(go_at_call 42;(with_reducible refine (impl_World_isEnv.calls a1_0 _ _ l1_1 _ _ l3 false _ ?side1 ?side2 ?side3 ?side4 A9.out).mono ?_);(case side1=>exact YN);(case side2=>exact YK);(case side3=>exact sC HR3);(case side4=>exact HC3.out);rintro e w34 ⟨rfl,hb⟩;replace BK533:=Aside0.mk (blk_below (bB BK533) hb);replace BK534:=Aside0.mk (blk_below (bB BK534) hb);replace HB:=Aside0.mk (below_step bH hb);(try clear hb);(try clear hb2);(try clear hk);(try clear hi)))
    go_ret2
    exact ⟨Yb,bH⟩
  ·replace c8:=Bool.eq_false_iff.mpr c8
   subst c8
   have H1:(some (false,false)) = some (r1,r2):=by rw [if_neg (show ¬ (false = true) by decide)] at H;exact H
   clear H
   have H:=H1
   clear H1
   simp only [Option.some.injEq,Prod.mk.injEq] at H
   obtain ⟨rfl,rfl⟩:=H
   go_enter Try.func14,Try.ntmps14
   go_wp2_with (first|((with_reducible refine gate_dst (N:=4) rfl ?_);refine box_event ?hg (N:=4) ?hd (cs:=#[.slice A0_0 l0_0.length c0_0]) (t:=26) ?hr ?_;(case hd=>rfl);(case hg=>rfl);(case hr=>exact Yd);intro gb533 hg w35 hbox hb;have BK533:=Aside0.mk (hbox);have GW533:=Aside0.mk ((hZ:w.heap.size ≤ gb533));have GE533:=Aside0.mk ((hZ:w.heap.size ≤ gb533));replace HB:=Aside0.mk (below_step bH hb);clear hb hbox hg)|((with_reducible refine gate_dst (N:=5) rfl ?_);refine box_event ?hg (N:=5) ?hd (cs:=#[.int .i64 a1_0,.slice A1_1 l1_1.length c1_1]) (t:=31) ?hr ?_;(case hd=>rfl);(case hg=>rfl);(case hr=>exact Yd);intro gb534 hg w36 hbox hb;have BK534:=Aside0.mk (hbox);have GW534:=Aside0.mk ((hZ:w.heap.size ≤ gb534));have GE534:=Aside0.mk ((hZ:w.heap.size ≤ gb534));replace HB:=Aside0.mk (below_step bH hb);have NB533_534:=Aside0.mk ((nL BK533:gb533 ≠ gb534));have NB534_533:=Aside0.mk ((nG BK533:gb534 ≠ gb533));replace BK533:=Aside0.mk (blk_below (bB BK533) hb);clear hb hbox hg;have hnb37:=NB533_534.out;have hnc37:=NB534_533.out;have hcz38_0:w36.cell? ⟨gb533,0,none⟩ = some (.slice A0_0 l0_0.length c0_0):=(blk_cell BK533.out 0).trans rfl;have hfz38_0:=blk_frozen BK533.out 0;have hcz39_0:w36.cell? ⟨gb534,0,none⟩ = some (.int .i64 a1_0):=(blk_cell BK534.out 0).trans rfl;have hcz39_1:w36.cell? ⟨gb534,1,none⟩ = some (.slice A1_1 l1_1.length c1_1):=(blk_cell BK534.out 1).trans rfl;have hfz39_0:=blk_frozen BK534.out 0;have hfz39_1:=blk_frozen BK534.out 1)|((with_reducible refine gate_callee (f:=16) rfl ?_);refine goesL_ (some 12) rfl rfl Try.func16 (by kernel_rfl) rfl #[.agg #[.slice A0_0 l0_0.length c0_0],.agg #[.int .i64 a1_0,.slice A1_1 l1_1.length c1_1]] rfl Ya ?_;(with_reducible refine (impl_GoodWorld.calls k _ _ l0_0 a1_0 _ _ l1_1 true _ ?side1 ?side2 ?side3 ?side4 A5.out).mono ?_);(case side1=>exact Yv);(case side2=>exact Yu);(case side3=>exact YN);(case side4=>exact YK);rintro e w40 ⟨rfl,hb⟩;refine ⟨_,rfl,?_⟩;replace BK533:=Aside0.mk (blk_below (bB BK533) hb);replace BK534:=Aside0.mk (blk_below (bB BK534) hb);replace HB:=Aside0.mk (below_step bH hb);(try clear hb);(try clear hb2);(try clear hk);(try clear hi);have hcz41_0:w40.cell? ⟨gb533,0,none⟩ = some (.slice A0_0 l0_0.length c0_0):=(blk_cell BK533.out 0).trans rfl;have hfz41_0:=blk_frozen BK533.out 0)|(go_at_call 50;(with_reducible refine (impl_Sign_isClause.calls k _ _ l0_0 _ _ l2 false _ ?side1 ?side2 ?side3 ?side4 A7.out).mono ?_);(case side1=>exact Yv);(case side2=>exact Yu);(case side3=>exact sC HR2);(case side4=>exact HC2.out);rintro e w42 ⟨rfl,hb⟩;replace BK533:=Aside0.mk (blk_below (bB BK533) hb);replace BK534:=Aside0.mk (blk_below (bB BK534) hb);replace HB:=Aside0.mk (below_step bH hb);(try clear hb);(try clear hb2);(try clear hk);(try clear hi)))
   go_ret2
   exact ⟨Yb,bH⟩
 ·replace c6:=Bool.eq_false_iff.mpr c6
  subst c6
  have H1:(some (false,false)) = some (r1,r2):=by rw [if_neg (show ¬ (false = true) by decide)] at H;exact H
  clear H
  have H:=H1
  clear H1
  simp only [Option.some.injEq,Prod.mk.injEq] at H
  obtain ⟨rfl,rfl⟩:=H
  go_enter Try.func14,Try.ntmps14
  go_wp2_with (first|((with_reducible refine gate_dst (N:=4) rfl ?_);refine box_event ?hg (N:=4) ?hd (cs:=#[.slice A0_0 l0_0.length c0_0]) (t:=26) ?hr ?_;(case hd=>rfl);(case hg=>rfl);(case hr=>exact Yd);intro gb533 hg w43 hbox hb;have BK533:=Aside0.mk (hbox);have GW533:=Aside0.mk ((hZ:w.heap.size ≤ gb533));have GE533:=Aside0.mk ((hZ:w.heap.size ≤ gb533));replace HB:=Aside0.mk (below_step bH hb);clear hb hbox hg)|((with_reducible refine gate_dst (N:=5) rfl ?_);refine box_event ?hg (N:=5) ?hd (cs:=#[.int .i64 a1_0,.slice A1_1 l1_1.length c1_1]) (t:=31) ?hr ?_;(case hd=>rfl);(case hg=>rfl);(case hr=>exact Yd);intro gb534 hg w44 hbox hb;have BK534:=Aside0.mk (hbox);have GW534:=Aside0.mk ((hZ:w.heap.size ≤ gb534));have GE534:=Aside0.mk ((hZ:w.heap.size ≤ gb534));replace HB:=Aside0.mk (below_step bH hb);have NB533_534:=Aside0.mk ((nL BK533:gb533 ≠ gb534));have NB534_533:=Aside0.mk ((nG BK533:gb534 ≠ gb533));replace BK533:=Aside0.mk (blk_below (bB BK533) hb);clear hb hbox hg;have hnb45:=NB533_534.out;have hnc45:=NB534_533.out;have hcz46_0:w44.cell? ⟨gb533,0,none⟩ = some (.slice A0_0 l0_0.length c0_0):=(blk_cell BK533.out 0).trans rfl;have hfz46_0:=blk_frozen BK533.out 0;have hcz47_0:w44.cell? ⟨gb534,0,none⟩ = some (.int .i64 a1_0):=(blk_cell BK534.out 0).trans rfl;have hcz47_1:w44.cell? ⟨gb534,1,none⟩ = some (.slice A1_1 l1_1.length c1_1):=(blk_cell BK534.out 1).trans rfl;have hfz47_0:=blk_frozen BK534.out 0;have hfz47_1:=blk_frozen BK534.out 1)|((with_reducible refine gate_callee (f:=16) rfl ?_);refine goesL_ (some 12) rfl rfl Try.func16 (by kernel_rfl) rfl #[.agg #[.slice A0_0 l0_0.length c0_0],.agg #[.int .i64 a1_0,.slice A1_1 l1_1.length c1_1]] rfl Ya ?_;(with_reducible refine (impl_GoodWorld.calls k _ _ l0_0 a1_0 _ _ l1_1 false _ ?side1 ?side2 ?side3 ?side4 A5.out).mono ?_);(case side1=>exact Yv);(case side2=>exact Yu);(case side3=>exact YN);(case side4=>exact YK);rintro e w48 ⟨rfl,hb⟩;refine ⟨_,rfl,?_⟩;replace BK533:=Aside0.mk (blk_below (bB BK533) hb);replace BK534:=Aside0.mk (blk_below (bB BK534) hb);replace HB:=Aside0.mk (below_step bH hb);(try clear hb);(try clear hb2);(try clear hk);(try clear hi)))
  go_ret2
  exact ⟨Yb,bH⟩

/-! ### spec_l4Lit: function 92 -/
def spec_l4Lit.f (k:Nat) (l0_0:List Int) (a1_0:Bool) (l1_1:List Int) (l1_2:List Int):Option (Bool):=(spec_l1Term.f k l0_0 l1_1).bind fun t541=>(if t541 = true then ((spec_l1Term.f k l0_0 l1_2).bind fun t542=>(some t542)) else (some false))
theorem spec_l4Lit.mono:∀ a0 a1 a2 a3 k,LeO (spec_l4Lit.f k a0 a1 a2 a3) (spec_l4Lit.f (k + 1) a0 a1 a2 a3):=by
 intro a0 a1 a2 a3 k
 unfold spec_l4Lit.f
 have m0:=@spec_l1Term.mono
 exact mO
set_option maxHeartbeats 8000000 in
set_option maxRecDepth 100000 in
theorem spec_l4Lit.calls (k:Nat) (A0_0:Option Addr) (c0_0:Nat) (l0_0:List Int) (a1_0:Bool) (A1_1:Option Addr) (c1_1:Nat) (l1_1:List Int) (A1_2:Option Addr) (c1_2:Nat) (l1_2:List Int) (r:Bool) (w:World) (hr0_0:Kd.C (Kd.int .i64) w A0_0 l0_0.length l0_0) (hc0_0:l0_0.length ≤ c0_0) (hr1_1:Kd.C (Kd.int .i64) w A1_1 l1_1.length l1_1) (hc1_1:l1_1.length ≤ c1_1) (hr1_2:Kd.C (Kd.int .i64) w A1_2 l1_2.length l1_2) (hc1_2:l1_2.length ≤ c1_2) (h:spec_l4Lit.f k l0_0 a1_0 l1_1 l1_2 = some r) :
  Calls Try.prog 92 #[.agg #[.slice A0_0 l0_0.length c0_0],.agg #[.bool a1_0,.slice A1_1 l1_1.length c1_1,.slice A1_2 l1_2.length c1_2]] w fun e w'=>e = .returned (.bool r) ∧ Below w.heap.size w w':=by
 have hu26:=Try.underlying26
 have hu83:=Try.underlying83
 have HR0_0:=Aside0.mk hr0_0
 have HC0_0:=Aside0.mk hc0_0
 clear hr0_0 hc0_0
 have HR1_1:=Aside0.mk hr1_1
 have HC1_1:=Aside0.mk hc1_1
 clear hr1_1 hc1_1
 have HR1_2:=Aside0.mk hr1_2
 have HC1_2:=Aside0.mk hc1_2
 clear hr1_2 hc1_2
 have HB:=Aside0.mk (Below.refl w.heap.size w)
 have H:((spec_l1Term.f k l0_0 l1_1).bind fun t541=>(if t541 = true then ((spec_l1Term.f k l0_0 l1_2).bind fun t542=>(some t542)) else (some false))) = some r:=h
 clear h
 replace H:=Option.bind_eq_some_iff.mp H
 obtain ⟨t541,A30,H⟩:=H
 replace H:(if t541 = true then ((spec_l1Term.f k l0_0 l1_2).bind fun t542=>(some t542)) else (some false)) = some r:=H
 have A3:=Aside0.mk A30
 clear A30
 by_cases c4:t541 = true
 ·subst c4
  have H1:((spec_l1Term.f k l0_0 l1_2).bind fun t542=>(some t542)) = some r:=by rw [if_pos rfl] at H;exact H
  clear H
  have H:=H1
  clear H1
  replace H:=Option.bind_eq_some_iff.mp H
  obtain ⟨t542,A50,H⟩:=H
  replace H:(some t542) = some r:=H
  have A5:=Aside0.mk A50
  clear A50
  obtain rfl:=Option.some.inj H
  go_enter Try.func92,Try.ntmps92
  go_wp2_with (first|((with_reducible refine gate_dst (N:=2) rfl ?_);refine box_event ?hg (N:=2) ?hd (cs:=#[.slice A0_0 l0_0.length c0_0]) (t:=26) ?hr ?_;(case hd=>rfl);(case hg=>rfl);(case hr=>exact Yd);intro gb539 hg w6 hbox hb;have BK539:=Aside0.mk (hbox);have GW539:=Aside0.mk ((hZ:w.heap.size ≤ gb539));have GE539:=Aside0.mk ((hZ:w.heap.size ≤ gb539));replace HB:=Aside0.mk (below_step bH hb);clear hb hbox hg)|((with_reducible refine gate_dst (N:=3) rfl ?_);refine box_event ?hg (N:=3) ?hd (cs:=#[.bool a1_0,.slice A1_1 l1_1.length c1_1,.slice A1_2 l1_2.length c1_2]) (t:=83) ?hr ?_;(case hd=>rfl);(case hg=>rfl);(case hr=>exact Yd);intro gb540 hg w7 hbox hb;have BK540:=Aside0.mk (hbox);have GW540:=Aside0.mk ((hZ:w.heap.size ≤ gb540));have GE540:=Aside0.mk ((hZ:w.heap.size ≤ gb540));replace HB:=Aside0.mk (below_step bH hb);have NB539_540:=Aside0.mk ((nL BK539:gb539 ≠ gb540));have NB540_539:=Aside0.mk ((nG BK539:gb540 ≠ gb539));replace BK539:=Aside0.mk (blk_below (bB BK539) hb);clear hb hbox hg;have hnb8:=NB539_540.out;have hnc8:=NB540_539.out;have hcz9_0:w7.cell? ⟨gb539,0,none⟩ = some (.slice A0_0 l0_0.length c0_0):=(blk_cell BK539.out 0).trans rfl;have hfz9_0:=blk_frozen BK539.out 0;have hcz10_0:w7.cell? ⟨gb540,0,none⟩ = some (.bool a1_0):=(blk_cell BK540.out 0).trans rfl;have hcz10_1:w7.cell? ⟨gb540,1,none⟩ = some (.slice A1_1 l1_1.length c1_1):=(blk_cell BK540.out 1).trans rfl;have hcz10_2:w7.cell? ⟨gb540,2,none⟩ = some (.slice A1_2 l1_2.length c1_2):=(blk_cell BK540.out 2).trans rfl;have hfz10_0:=blk_frozen BK540.out 0;have hfz10_1:=blk_frozen BK540.out 1;have hfz10_2:=blk_frozen BK540.out 2)|((with_reducible refine gate_callee (f:=46) rfl ?_);refine goesL_ (some 8) rfl rfl Try.func46 (by kernel_rfl) rfl #[.agg #[.slice A0_0 l0_0.length c0_0],.slice A1_1 l1_1.length c1_1] rfl Ya ?_;(with_reducible refine (spec_l1Term.calls k _ _ l0_0 _ _ l1_1 true _ ?side1 ?side2 ?side3 ?side4 A3.out).mono ?_);(case side1=>exact Yv);(case side2=>exact Yu);(case side3=>exact YN);(case side4=>exact YK);rintro e w11 ⟨rfl,hb⟩;refine ⟨_,rfl,?_⟩;replace BK539:=Aside0.mk (blk_below (bB BK539) hb);replace BK540:=Aside0.mk (blk_below (bB BK540) hb);replace HB:=Aside0.mk (below_step bH hb);(try clear hb);(try clear hb2);(try clear hk);(try clear hi);have hcz12_0:w11.cell? ⟨gb539,0,none⟩ = some (.slice A0_0 l0_0.length c0_0):=(blk_cell BK539.out 0).trans rfl;have hfz12_0:=blk_frozen BK539.out 0;have hcz13_0:w11.cell? ⟨gb540,0,none⟩ = some (.bool a1_0):=(blk_cell BK540.out 0).trans rfl;have hcz13_1:w11.cell? ⟨gb540,1,none⟩ = some (.slice A1_1 l1_1.length c1_1):=(blk_cell BK540.out 1).trans rfl;have hcz13_2:w11.cell? ⟨gb540,2,none⟩ = some (.slice A1_2 l1_2.length c1_2):=(blk_cell BK540.out 2).trans rfl;have hfz13_0:=blk_frozen BK540.out 0;have hfz13_1:=blk_frozen BK540.out 1;have hfz13_2:=blk_frozen BK540.out 2)|(go_at_call 46;(with_reducible refine (spec_l1Term.calls k _ _ l0_0 _ _ l1_2 t542 _ ?side1 ?side2 ?side3 ?side4 A5.out).mono ?_);(case side1=>exact Yv);(case side2=>exact Yu);(case side3=>exact sC HR1_2);(case side4=>exact HC1_2.out);rintro e w14 ⟨rfl,hb⟩;replace BK539:=Aside0.mk (blk_below (bB BK539) hb);replace BK540:=Aside0.mk (blk_below (bB BK540) hb);replace HB:=Aside0.mk (below_step bH hb);(try clear hb);(try clear hb2);(try clear hk);(try clear hi)))
  go_ret
  exact ⟨Yb,bH⟩
 ·replace c4:=Bool.eq_false_iff.mpr c4
  subst c4
  have H1:(some false) = some r:=by rw [if_neg (show ¬ (false = true) by decide)] at H;exact H
  clear H
  have H:=H1
  clear H1
  obtain rfl:=Option.some.inj H
  go_enter Try.func92,Try.ntmps92
  go_wp2_with (first|((with_reducible refine gate_dst (N:=2) rfl ?_);refine box_event ?hg (N:=2) ?hd (cs:=#[.slice A0_0 l0_0.length c0_0]) (t:=26) ?hr ?_;(case hd=>rfl);(case hg=>rfl);(case hr=>exact Yd);intro gb539 hg w15 hbox hb;have BK539:=Aside0.mk (hbox);have GW539:=Aside0.mk ((hZ:w.heap.size ≤ gb539));have GE539:=Aside0.mk ((hZ:w.heap.size ≤ gb539));replace HB:=Aside0.mk (below_step bH hb);clear hb hbox hg)|((with_reducible refine gate_dst (N:=3) rfl ?_);refine box_event ?hg (N:=3) ?hd (cs:=#[.bool a1_0,.slice A1_1 l1_1.length c1_1,.slice A1_2 l1_2.length c1_2]) (t:=83) ?hr ?_;(case hd=>rfl);(case hg=>rfl);(case hr=>exact Yd);intro gb540 hg w16 hbox hb;have BK540:=Aside0.mk (hbox);have GW540:=Aside0.mk ((hZ:w.heap.size ≤ gb540));have GE540:=Aside0.mk ((hZ:w.heap.size ≤ gb540));replace HB:=Aside0.mk (below_step bH hb);have NB539_540:=Aside0.mk ((nL BK539:gb539 ≠ gb540));have NB540_539:=Aside0.mk ((nG BK539:gb540 ≠ gb539));replace BK539:=Aside0.mk (blk_below (bB BK539) hb);clear hb hbox hg;have hnb17:=NB539_540.out;have hnc17:=NB540_539.out;have hcz18_0:w16.cell? ⟨gb539,0,none⟩ = some (.slice A0_0 l0_0.length c0_0):=(blk_cell BK539.out 0).trans rfl;have hfz18_0:=blk_frozen BK539.out 0;have hcz19_0:w16.cell? ⟨gb540,0,none⟩ = some (.bool a1_0):=(blk_cell BK540.out 0).trans rfl;have hcz19_1:w16.cell? ⟨gb540,1,none⟩ = some (.slice A1_1 l1_1.length c1_1):=(blk_cell BK540.out 1).trans rfl;have hcz19_2:w16.cell? ⟨gb540,2,none⟩ = some (.slice A1_2 l1_2.length c1_2):=(blk_cell BK540.out 2).trans rfl;have hfz19_0:=blk_frozen BK540.out 0;have hfz19_1:=blk_frozen BK540.out 1;have hfz19_2:=blk_frozen BK540.out 2)|((with_reducible refine gate_callee (f:=46) rfl ?_);refine goesL_ (some 8) rfl rfl Try.func46 (by kernel_rfl) rfl #[.agg #[.slice A0_0 l0_0.length c0_0],.slice A1_1 l1_1.length c1_1] rfl Ya ?_;(with_reducible refine (spec_l1Term.calls k _ _ l0_0 _ _ l1_1 false _ ?side1 ?side2 ?side3 ?side4 A3.out).mono ?_);(case side1=>exact Yv);(case side2=>exact Yu);(case side3=>exact YN);(case side4=>exact YK);rintro e w20 ⟨rfl,hb⟩;refine ⟨_,rfl,?_⟩;replace BK539:=Aside0.mk (blk_below (bB BK539) hb);replace BK540:=Aside0.mk (blk_below (bB BK540) hb);replace HB:=Aside0.mk (below_step bH hb);(try clear hb);(try clear hb2);(try clear hk);(try clear hi)))
  go_ret
  exact ⟨Yb,bH⟩

/-! ### spec_l4Clause: function 52 -/
def spec_l4Clause.l0:Nat → List (S83) → List (S83) → Int → Int → List Int → Option (Bool)
 | 0,_,_,_,_,_=>none
 | k + 1,x1,x7,x8,x9,x544000=>if x9 < x8 then (if 0 ≤ x9 then (if x9 < (x7.length:Int) then ((spec_l4Lit.f k x544000 ((rd_T83 x7 x9).f0) ((rd_T83 x7 x9).f1) ((rd_T83 x7 x9).f2)).bind fun t546=>(if t546 = true then (spec_l4Clause.l0 k x1 x7 x8 (wrap64 (x9 + 1)) x544000) else (some false))) else (none)) else (none)) else (some (decide ((x1.length:Int) ≤ 8)))
def spec_l4Clause.f (k:Nat) (l0_0:List Int) (l1:List (S83)):Option (Bool):=spec_l4Clause.l0 k l1 l1 (l1.length:Int) 0 l0_0
theorem spec_l4Clause.mono_l:∀ k,(∀ y0 y1 y2 y3 y4,LeO (spec_l4Clause.l0 k y0 y1 y2 y3 y4) (spec_l4Clause.l0 (k + 1) y0 y1 y2 y3 y4))
 | 0=>fun _ _ _ _ _ r h=>by simp [spec_l4Clause.l0] at h
 | k + 1=>by
  have ih0:=spec_l4Clause.mono_l k
  ·intro y0 y1 y2 y3 y4
   unfold spec_l4Clause.l0
   have m0:=@spec_l4Lit.mono
   exact mO
theorem spec_l4Clause.mono:∀ a0 a1 k,LeO (spec_l4Clause.f k a0 a1) (spec_l4Clause.f (k + 1) a0 a1):=by
 intro a0 a1 k
 have ih0:=spec_l4Clause.mono_l k
 unfold spec_l4Clause.f
 have m0:=@spec_l4Lit.mono
 exact mO
set_option maxHeartbeats 8000000 in
set_option maxRecDepth 100000 in
theorem spec_l4Clause.calls (k:Nat) (A0_0:Option Addr) (c0_0:Nat) (l0_0:List Int) (A1:Option Addr) (c1:Nat) (l1:List (S83)) (r:Bool) (w:World) (hr0_0:Kd.C (Kd.int .i64) w A0_0 l0_0.length l0_0) (hc0_0:l0_0.length ≤ c0_0) (hr1:Kd.C k83 w A1 l1.length l1) (hc1:l1.length ≤ c1) (h:spec_l4Clause.f k l0_0 l1 = some r) :
  Calls Try.prog 52 #[.agg #[.slice A0_0 l0_0.length c0_0],.slice A1 l1.length c1] w fun e w'=>e = .returned (.bool r) ∧ Below w.heap.size w w':=by
 have hu26:=Try.underlying26
 have hu83:=Try.underlying83
 have HR0_0:=Aside0.mk hr0_0
 have HC0_0:=Aside0.mk hc0_0
 clear hr0_0 hc0_0
 have HR1:=Aside0.mk hr1
 have HC1:=Aside0.mk hc1
 clear hr1 hc1
 have HB:=Aside0.mk (Below.refl w.heap.size w)
 have H:(spec_l4Clause.l0 k l1 l1 (l1.length:Int) 0 l0_0) = some r:=h
 clear h
 have H':=Aside0.mk H
 clear H
 go_enter Try.func52,Try.ntmps52
 go_wp2_with (first|((with_reducible refine gate_dst (N:=2) rfl ?_);refine box_event ?hg (N:=2) ?hd (cs:=#[.slice A0_0 l0_0.length c0_0]) (t:=26) ?hr ?_;(case hd=>rfl);(case hg=>rfl);(case hr=>exact Yd);intro gb543 hg w3 hbox hb;have BK543:=Aside0.mk (hbox);have GW543:=Aside0.mk ((hZ:w.heap.size ≤ gb543));have GE543:=Aside0.mk ((hZ:w.heap.size ≤ gb543));replace HB:=Aside0.mk (below_step bH hb);clear hb hbox hg))
 go_loopg [9] k (fun kq v9 w'=>∃ (x9_1:Int),v9 = .int .i64 x9_1 ∧ Aside0 (spec_l4Clause.l0 kq l1 l1 (l1.length:Int) x9_1 l0_0 = some r) ∧ Aside0 (kq ≤ k) ∧ Aside0 (w'.heap[gb543]? = some (.cells #[(.slice A0_0 l0_0.length c0_0)] 26 (0,0))) ∧ Aside0 (Below w.heap.size w w'))
 case atStart=>exact ⟨(0),Ye,H',⟨Nat.le_refl _⟩,⟨by (with_reducible repeat (first|refine blk_drewN ?_ _|refine blk_drew ?_|refine blk_alloc ?_ _));exact BK543.out⟩,⟨bH⟩⟩
 case round =>
  clear H'
  try clear c1
  try clear p2
  obtain ⟨x9_1,rfl,HA,HK1,BK543,HB⟩:=hrel
  cases gk with
  | zero=>exact absurd HA.out (by simp [spec_l4Clause.l0])
  | succ k1 =>
   have H:=HA.out
   clear HA
   simp only [spec_l4Clause.l0] at H
   by_cases c4:x9_1 < (l1.length:Int)
   ·rw [if_pos c4] at H
    have c4b0:=decide_eq_true c4
    clear c4
    by_cases c5:0 ≤ x9_1
    ·rw [if_pos c5] at H
     have c5b0:=decide_eq_true c5
     clear c5
     by_cases c6:x9_1 < (l1.length:Int)
     ·rw [if_pos c6] at H
      have c6b0:=decide_eq_true c6
      clear c6
      replace H:=Option.bind_eq_some_iff.mp H
      obtain ⟨t546,A70,H⟩:=H
      replace H:(if t546 = true then (spec_l4Clause.l0 k1 l1 l1 (l1.length:Int) (wrap64 (x9_1 + 1)) l0_0) else (some false)) = some r:=H
      have A7:=Aside0.mk A70
      clear A70
      by_cases c8:t546 = true
      ·subst c8
       have H1:(spec_l4Clause.l0 k1 l1 l1 (l1.length:Int) (wrap64 (x9_1 + 1)) l0_0) = some r:=by rw [if_pos rfl] at H;exact H
       clear H
       have H:=H1
       clear H1
       have H':=Aside0.mk H
       clear H
       have p544:0 ≤ (x9_1:Int):=oD
       have q544:x9_1 < (l1.length:Int):=oD
       obtain ⟨ad544,A544_1,c544_1,A544_2,c544_2,e544,hx544_0,hx544_1,hx544_2,hl544_1,hi544_1,hl544_2,hi544_2⟩:=at_T83 HR1.out x9_1 p544 q544
       cases e544
       replace hx544_0:=(HB.out.cell (World.block_lt_of_cell? w _ hx544_0)).trans hx544_0
       replace hx544_1:=(HB.out.cell (World.block_lt_of_cell? w _ hx544_1)).trans hx544_1
       replace hx544_2:=(HB.out.cell (World.block_lt_of_cell? w _ hx544_2)).trans hx544_2
       have HR544_1:=Aside0.mk hi544_1
       have HC544_1:=Aside0.mk hl544_1
       clear hi544_1 hl544_1
       have HR544_2:=Aside0.mk hi544_2
       have HC544_2:=Aside0.mk hl544_2
       clear hi544_2 hl544_2
       replace p544:=eq_true p544
       replace q544:=eq_true q544
       go_wp2_with (first|((with_reducible refine gate_dst (N:=6) rfl ?_);refine box_event ?hg (N:=6) ?hd (cs:=#[.bool false,.slice none 0 0,.slice none 0 0]) (t:=83) ?hr ?_;(case hd=>rfl);(case hg=>rfl);(case hr=>exact Yd);intro gb545 hg w9 hbox hb;have BK545:=Aside0.mk (hbox);have GW545:=Aside0.mk ((hZ:w.heap.size ≤ gb545));have GE545:=Aside0.mk ((hZ:w.heap.size ≤ gb545));replace HB:=Aside0.mk (below_step bH hb);have NB543_545:=Aside0.mk ((nL BK543:gb543 ≠ gb545));have NB545_543:=Aside0.mk ((nG BK543:gb545 ≠ gb543));replace BK543:=Aside0.mk (blk_below (bB BK543) hb);clear hb hbox hg;have hnb10:=NB545_543.out;have hnc10:=NB543_545.out;have hcz11_0:w9.cell? ⟨gb545,0,none⟩ = some (.bool false):=(blk_cell BK545.out 0).trans rfl;have hcz11_1:w9.cell? ⟨gb545,1,none⟩ = some (.slice none 0 0):=(blk_cell BK545.out 1).trans rfl;have hcz11_2:w9.cell? ⟨gb545,2,none⟩ = some (.slice none 0 0):=(blk_cell BK545.out 2).trans rfl;have hfz11_0:=blk_frozen BK545.out 0;have hfz11_1:=blk_frozen BK545.out 1;have hfz11_2:=blk_frozen BK545.out 2;have hcz12_0:w9.cell? ⟨gb543,0,none⟩ = some (.slice A0_0 l0_0.length c0_0):=(blk_cell BK543.out 0).trans rfl;have hfz12_0:=blk_frozen BK543.out 0)|((with_reducible refine gate_callee (f:=92) rfl ?_);refine goesL_ (some 15) rfl rfl Try.func92 (by kernel_rfl) rfl #[.agg #[.slice A0_0 l0_0.length c0_0],.agg #[.bool ((rd_T83 l1 x9_1).f0),.slice A544_1 ((rd_T83 l1 x9_1).f1).length c544_1,.slice A544_2 ((rd_T83 l1 x9_1).f2).length c544_2]] rfl Ya ?_;(with_reducible refine (spec_l4Lit.calls k1 _ _ l0_0 ((rd_T83 l1 x9_1).f0) _ _ ((rd_T83 l1 x9_1).f1) _ _ ((rd_T83 l1 x9_1).f2) true _ ?side1 ?side2 ?side3 ?side4 ?side5 ?side6 A7.out).mono ?_);(case side1=>exact Kd.C_below HR0_0.out bH);(case side2=>exact Yu);(case side3=>exact Kd.C_below HR544_1.out bH);(case side4=>exact HC544_1.out);(case side5=>exact Kd.C_below HR544_2.out bH);(case side6=>exact HC544_2.out);rintro e w13 ⟨rfl,hb⟩;refine ⟨_,rfl,?_⟩;replace BK543:=Aside0.mk (blk_below (g:=gb543) (o:=.cells #[.slice A0_0 l0_0.length c0_0] 26 (0,0)) Yy hb);replace BK545:=Aside0.mk (blk_below (g:=gb545) (o:=.cells #[.bool ((rd_T83 l1 x9_1).f0),.slice A544_1 ((rd_T83 l1 x9_1).f1).length c544_1,.slice A544_2 ((rd_T83 l1 x9_1).f2).length c544_2] 83 (0,0)) Ys hb);replace HB:=Aside0.mk (below_step bH hb);(try clear hb);(try clear hb2);(try clear hk);(try clear hi)))
       go_roundg k1
       case measure=>have:=HK1.out;omega
       case rel=>exact ⟨(wrap64 (x9_1 + 1)),Ye,H',⟨Ze⟩,⟨by (with_reducible repeat (first|refine blk_drewN ?_ _|refine blk_drew ?_|refine blk_alloc ?_ _));exact BK543.out⟩,⟨bH⟩⟩
      ·replace c8:=Bool.eq_false_iff.mpr c8
       subst c8
       have H1:(some false) = some r:=by rw [if_neg (show ¬ (false = true) by decide)] at H;exact H
       clear H
       have H:=H1
       clear H1
       obtain rfl:=Option.some.inj H
       have p544:0 ≤ (x9_1:Int):=oD
       have q544:x9_1 < (l1.length:Int):=oD
       obtain ⟨ad544,A544_1,c544_1,A544_2,c544_2,e544,hx544_0,hx544_1,hx544_2,hl544_1,hi544_1,hl544_2,hi544_2⟩:=at_T83 HR1.out x9_1 p544 q544
       cases e544
       replace hx544_0:=(HB.out.cell (World.block_lt_of_cell? w _ hx544_0)).trans hx544_0
       replace hx544_1:=(HB.out.cell (World.block_lt_of_cell? w _ hx544_1)).trans hx544_1
       replace hx544_2:=(HB.out.cell (World.block_lt_of_cell? w _ hx544_2)).trans hx544_2
       have HR544_1:=Aside0.mk hi544_1
       have HC544_1:=Aside0.mk hl544_1
       clear hi544_1 hl544_1
       have HR544_2:=Aside0.mk hi544_2
       have HC544_2:=Aside0.mk hl544_2
       clear hi544_2 hl544_2
       replace p544:=eq_true p544
       replace q544:=eq_true q544
       go_wp2_with (first|((with_reducible refine gate_dst (N:=6) rfl ?_);refine box_event ?hg (N:=6) ?hd (cs:=#[.bool false,.slice none 0 0,.slice none 0 0]) (t:=83) ?hr ?_;(case hd=>rfl);(case hg=>rfl);(case hr=>exact Yd);intro gb545 hg w14 hbox hb;have BK545:=Aside0.mk (hbox);have GW545:=Aside0.mk ((hZ:w.heap.size ≤ gb545));have GE545:=Aside0.mk ((hZ:w.heap.size ≤ gb545));replace HB:=Aside0.mk (below_step bH hb);have NB543_545:=Aside0.mk ((nL BK543:gb543 ≠ gb545));have NB545_543:=Aside0.mk ((nG BK543:gb545 ≠ gb543));replace BK543:=Aside0.mk (blk_below (bB BK543) hb);clear hb hbox hg;have hnb15:=NB545_543.out;have hnc15:=NB543_545.out;have hcz16_0:w14.cell? ⟨gb545,0,none⟩ = some (.bool false):=(blk_cell BK545.out 0).trans rfl;have hcz16_1:w14.cell? ⟨gb545,1,none⟩ = some (.slice none 0 0):=(blk_cell BK545.out 1).trans rfl;have hcz16_2:w14.cell? ⟨gb545,2,none⟩ = some (.slice none 0 0):=(blk_cell BK545.out 2).trans rfl;have hfz16_0:=blk_frozen BK545.out 0;have hfz16_1:=blk_frozen BK545.out 1;have hfz16_2:=blk_frozen BK545.out 2;have hcz17_0:w14.cell? ⟨gb543,0,none⟩ = some (.slice A0_0 l0_0.length c0_0):=(blk_cell BK543.out 0).trans rfl;have hfz17_0:=blk_frozen BK543.out 0)|((with_reducible refine gate_callee (f:=92) rfl ?_);refine goesL_ (some 15) rfl rfl Try.func92 (by kernel_rfl) rfl #[.agg #[.slice A0_0 l0_0.length c0_0],.agg #[.bool ((rd_T83 l1 x9_1).f0),.slice A544_1 ((rd_T83 l1 x9_1).f1).length c544_1,.slice A544_2 ((rd_T83 l1 x9_1).f2).length c544_2]] rfl Ya ?_;(with_reducible refine (spec_l4Lit.calls k1 _ _ l0_0 ((rd_T83 l1 x9_1).f0) _ _ ((rd_T83 l1 x9_1).f1) _ _ ((rd_T83 l1 x9_1).f2) false _ ?side1 ?side2 ?side3 ?side4 ?side5 ?side6 A7.out).mono ?_);(case side1=>exact Kd.C_below HR0_0.out bH);(case side2=>exact Yu);(case side3=>exact Kd.C_below HR544_1.out bH);(case side4=>exact HC544_1.out);(case side5=>exact Kd.C_below HR544_2.out bH);(case side6=>exact HC544_2.out);rintro e w18 ⟨rfl,hb⟩;refine ⟨_,rfl,?_⟩;replace BK543:=Aside0.mk (blk_below (g:=gb543) (o:=.cells #[.slice A0_0 l0_0.length c0_0] 26 (0,0)) Yy hb);replace BK545:=Aside0.mk (blk_below (g:=gb545) (o:=.cells #[.bool ((rd_T83 l1 x9_1).f0),.slice A544_1 ((rd_T83 l1 x9_1).f1).length c544_1,.slice A544_2 ((rd_T83 l1 x9_1).f2).length c544_2] 83 (0,0)) Ys hb);replace HB:=Aside0.mk (below_step bH hb);(try clear hb);(try clear hb2);(try clear hk);(try clear hi)))
       go_ret
       exact ⟨Yb,bH⟩
     ·rw [if_neg c6] at H
      exact absurd H (by simp)
    ·rw [if_neg c5] at H
     exact absurd H (by simp)
   ·rw [if_neg c4] at H
    have c4b0:decide (x9_1 < (l1.length:Int)) = false:=decide_eq_false c4
    clear c4
    obtain rfl:=Option.some.inj H
    go_wp2
    go_ret
    exact ⟨Yb,bH⟩

end Go.Proofs.Ytmgkflkfoccgkaa.QFnPutFor
