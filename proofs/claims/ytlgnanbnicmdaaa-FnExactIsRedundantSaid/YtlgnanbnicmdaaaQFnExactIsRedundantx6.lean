-- Written by this session's own program (wip/x/xprint.py, over the kit's printer); Lean checks it.
import Derived.Test.YtlgnanbnicmdaaaQFnExactIsRedundantx0
import Derived.Test.YtlgnanbnicmdaaaQFnExactIsRedundantx4
import Derived.Test.YtlgnanbnicmdaaaQFnExactIsRedundantx5
namespace Go.Proofs.Ytlgnanbnicmdaaa.QFnExactIsRedundant
open Go.RowKit Go.Proofs.YtlgnanbnicmdaaaW.PrintWords Go.Proofs.YtlgnanbnicmdaaaW.PrintLast Go.Proofs.YtlgnanbnicmdaaaW.PrintMore
attribute [local go_sem] max2_int min2_int max_two min_two max_three min_three max_four min_four   -- for this text's walks alone
set_option linter.unusedVariables false
set_option linter.unusedSimpArgs false

/-! ### spec_l4SameTerms: function 128 -/
def spec_l4SameTerms.f (k:Nat) (a0_0:Bool) (l0_1:List Int) (l0_2:List Int) (a1_0:Bool) (l1_1:List Int) (l1_2:List Int):Option (Bool):=(spec_l1Same.f k l0_1 l1_1).bind fun t205=>(if t205 = true then ((spec_l1Same.f k l0_2 l1_2).bind fun t206=>(if t206 = true then (some true) else ((spec_l1Same.f k l0_1 l1_2).bind fun t207=>(if t207 = true then ((spec_l1Same.f k l0_2 l1_1).bind fun t208=>(some t208)) else (some false))))) else ((spec_l1Same.f k l0_1 l1_2).bind fun t209=>(if t209 = true then ((spec_l1Same.f k l0_2 l1_1).bind fun t210=>(some t210)) else (some false))))
theorem spec_l4SameTerms.mono:∀ a0 a1 a2 a3 a4 a5 k,LeO (spec_l4SameTerms.f k a0 a1 a2 a3 a4 a5) (spec_l4SameTerms.f (k + 1) a0 a1 a2 a3 a4 a5):=by
 intro a0 a1 a2 a3 a4 a5 k
 unfold spec_l4SameTerms.f
 repeat' first
   | (with_reducible exact spec_l1Same.mono _ _ _)
   | (with_reducible exact LeO.refl _)
   | (with_reducible exact LeO.none _)
   | (with_reducible refine LeO.ite ?_ ?_)
   | (with_reducible refine LeO.bind ?_ (fun _=>?_))
   | exact spec_l1Same.mono _ _ _
   | exact LeO.none _
   | refine LeO.ite ?_ ?_
   | refine LeO.bind ?_ (fun _=>?_)
set_option maxHeartbeats 8000000 in
set_option maxRecDepth 100000 in
theorem spec_l4SameTerms.calls (k:Nat) (a0_0:Bool) (A0_1:Option Addr) (c0_1:Nat) (l0_1:List Int) (A0_2:Option Addr) (c0_2:Nat) (l0_2:List Int) (a1_0:Bool) (A1_1:Option Addr) (c1_1:Nat) (l1_1:List Int) (A1_2:Option Addr) (c1_2:Nat) (l1_2:List Int) (r:Bool) (w:World) (hr0_1:Kd.C (Kd.int .i64) w A0_1 l0_1.length l0_1) (hc0_1:l0_1.length ≤ c0_1) (hr0_2:Kd.C (Kd.int .i64) w A0_2 l0_2.length l0_2) (hc0_2:l0_2.length ≤ c0_2) (hr1_1:Kd.C (Kd.int .i64) w A1_1 l1_1.length l1_1) (hc1_1:l1_1.length ≤ c1_1) (hr1_2:Kd.C (Kd.int .i64) w A1_2 l1_2.length l1_2) (hc1_2:l1_2.length ≤ c1_2) (h:spec_l4SameTerms.f k a0_0 l0_1 l0_2 a1_0 l1_1 l1_2 = some r) :
  Calls Try.prog 128 #[.agg #[.bool a0_0,.slice A0_1 l0_1.length c0_1,.slice A0_2 l0_2.length c0_2],.agg #[.bool a1_0,.slice A1_1 l1_1.length c1_1,.slice A1_2 l1_2.length c1_2]] w fun e w'=>e = .returned (.bool r) ∧ Below w.heap.size w w':=by
 have hu72:=Try.underlying72
 have HR0_1:=Aside0.mk hr0_1
 have HC0_1:=Aside0.mk hc0_1
 clear hr0_1 hc0_1
 have HR0_2:=Aside0.mk hr0_2
 have HC0_2:=Aside0.mk hc0_2
 clear hr0_2 hc0_2
 have HR1_1:=Aside0.mk hr1_1
 have HC1_1:=Aside0.mk hc1_1
 clear hr1_1 hc1_1
 have HR1_2:=Aside0.mk hr1_2
 have HC1_2:=Aside0.mk hc1_2
 clear hr1_2 hc1_2
 have HB:=Aside0.mk (Below.refl w.heap.size w)
 have H:((spec_l1Same.f k l0_1 l1_1).bind fun t205=>(if t205 = true then ((spec_l1Same.f k l0_2 l1_2).bind fun t206=>(if t206 = true then (some true) else ((spec_l1Same.f k l0_1 l1_2).bind fun t207=>(if t207 = true then ((spec_l1Same.f k l0_2 l1_1).bind fun t208=>(some t208)) else (some false))))) else ((spec_l1Same.f k l0_1 l1_2).bind fun t209=>(if t209 = true then ((spec_l1Same.f k l0_2 l1_1).bind fun t210=>(some t210)) else (some false))))) = some r:=h
 clear h
 replace H:=Option.bind_eq_some_iff.mp H
 obtain ⟨t205,A30,H⟩:=H
 replace H:(if t205 = true then ((spec_l1Same.f k l0_2 l1_2).bind fun t206=>(if t206 = true then (some true) else ((spec_l1Same.f k l0_1 l1_2).bind fun t207=>(if t207 = true then ((spec_l1Same.f k l0_2 l1_1).bind fun t208=>(some t208)) else (some false))))) else ((spec_l1Same.f k l0_1 l1_2).bind fun t209=>(if t209 = true then ((spec_l1Same.f k l0_2 l1_1).bind fun t210=>(some t210)) else (some false)))) = some r:=H
 have A3:=Aside0.mk A30
 clear A30
 by_cases c4:t205 = true
 ·subst c4
  have H1:((spec_l1Same.f k l0_2 l1_2).bind fun t206=>(if t206 = true then (some true) else ((spec_l1Same.f k l0_1 l1_2).bind fun t207=>(if t207 = true then ((spec_l1Same.f k l0_2 l1_1).bind fun t208=>(some t208)) else (some false))))) = some r:=by rw [if_pos rfl] at H;exact H
  clear H
  have H:=H1
  clear H1
  replace H:=Option.bind_eq_some_iff.mp H
  obtain ⟨t206,A50,H⟩:=H
  replace H:(if t206 = true then (some true) else ((spec_l1Same.f k l0_1 l1_2).bind fun t207=>(if t207 = true then ((spec_l1Same.f k l0_2 l1_1).bind fun t208=>(some t208)) else (some false)))) = some r:=H
  have A5:=Aside0.mk A50
  clear A50
  by_cases c6:t206 = true
  ·subst c6
   have H1:(some true) = some r:=by rw [if_pos rfl] at H;exact H
   clear H
   have H:=H1
   clear H1
   obtain rfl:=Option.some.inj H
   go_enter Try.func128,Try.ntmps128
   go_wp2_with (first|((with_reducible refine gate_dst (N:=2) rfl ?_);refine box_event ?hg (N:=2) ?hd (cs:=#[.bool a0_0,.slice A0_1 l0_1.length c0_1,.slice A0_2 l0_2.length c0_2]) (t:=72) ?hr ?_;(case hd=>rfl);(case hg=>rfl);(case hr=>first|(go_simp;done)|(go_simp;rfl));intro gb203 hg w7 hbox hb;have n0_:=Aside0.mk (below_step (by repeat (first|(with_reducible first|exact HB.out|apply below_alloc|apply pw_below_drewN|apply below_drew1)|exact HB.out)) hb);have n1_:=Aside0.mk (hbox);have n2_:=Aside0.mk ((by rw [hg];exact (below_size (by repeat (first|(with_reducible first|exact HB.out|apply below_alloc|apply pw_below_drewN|apply below_drew1)|exact HB.out))):w.heap.size ≤ gb203));have n3_:=Aside0.mk ((by rw [hg];exact (below_size (by repeat (first|(with_reducible first|exact HB.out|apply below_alloc|apply pw_below_drewN|apply below_drew1)|exact HB.out))):w.heap.size ≤ gb203));clear HB;have HB:=n0_;have BK203:=n1_;have GW203:=n2_;have GE203:=n3_;clear n0_ n1_ n2_ n3_;clear hb hbox hg)|((with_reducible refine gate_dst (N:=3) rfl ?_);refine box_event ?hg (N:=3) ?hd (cs:=#[.bool a1_0,.slice A1_1 l1_1.length c1_1,.slice A1_2 l1_2.length c1_2]) (t:=72) ?hr ?_;(case hd=>rfl);(case hg=>rfl);(case hr=>first|(go_simp;done)|(go_simp;rfl));intro gb204 hg w8 hbox hb;have n0_:=Aside0.mk (blk_below (g:=gb203) (o:=.cells #[.bool a0_0,.slice A0_1 l0_1.length c0_1,.slice A0_2 l0_2.length c0_2] 72 (0,0)) (by (with_reducible repeat (first|refine blk_drewN ?_ _|refine blk_drew ?_|refine blk_alloc ?_ _));exact BK203.out) hb);have n1_:=Aside0.mk (below_step (by repeat (first|(with_reducible first|exact HB.out|apply below_alloc|apply pw_below_drewN|apply below_drew1|refine below_set ?_ GE203.out)|exact HB.out)) hb);have n2_:=Aside0.mk (hbox);have n3_:=Aside0.mk ((by rw [hg];exact (below_size (by repeat (first|(with_reducible first|exact HB.out|apply below_alloc|apply pw_below_drewN|apply below_drew1|refine below_set ?_ GE203.out)|exact HB.out))):w.heap.size ≤ gb204));have n4_:=Aside0.mk ((by rw [hg];exact (below_size (by repeat (first|(with_reducible first|exact HB.out|apply below_alloc|apply pw_below_drewN|apply below_drew1|refine below_set ?_ GE203.out)|exact HB.out))):w.heap.size ≤ gb204));have n5_:=Aside0.mk ((by rw [hg];exact Nat.ne_of_lt (blk_lt (g:=gb203) (o:=.cells #[.bool a0_0,.slice A0_1 l0_1.length c0_1,.slice A0_2 l0_2.length c0_2] 72 (0,0)) (by (with_reducible repeat (first|refine blk_drewN ?_ _|refine blk_drew ?_|refine blk_alloc ?_ _));exact BK203.out)):gb203 ≠ gb204));have n6_:=Aside0.mk ((by rw [hg];exact Nat.ne_of_gt (blk_lt (g:=gb203) (o:=.cells #[.bool a0_0,.slice A0_1 l0_1.length c0_1,.slice A0_2 l0_2.length c0_2] 72 (0,0)) (by (with_reducible repeat (first|refine blk_drewN ?_ _|refine blk_drew ?_|refine blk_alloc ?_ _));exact BK203.out)):gb204 ≠ gb203));clear BK203;clear HB;have BK203:=n0_;have HB:=n1_;have BK204:=n2_;have GW204:=n3_;have GE204:=n4_;have NB203_204:=n5_;have NB204_203:=n6_;clear n0_ n1_ n2_ n3_ n4_ n5_ n6_;clear hb hbox hg;have hnb9:=NB203_204.out;have hnc9:=NB204_203.out;have hcz10_0:w8.cell? ⟨gb203,0,none⟩ = some (.bool a0_0):=(blk_cell BK203.out 0).trans rfl;have hcz10_1:w8.cell? ⟨gb203,1,none⟩ = some (.slice A0_1 l0_1.length c0_1):=(blk_cell BK203.out 1).trans rfl;have hcz10_2:w8.cell? ⟨gb203,2,none⟩ = some (.slice A0_2 l0_2.length c0_2):=(blk_cell BK203.out 2).trans rfl;have hfz10_0:=blk_frozen BK203.out 0;have hfz10_1:=blk_frozen BK203.out 1;have hfz10_2:=blk_frozen BK203.out 2;have hcz11_0:w8.cell? ⟨gb204,0,none⟩ = some (.bool a1_0):=(blk_cell BK204.out 0).trans rfl;have hcz11_1:w8.cell? ⟨gb204,1,none⟩ = some (.slice A1_1 l1_1.length c1_1):=(blk_cell BK204.out 1).trans rfl;have hcz11_2:w8.cell? ⟨gb204,2,none⟩ = some (.slice A1_2 l1_2.length c1_2):=(blk_cell BK204.out 2).trans rfl;have hfz11_0:=blk_frozen BK204.out 0;have hfz11_1:=blk_frozen BK204.out 1;have hfz11_2:=blk_frozen BK204.out 2)|((with_reducible refine gate_callee (f:=85) rfl ?_);refine goesL_ (some 9) rfl rfl Try.func85 (by kernel_rfl) rfl #[.slice A0_1 l0_1.length c0_1,.slice A1_1 l1_1.length c1_1] rfl (by (try simp only [List.map_toArray,List.map_cons,List.map_nil]);first|done|rfl|(simp only [List.length_drop,List.length_take];rfl)) ?_;(with_reducible refine (spec_l1Same.calls k _ _ l0_1 _ _ l1_1 true _ ?side1 ?side2 ?side3 ?side4 A3.out).mono ?_);(case side1=>repeat (first|exact (Kd.C_below HR0_1.out HB.out)|(with_reducible refine Kd.C_alloc ?_ _)|(with_reducible refine Kd.C_drewN ?_ _)|(with_reducible refine Kd.C_drew ?_)));(case side2=>exact HC0_1.out);(case side3=>repeat (first|exact (Kd.C_below HR1_1.out HB.out)|(with_reducible refine Kd.C_alloc ?_ _)|(with_reducible refine Kd.C_drewN ?_ _)|(with_reducible refine Kd.C_drew ?_)));(case side4=>exact HC1_1.out);rintro e w' ⟨rfl,⟨nd,rfl⟩⟩;refine ⟨_,rfl,?_⟩)|(go_at_call 85;(with_reducible refine (spec_l1Same.calls k _ _ l0_2 _ _ l1_2 true _ ?side1 ?side2 ?side3 ?side4 A5.out).mono ?_);(case side1=>repeat (first|exact (Kd.C_below HR0_2.out (by repeat (first|(with_reducible first|exact HB.out|apply below_alloc|apply pw_below_drewN|apply below_drew1|refine below_set ?_ GE203.out|refine below_set ?_ GE204.out)|exact HB.out)))|(with_reducible refine Kd.C_alloc ?_ _)|(with_reducible refine Kd.C_drewN ?_ _)|(with_reducible refine Kd.C_drew ?_)));(case side2=>exact HC0_2.out);(case side3=>repeat (first|exact (Kd.C_below HR1_2.out (by repeat (first|(with_reducible first|exact HB.out|apply below_alloc|apply pw_below_drewN|apply below_drew1|refine below_set ?_ GE203.out|refine below_set ?_ GE204.out)|exact HB.out)))|(with_reducible refine Kd.C_alloc ?_ _)|(with_reducible refine Kd.C_drewN ?_ _)|(with_reducible refine Kd.C_drew ?_)));(case side4=>exact HC1_2.out);rintro e w' ⟨rfl,⟨nd,rfl⟩⟩))
   go_ret
   exact ⟨by first|rfl|(simp [errW_none,errW_some] <;> rfl)|(simp [*,errW_none,errW_some] <;> rfl),by repeat (first|(with_reducible first|exact HB.out|apply below_alloc|apply pw_below_drewN|apply below_drew1|refine below_set ?_ GE203.out|refine below_set ?_ GE204.out)|exact HB.out)⟩
  ·replace c6:=Bool.eq_false_iff.mpr c6
   subst c6
   have H1:((spec_l1Same.f k l0_1 l1_2).bind fun t207=>(if t207 = true then ((spec_l1Same.f k l0_2 l1_1).bind fun t208=>(some t208)) else (some false))) = some r:=by rw [if_neg (show ¬ (false = true) by decide)] at H;exact H
   clear H
   have H:=H1
   clear H1
   replace H:=Option.bind_eq_some_iff.mp H
   obtain ⟨t207,A120,H⟩:=H
   replace H:(if t207 = true then ((spec_l1Same.f k l0_2 l1_1).bind fun t208=>(some t208)) else (some false)) = some r:=H
   have A12:=Aside0.mk A120
   clear A120
   by_cases c13:t207 = true
   ·subst c13
    have H1:((spec_l1Same.f k l0_2 l1_1).bind fun t208=>(some t208)) = some r:=by rw [if_pos rfl] at H;exact H
    clear H
    have H:=H1
    clear H1
    replace H:=Option.bind_eq_some_iff.mp H
    obtain ⟨t208,A140,H⟩:=H
    replace H:(some t208) = some r:=H
    have A14:=Aside0.mk A140
    clear A140
    obtain rfl:=Option.some.inj H
    go_enter Try.func128,Try.ntmps128
    go_wp2_with (first|((with_reducible refine gate_dst (N:=2) rfl ?_);refine box_event ?hg (N:=2) ?hd (cs:=#[.bool a0_0,.slice A0_1 l0_1.length c0_1,.slice A0_2 l0_2.length c0_2]) (t:=72) ?hr ?_;(case hd=>rfl);(case hg=>rfl);(case hr=>first|(go_simp;done)|(go_simp;rfl));intro gb203 hg w15 hbox hb;have n0_:=Aside0.mk (below_step (by repeat (first|(with_reducible first|exact HB.out|apply below_alloc|apply pw_below_drewN|apply below_drew1)|exact HB.out)) hb);have n1_:=Aside0.mk (hbox);have n2_:=Aside0.mk ((by rw [hg];exact (below_size (by repeat (first|(with_reducible first|exact HB.out|apply below_alloc|apply pw_below_drewN|apply below_drew1)|exact HB.out))):w.heap.size ≤ gb203));have n3_:=Aside0.mk ((by rw [hg];exact (below_size (by repeat (first|(with_reducible first|exact HB.out|apply below_alloc|apply pw_below_drewN|apply below_drew1)|exact HB.out))):w.heap.size ≤ gb203));clear HB;have HB:=n0_;have BK203:=n1_;have GW203:=n2_;have GE203:=n3_;clear n0_ n1_ n2_ n3_;clear hb hbox hg)|((with_reducible refine gate_dst (N:=3) rfl ?_);refine box_event ?hg (N:=3) ?hd (cs:=#[.bool a1_0,.slice A1_1 l1_1.length c1_1,.slice A1_2 l1_2.length c1_2]) (t:=72) ?hr ?_;(case hd=>rfl);(case hg=>rfl);(case hr=>first|(go_simp;done)|(go_simp;rfl));intro gb204 hg w16 hbox hb;have n0_:=Aside0.mk (blk_below (g:=gb203) (o:=.cells #[.bool a0_0,.slice A0_1 l0_1.length c0_1,.slice A0_2 l0_2.length c0_2] 72 (0,0)) (by (with_reducible repeat (first|refine blk_drewN ?_ _|refine blk_drew ?_|refine blk_alloc ?_ _));exact BK203.out) hb);have n1_:=Aside0.mk (below_step (by repeat (first|(with_reducible first|exact HB.out|apply below_alloc|apply pw_below_drewN|apply below_drew1|refine below_set ?_ GE203.out)|exact HB.out)) hb);have n2_:=Aside0.mk (hbox);have n3_:=Aside0.mk ((by rw [hg];exact (below_size (by repeat (first|(with_reducible first|exact HB.out|apply below_alloc|apply pw_below_drewN|apply below_drew1|refine below_set ?_ GE203.out)|exact HB.out))):w.heap.size ≤ gb204));have n4_:=Aside0.mk ((by rw [hg];exact (below_size (by repeat (first|(with_reducible first|exact HB.out|apply below_alloc|apply pw_below_drewN|apply below_drew1|refine below_set ?_ GE203.out)|exact HB.out))):w.heap.size ≤ gb204));have n5_:=Aside0.mk ((by rw [hg];exact Nat.ne_of_lt (blk_lt (g:=gb203) (o:=.cells #[.bool a0_0,.slice A0_1 l0_1.length c0_1,.slice A0_2 l0_2.length c0_2] 72 (0,0)) (by (with_reducible repeat (first|refine blk_drewN ?_ _|refine blk_drew ?_|refine blk_alloc ?_ _));exact BK203.out)):gb203 ≠ gb204));have n6_:=Aside0.mk ((by rw [hg];exact Nat.ne_of_gt (blk_lt (g:=gb203) (o:=.cells #[.bool a0_0,.slice A0_1 l0_1.length c0_1,.slice A0_2 l0_2.length c0_2] 72 (0,0)) (by (with_reducible repeat (first|refine blk_drewN ?_ _|refine blk_drew ?_|refine blk_alloc ?_ _));exact BK203.out)):gb204 ≠ gb203));clear BK203;clear HB;have BK203:=n0_;have HB:=n1_;have BK204:=n2_;have GW204:=n3_;have GE204:=n4_;have NB203_204:=n5_;have NB204_203:=n6_;clear n0_ n1_ n2_ n3_ n4_ n5_ n6_;clear hb hbox hg;have hnb17:=NB203_204.out;have hnc17:=NB204_203.out;have hcz18_0:w16.cell? ⟨gb203,0,none⟩ = some (.bool a0_0):=(blk_cell BK203.out 0).trans rfl;have hcz18_1:w16.cell? ⟨gb203,1,none⟩ = some (.slice A0_1 l0_1.length c0_1):=(blk_cell BK203.out 1).trans rfl;have hcz18_2:w16.cell? ⟨gb203,2,none⟩ = some (.slice A0_2 l0_2.length c0_2):=(blk_cell BK203.out 2).trans rfl;have hfz18_0:=blk_frozen BK203.out 0;have hfz18_1:=blk_frozen BK203.out 1;have hfz18_2:=blk_frozen BK203.out 2;have hcz19_0:w16.cell? ⟨gb204,0,none⟩ = some (.bool a1_0):=(blk_cell BK204.out 0).trans rfl;have hcz19_1:w16.cell? ⟨gb204,1,none⟩ = some (.slice A1_1 l1_1.length c1_1):=(blk_cell BK204.out 1).trans rfl;have hcz19_2:w16.cell? ⟨gb204,2,none⟩ = some (.slice A1_2 l1_2.length c1_2):=(blk_cell BK204.out 2).trans rfl;have hfz19_0:=blk_frozen BK204.out 0;have hfz19_1:=blk_frozen BK204.out 1;have hfz19_2:=blk_frozen BK204.out 2)|((with_reducible refine gate_callee (f:=85) rfl ?_);refine goesL_ (some 9) rfl rfl Try.func85 (by kernel_rfl) rfl #[.slice A0_1 l0_1.length c0_1,.slice A1_1 l1_1.length c1_1] rfl (by (try simp only [List.map_toArray,List.map_cons,List.map_nil]);first|done|rfl|(simp only [List.length_drop,List.length_take];rfl)) ?_;(with_reducible refine (spec_l1Same.calls k _ _ l0_1 _ _ l1_1 true _ ?side1 ?side2 ?side3 ?side4 A3.out).mono ?_);(case side1=>repeat (first|exact (Kd.C_below HR0_1.out HB.out)|(with_reducible refine Kd.C_alloc ?_ _)|(with_reducible refine Kd.C_drewN ?_ _)|(with_reducible refine Kd.C_drew ?_)));(case side2=>exact HC0_1.out);(case side3=>repeat (first|exact (Kd.C_below HR1_1.out HB.out)|(with_reducible refine Kd.C_alloc ?_ _)|(with_reducible refine Kd.C_drewN ?_ _)|(with_reducible refine Kd.C_drew ?_)));(case side4=>exact HC1_1.out);rintro e w' ⟨rfl,⟨nd,rfl⟩⟩;refine ⟨_,rfl,?_⟩)|(go_at_call 85;(with_reducible refine (spec_l1Same.calls k _ _ l0_2 _ _ l1_2 false _ ?side1 ?side2 ?side3 ?side4 A5.out).mono ?_);(case side1=>repeat (first|exact (Kd.C_below HR0_2.out (by repeat (first|(with_reducible first|exact HB.out|apply below_alloc|apply pw_below_drewN|apply below_drew1|refine below_set ?_ GE203.out|refine below_set ?_ GE204.out)|exact HB.out)))|(with_reducible refine Kd.C_alloc ?_ _)|(with_reducible refine Kd.C_drewN ?_ _)|(with_reducible refine Kd.C_drew ?_)));(case side2=>exact HC0_2.out);(case side3=>repeat (first|exact (Kd.C_below HR1_2.out (by repeat (first|(with_reducible first|exact HB.out|apply below_alloc|apply pw_below_drewN|apply below_drew1|refine below_set ?_ GE203.out|refine below_set ?_ GE204.out)|exact HB.out)))|(with_reducible refine Kd.C_alloc ?_ _)|(with_reducible refine Kd.C_drewN ?_ _)|(with_reducible refine Kd.C_drew ?_)));(case side4=>exact HC1_2.out);rintro e w' ⟨rfl,⟨nd,rfl⟩⟩)|(go_at_call 85;(with_reducible refine (spec_l1Same.calls k _ _ l0_1 _ _ l1_2 true _ ?side1 ?side2 ?side3 ?side4 A12.out).mono ?_);(case side1=>repeat (first|exact (Kd.C_below HR0_1.out (by repeat (first|(with_reducible first|exact HB.out|apply below_alloc|apply pw_below_drewN|apply below_drew1|refine below_set ?_ GE203.out|refine below_set ?_ GE204.out)|exact HB.out)))|(with_reducible refine Kd.C_alloc ?_ _)|(with_reducible refine Kd.C_drewN ?_ _)|(with_reducible refine Kd.C_drew ?_)));(case side2=>exact HC0_1.out);(case side3=>repeat (first|exact (Kd.C_below HR1_2.out (by repeat (first|(with_reducible first|exact HB.out|apply below_alloc|apply pw_below_drewN|apply below_drew1|refine below_set ?_ GE203.out|refine below_set ?_ GE204.out)|exact HB.out)))|(with_reducible refine Kd.C_alloc ?_ _)|(with_reducible refine Kd.C_drewN ?_ _)|(with_reducible refine Kd.C_drew ?_)));(case side4=>exact HC1_2.out);rintro e w' ⟨rfl,⟨nd,rfl⟩⟩)|(go_at_call 85;(with_reducible refine (spec_l1Same.calls k _ _ l0_2 _ _ l1_1 t208 _ ?side1 ?side2 ?side3 ?side4 A14.out).mono ?_);(case side1=>repeat (first|exact (Kd.C_below HR0_2.out (by repeat (first|(with_reducible first|exact HB.out|apply below_alloc|apply pw_below_drewN|apply below_drew1|refine below_set ?_ GE203.out|refine below_set ?_ GE204.out)|exact HB.out)))|(with_reducible refine Kd.C_alloc ?_ _)|(with_reducible refine Kd.C_drewN ?_ _)|(with_reducible refine Kd.C_drew ?_)));(case side2=>exact HC0_2.out);(case side3=>repeat (first|exact (Kd.C_below HR1_1.out (by repeat (first|(with_reducible first|exact HB.out|apply below_alloc|apply pw_below_drewN|apply below_drew1|refine below_set ?_ GE203.out|refine below_set ?_ GE204.out)|exact HB.out)))|(with_reducible refine Kd.C_alloc ?_ _)|(with_reducible refine Kd.C_drewN ?_ _)|(with_reducible refine Kd.C_drew ?_)));(case side4=>exact HC1_1.out);rintro e w' ⟨rfl,⟨nd,rfl⟩⟩))
    go_ret
    exact ⟨by first|rfl|(simp [errW_none,errW_some] <;> rfl)|(simp [*,errW_none,errW_some] <;> rfl),by repeat (first|(with_reducible first|exact HB.out|apply below_alloc|apply pw_below_drewN|apply below_drew1|refine below_set ?_ GE203.out|refine below_set ?_ GE204.out)|exact HB.out)⟩
   ·replace c13:=Bool.eq_false_iff.mpr c13
    subst c13
    have H1:(some false) = some r:=by rw [if_neg (show ¬ (false = true) by decide)] at H;exact H
    clear H
    have H:=H1
    clear H1
    obtain rfl:=Option.some.inj H
    go_enter Try.func128,Try.ntmps128
    go_wp2_with (first|((with_reducible refine gate_dst (N:=2) rfl ?_);refine box_event ?hg (N:=2) ?hd (cs:=#[.bool a0_0,.slice A0_1 l0_1.length c0_1,.slice A0_2 l0_2.length c0_2]) (t:=72) ?hr ?_;(case hd=>rfl);(case hg=>rfl);(case hr=>first|(go_simp;done)|(go_simp;rfl));intro gb203 hg w20 hbox hb;have n0_:=Aside0.mk (below_step (by repeat (first|(with_reducible first|exact HB.out|apply below_alloc|apply pw_below_drewN|apply below_drew1)|exact HB.out)) hb);have n1_:=Aside0.mk (hbox);have n2_:=Aside0.mk ((by rw [hg];exact (below_size (by repeat (first|(with_reducible first|exact HB.out|apply below_alloc|apply pw_below_drewN|apply below_drew1)|exact HB.out))):w.heap.size ≤ gb203));have n3_:=Aside0.mk ((by rw [hg];exact (below_size (by repeat (first|(with_reducible first|exact HB.out|apply below_alloc|apply pw_below_drewN|apply below_drew1)|exact HB.out))):w.heap.size ≤ gb203));clear HB;have HB:=n0_;have BK203:=n1_;have GW203:=n2_;have GE203:=n3_;clear n0_ n1_ n2_ n3_;clear hb hbox hg)|((with_reducible refine gate_dst (N:=3) rfl ?_);refine box_event ?hg (N:=3) ?hd (cs:=#[.bool a1_0,.slice A1_1 l1_1.length c1_1,.slice A1_2 l1_2.length c1_2]) (t:=72) ?hr ?_;(case hd=>rfl);(case hg=>rfl);(case hr=>first|(go_simp;done)|(go_simp;rfl));intro gb204 hg w21 hbox hb;have n0_:=Aside0.mk (blk_below (g:=gb203) (o:=.cells #[.bool a0_0,.slice A0_1 l0_1.length c0_1,.slice A0_2 l0_2.length c0_2] 72 (0,0)) (by (with_reducible repeat (first|refine blk_drewN ?_ _|refine blk_drew ?_|refine blk_alloc ?_ _));exact BK203.out) hb);have n1_:=Aside0.mk (below_step (by repeat (first|(with_reducible first|exact HB.out|apply below_alloc|apply pw_below_drewN|apply below_drew1|refine below_set ?_ GE203.out)|exact HB.out)) hb);have n2_:=Aside0.mk (hbox);have n3_:=Aside0.mk ((by rw [hg];exact (below_size (by repeat (first|(with_reducible first|exact HB.out|apply below_alloc|apply pw_below_drewN|apply below_drew1|refine below_set ?_ GE203.out)|exact HB.out))):w.heap.size ≤ gb204));have n4_:=Aside0.mk ((by rw [hg];exact (below_size (by repeat (first|(with_reducible first|exact HB.out|apply below_alloc|apply pw_below_drewN|apply below_drew1|refine below_set ?_ GE203.out)|exact HB.out))):w.heap.size ≤ gb204));have n5_:=Aside0.mk ((by rw [hg];exact Nat.ne_of_lt (blk_lt (g:=gb203) (o:=.cells #[.bool a0_0,.slice A0_1 l0_1.length c0_1,.slice A0_2 l0_2.length c0_2] 72 (0,0)) (by (with_reducible repeat (first|refine blk_drewN ?_ _|refine blk_drew ?_|refine blk_alloc ?_ _));exact BK203.out)):gb203 ≠ gb204));have n6_:=Aside0.mk ((by rw [hg];exact Nat.ne_of_gt (blk_lt (g:=gb203) (o:=.cells #[.bool a0_0,.slice A0_1 l0_1.length c0_1,.slice A0_2 l0_2.length c0_2] 72 (0,0)) (by (with_reducible repeat (first|refine blk_drewN ?_ _|refine blk_drew ?_|refine blk_alloc ?_ _));exact BK203.out)):gb204 ≠ gb203));clear BK203;clear HB;have BK203:=n0_;have HB:=n1_;have BK204:=n2_;have GW204:=n3_;have GE204:=n4_;have NB203_204:=n5_;have NB204_203:=n6_;clear n0_ n1_ n2_ n3_ n4_ n5_ n6_;clear hb hbox hg;have hnb22:=NB203_204.out;have hnc22:=NB204_203.out;have hcz23_0:w21.cell? ⟨gb203,0,none⟩ = some (.bool a0_0):=(blk_cell BK203.out 0).trans rfl;have hcz23_1:w21.cell? ⟨gb203,1,none⟩ = some (.slice A0_1 l0_1.length c0_1):=(blk_cell BK203.out 1).trans rfl;have hcz23_2:w21.cell? ⟨gb203,2,none⟩ = some (.slice A0_2 l0_2.length c0_2):=(blk_cell BK203.out 2).trans rfl;have hfz23_0:=blk_frozen BK203.out 0;have hfz23_1:=blk_frozen BK203.out 1;have hfz23_2:=blk_frozen BK203.out 2;have hcz24_0:w21.cell? ⟨gb204,0,none⟩ = some (.bool a1_0):=(blk_cell BK204.out 0).trans rfl;have hcz24_1:w21.cell? ⟨gb204,1,none⟩ = some (.slice A1_1 l1_1.length c1_1):=(blk_cell BK204.out 1).trans rfl;have hcz24_2:w21.cell? ⟨gb204,2,none⟩ = some (.slice A1_2 l1_2.length c1_2):=(blk_cell BK204.out 2).trans rfl;have hfz24_0:=blk_frozen BK204.out 0;have hfz24_1:=blk_frozen BK204.out 1;have hfz24_2:=blk_frozen BK204.out 2)|((with_reducible refine gate_callee (f:=85) rfl ?_);refine goesL_ (some 9) rfl rfl Try.func85 (by kernel_rfl) rfl #[.slice A0_1 l0_1.length c0_1,.slice A1_1 l1_1.length c1_1] rfl (by (try simp only [List.map_toArray,List.map_cons,List.map_nil]);first|done|rfl|(simp only [List.length_drop,List.length_take];rfl)) ?_;(with_reducible refine (spec_l1Same.calls k _ _ l0_1 _ _ l1_1 true _ ?side1 ?side2 ?side3 ?side4 A3.out).mono ?_);(case side1=>repeat (first|exact (Kd.C_below HR0_1.out HB.out)|(with_reducible refine Kd.C_alloc ?_ _)|(with_reducible refine Kd.C_drewN ?_ _)|(with_reducible refine Kd.C_drew ?_)));(case side2=>exact HC0_1.out);(case side3=>repeat (first|exact (Kd.C_below HR1_1.out HB.out)|(with_reducible refine Kd.C_alloc ?_ _)|(with_reducible refine Kd.C_drewN ?_ _)|(with_reducible refine Kd.C_drew ?_)));(case side4=>exact HC1_1.out);rintro e w' ⟨rfl,⟨nd,rfl⟩⟩;refine ⟨_,rfl,?_⟩)|(go_at_call 85;(with_reducible refine (spec_l1Same.calls k _ _ l0_2 _ _ l1_2 false _ ?side1 ?side2 ?side3 ?side4 A5.out).mono ?_);(case side1=>repeat (first|exact (Kd.C_below HR0_2.out (by repeat (first|(with_reducible first|exact HB.out|apply below_alloc|apply pw_below_drewN|apply below_drew1|refine below_set ?_ GE203.out|refine below_set ?_ GE204.out)|exact HB.out)))|(with_reducible refine Kd.C_alloc ?_ _)|(with_reducible refine Kd.C_drewN ?_ _)|(with_reducible refine Kd.C_drew ?_)));(case side2=>exact HC0_2.out);(case side3=>repeat (first|exact (Kd.C_below HR1_2.out (by repeat (first|(with_reducible first|exact HB.out|apply below_alloc|apply pw_below_drewN|apply below_drew1|refine below_set ?_ GE203.out|refine below_set ?_ GE204.out)|exact HB.out)))|(with_reducible refine Kd.C_alloc ?_ _)|(with_reducible refine Kd.C_drewN ?_ _)|(with_reducible refine Kd.C_drew ?_)));(case side4=>exact HC1_2.out);rintro e w' ⟨rfl,⟨nd,rfl⟩⟩)|(go_at_call 85;(with_reducible refine (spec_l1Same.calls k _ _ l0_1 _ _ l1_2 false _ ?side1 ?side2 ?side3 ?side4 A12.out).mono ?_);(case side1=>repeat (first|exact (Kd.C_below HR0_1.out (by repeat (first|(with_reducible first|exact HB.out|apply below_alloc|apply pw_below_drewN|apply below_drew1|refine below_set ?_ GE203.out|refine below_set ?_ GE204.out)|exact HB.out)))|(with_reducible refine Kd.C_alloc ?_ _)|(with_reducible refine Kd.C_drewN ?_ _)|(with_reducible refine Kd.C_drew ?_)));(case side2=>exact HC0_1.out);(case side3=>repeat (first|exact (Kd.C_below HR1_2.out (by repeat (first|(with_reducible first|exact HB.out|apply below_alloc|apply pw_below_drewN|apply below_drew1|refine below_set ?_ GE203.out|refine below_set ?_ GE204.out)|exact HB.out)))|(with_reducible refine Kd.C_alloc ?_ _)|(with_reducible refine Kd.C_drewN ?_ _)|(with_reducible refine Kd.C_drew ?_)));(case side4=>exact HC1_2.out);rintro e w' ⟨rfl,⟨nd,rfl⟩⟩))
    go_ret
    exact ⟨by first|rfl|(simp [errW_none,errW_some] <;> rfl)|(simp [*,errW_none,errW_some] <;> rfl),by repeat (first|(with_reducible first|exact HB.out|apply below_alloc|apply pw_below_drewN|apply below_drew1|refine below_set ?_ GE203.out|refine below_set ?_ GE204.out)|exact HB.out)⟩
 ·replace c4:=Bool.eq_false_iff.mpr c4
  subst c4
  have H1:((spec_l1Same.f k l0_1 l1_2).bind fun t209=>(if t209 = true then ((spec_l1Same.f k l0_2 l1_1).bind fun t210=>(some t210)) else (some false))) = some r:=by rw [if_neg (show ¬ (false = true) by decide)] at H;exact H
  clear H
  have H:=H1
  clear H1
  replace H:=Option.bind_eq_some_iff.mp H
  obtain ⟨t209,A250,H⟩:=H
  replace H:(if t209 = true then ((spec_l1Same.f k l0_2 l1_1).bind fun t210=>(some t210)) else (some false)) = some r:=H
  have A25:=Aside0.mk A250
  clear A250
  by_cases c26:t209 = true
  ·subst c26
   have H1:((spec_l1Same.f k l0_2 l1_1).bind fun t210=>(some t210)) = some r:=by rw [if_pos rfl] at H;exact H
   clear H
   have H:=H1
   clear H1
   replace H:=Option.bind_eq_some_iff.mp H
   obtain ⟨t210,A270,H⟩:=H
   replace H:(some t210) = some r:=H
   have A27:=Aside0.mk A270
   clear A270
   obtain rfl:=Option.some.inj H
   go_enter Try.func128,Try.ntmps128
   go_wp2_with (first|((with_reducible refine gate_dst (N:=2) rfl ?_);refine box_event ?hg (N:=2) ?hd (cs:=#[.bool a0_0,.slice A0_1 l0_1.length c0_1,.slice A0_2 l0_2.length c0_2]) (t:=72) ?hr ?_;(case hd=>rfl);(case hg=>rfl);(case hr=>first|(go_simp;done)|(go_simp;rfl));intro gb203 hg w28 hbox hb;have n0_:=Aside0.mk (below_step (by repeat (first|(with_reducible first|exact HB.out|apply below_alloc|apply pw_below_drewN|apply below_drew1)|exact HB.out)) hb);have n1_:=Aside0.mk (hbox);have n2_:=Aside0.mk ((by rw [hg];exact (below_size (by repeat (first|(with_reducible first|exact HB.out|apply below_alloc|apply pw_below_drewN|apply below_drew1)|exact HB.out))):w.heap.size ≤ gb203));have n3_:=Aside0.mk ((by rw [hg];exact (below_size (by repeat (first|(with_reducible first|exact HB.out|apply below_alloc|apply pw_below_drewN|apply below_drew1)|exact HB.out))):w.heap.size ≤ gb203));clear HB;have HB:=n0_;have BK203:=n1_;have GW203:=n2_;have GE203:=n3_;clear n0_ n1_ n2_ n3_;clear hb hbox hg)|((with_reducible refine gate_dst (N:=3) rfl ?_);refine box_event ?hg (N:=3) ?hd (cs:=#[.bool a1_0,.slice A1_1 l1_1.length c1_1,.slice A1_2 l1_2.length c1_2]) (t:=72) ?hr ?_;(case hd=>rfl);(case hg=>rfl);(case hr=>first|(go_simp;done)|(go_simp;rfl));intro gb204 hg w29 hbox hb;have n0_:=Aside0.mk (blk_below (g:=gb203) (o:=.cells #[.bool a0_0,.slice A0_1 l0_1.length c0_1,.slice A0_2 l0_2.length c0_2] 72 (0,0)) (by (with_reducible repeat (first|refine blk_drewN ?_ _|refine blk_drew ?_|refine blk_alloc ?_ _));exact BK203.out) hb);have n1_:=Aside0.mk (below_step (by repeat (first|(with_reducible first|exact HB.out|apply below_alloc|apply pw_below_drewN|apply below_drew1|refine below_set ?_ GE203.out)|exact HB.out)) hb);have n2_:=Aside0.mk (hbox);have n3_:=Aside0.mk ((by rw [hg];exact (below_size (by repeat (first|(with_reducible first|exact HB.out|apply below_alloc|apply pw_below_drewN|apply below_drew1|refine below_set ?_ GE203.out)|exact HB.out))):w.heap.size ≤ gb204));have n4_:=Aside0.mk ((by rw [hg];exact (below_size (by repeat (first|(with_reducible first|exact HB.out|apply below_alloc|apply pw_below_drewN|apply below_drew1|refine below_set ?_ GE203.out)|exact HB.out))):w.heap.size ≤ gb204));have n5_:=Aside0.mk ((by rw [hg];exact Nat.ne_of_lt (blk_lt (g:=gb203) (o:=.cells #[.bool a0_0,.slice A0_1 l0_1.length c0_1,.slice A0_2 l0_2.length c0_2] 72 (0,0)) (by (with_reducible repeat (first|refine blk_drewN ?_ _|refine blk_drew ?_|refine blk_alloc ?_ _));exact BK203.out)):gb203 ≠ gb204));have n6_:=Aside0.mk ((by rw [hg];exact Nat.ne_of_gt (blk_lt (g:=gb203) (o:=.cells #[.bool a0_0,.slice A0_1 l0_1.length c0_1,.slice A0_2 l0_2.length c0_2] 72 (0,0)) (by (with_reducible repeat (first|refine blk_drewN ?_ _|refine blk_drew ?_|refine blk_alloc ?_ _));exact BK203.out)):gb204 ≠ gb203));clear BK203;clear HB;have BK203:=n0_;have HB:=n1_;have BK204:=n2_;have GW204:=n3_;have GE204:=n4_;have NB203_204:=n5_;have NB204_203:=n6_;clear n0_ n1_ n2_ n3_ n4_ n5_ n6_;clear hb hbox hg;have hnb30:=NB203_204.out;have hnc30:=NB204_203.out;have hcz31_0:w29.cell? ⟨gb203,0,none⟩ = some (.bool a0_0):=(blk_cell BK203.out 0).trans rfl;have hcz31_1:w29.cell? ⟨gb203,1,none⟩ = some (.slice A0_1 l0_1.length c0_1):=(blk_cell BK203.out 1).trans rfl;have hcz31_2:w29.cell? ⟨gb203,2,none⟩ = some (.slice A0_2 l0_2.length c0_2):=(blk_cell BK203.out 2).trans rfl;have hfz31_0:=blk_frozen BK203.out 0;have hfz31_1:=blk_frozen BK203.out 1;have hfz31_2:=blk_frozen BK203.out 2;have hcz32_0:w29.cell? ⟨gb204,0,none⟩ = some (.bool a1_0):=(blk_cell BK204.out 0).trans rfl;have hcz32_1:w29.cell? ⟨gb204,1,none⟩ = some (.slice A1_1 l1_1.length c1_1):=(blk_cell BK204.out 1).trans rfl;have hcz32_2:w29.cell? ⟨gb204,2,none⟩ = some (.slice A1_2 l1_2.length c1_2):=(blk_cell BK204.out 2).trans rfl;have hfz32_0:=blk_frozen BK204.out 0;have hfz32_1:=blk_frozen BK204.out 1;have hfz32_2:=blk_frozen BK204.out 2)|((with_reducible refine gate_callee (f:=85) rfl ?_);refine goesL_ (some 9) rfl rfl Try.func85 (by kernel_rfl) rfl #[.slice A0_1 l0_1.length c0_1,.slice A1_1 l1_1.length c1_1] rfl (by (try simp only [List.map_toArray,List.map_cons,List.map_nil]);first|done|rfl|(simp only [List.length_drop,List.length_take];rfl)) ?_;(with_reducible refine (spec_l1Same.calls k _ _ l0_1 _ _ l1_1 false _ ?side1 ?side2 ?side3 ?side4 A3.out).mono ?_);(case side1=>repeat (first|exact (Kd.C_below HR0_1.out HB.out)|(with_reducible refine Kd.C_alloc ?_ _)|(with_reducible refine Kd.C_drewN ?_ _)|(with_reducible refine Kd.C_drew ?_)));(case side2=>exact HC0_1.out);(case side3=>repeat (first|exact (Kd.C_below HR1_1.out HB.out)|(with_reducible refine Kd.C_alloc ?_ _)|(with_reducible refine Kd.C_drewN ?_ _)|(with_reducible refine Kd.C_drew ?_)));(case side4=>exact HC1_1.out);rintro e w' ⟨rfl,⟨nd,rfl⟩⟩;refine ⟨_,rfl,?_⟩)|(go_at_call 85;(with_reducible refine (spec_l1Same.calls k _ _ l0_1 _ _ l1_2 true _ ?side1 ?side2 ?side3 ?side4 A25.out).mono ?_);(case side1=>repeat (first|exact (Kd.C_below HR0_1.out (by repeat (first|(with_reducible first|exact HB.out|apply below_alloc|apply pw_below_drewN|apply below_drew1|refine below_set ?_ GE203.out|refine below_set ?_ GE204.out)|exact HB.out)))|(with_reducible refine Kd.C_alloc ?_ _)|(with_reducible refine Kd.C_drewN ?_ _)|(with_reducible refine Kd.C_drew ?_)));(case side2=>exact HC0_1.out);(case side3=>repeat (first|exact (Kd.C_below HR1_2.out (by repeat (first|(with_reducible first|exact HB.out|apply below_alloc|apply pw_below_drewN|apply below_drew1|refine below_set ?_ GE203.out|refine below_set ?_ GE204.out)|exact HB.out)))|(with_reducible refine Kd.C_alloc ?_ _)|(with_reducible refine Kd.C_drewN ?_ _)|(with_reducible refine Kd.C_drew ?_)));(case side4=>exact HC1_2.out);rintro e w' ⟨rfl,⟨nd,rfl⟩⟩)|(go_at_call 85;(with_reducible refine (spec_l1Same.calls k _ _ l0_2 _ _ l1_1 t210 _ ?side1 ?side2 ?side3 ?side4 A27.out).mono ?_);(case side1=>repeat (first|exact (Kd.C_below HR0_2.out (by repeat (first|(with_reducible first|exact HB.out|apply below_alloc|apply pw_below_drewN|apply below_drew1|refine below_set ?_ GE203.out|refine below_set ?_ GE204.out)|exact HB.out)))|(with_reducible refine Kd.C_alloc ?_ _)|(with_reducible refine Kd.C_drewN ?_ _)|(with_reducible refine Kd.C_drew ?_)));(case side2=>exact HC0_2.out);(case side3=>repeat (first|exact (Kd.C_below HR1_1.out (by repeat (first|(with_reducible first|exact HB.out|apply below_alloc|apply pw_below_drewN|apply below_drew1|refine below_set ?_ GE203.out|refine below_set ?_ GE204.out)|exact HB.out)))|(with_reducible refine Kd.C_alloc ?_ _)|(with_reducible refine Kd.C_drewN ?_ _)|(with_reducible refine Kd.C_drew ?_)));(case side4=>exact HC1_1.out);rintro e w' ⟨rfl,⟨nd,rfl⟩⟩))
   go_ret
   exact ⟨by first|rfl|(simp [errW_none,errW_some] <;> rfl)|(simp [*,errW_none,errW_some] <;> rfl),by repeat (first|(with_reducible first|exact HB.out|apply below_alloc|apply pw_below_drewN|apply below_drew1|refine below_set ?_ GE203.out|refine below_set ?_ GE204.out)|exact HB.out)⟩
  ·replace c26:=Bool.eq_false_iff.mpr c26
   subst c26
   have H1:(some false) = some r:=by rw [if_neg (show ¬ (false = true) by decide)] at H;exact H
   clear H
   have H:=H1
   clear H1
   obtain rfl:=Option.some.inj H
   go_enter Try.func128,Try.ntmps128
   go_wp2_with (first|((with_reducible refine gate_dst (N:=2) rfl ?_);refine box_event ?hg (N:=2) ?hd (cs:=#[.bool a0_0,.slice A0_1 l0_1.length c0_1,.slice A0_2 l0_2.length c0_2]) (t:=72) ?hr ?_;(case hd=>rfl);(case hg=>rfl);(case hr=>first|(go_simp;done)|(go_simp;rfl));intro gb203 hg w33 hbox hb;have n0_:=Aside0.mk (below_step (by repeat (first|(with_reducible first|exact HB.out|apply below_alloc|apply pw_below_drewN|apply below_drew1)|exact HB.out)) hb);have n1_:=Aside0.mk (hbox);have n2_:=Aside0.mk ((by rw [hg];exact (below_size (by repeat (first|(with_reducible first|exact HB.out|apply below_alloc|apply pw_below_drewN|apply below_drew1)|exact HB.out))):w.heap.size ≤ gb203));have n3_:=Aside0.mk ((by rw [hg];exact (below_size (by repeat (first|(with_reducible first|exact HB.out|apply below_alloc|apply pw_below_drewN|apply below_drew1)|exact HB.out))):w.heap.size ≤ gb203));clear HB;have HB:=n0_;have BK203:=n1_;have GW203:=n2_;have GE203:=n3_;clear n0_ n1_ n2_ n3_;clear hb hbox hg)|((with_reducible refine gate_dst (N:=3) rfl ?_);refine box_event ?hg (N:=3) ?hd (cs:=#[.bool a1_0,.slice A1_1 l1_1.length c1_1,.slice A1_2 l1_2.length c1_2]) (t:=72) ?hr ?_;(case hd=>rfl);(case hg=>rfl);(case hr=>first|(go_simp;done)|(go_simp;rfl));intro gb204 hg w34 hbox hb;have n0_:=Aside0.mk (blk_below (g:=gb203) (o:=.cells #[.bool a0_0,.slice A0_1 l0_1.length c0_1,.slice A0_2 l0_2.length c0_2] 72 (0,0)) (by (with_reducible repeat (first|refine blk_drewN ?_ _|refine blk_drew ?_|refine blk_alloc ?_ _));exact BK203.out) hb);have n1_:=Aside0.mk (below_step (by repeat (first|(with_reducible first|exact HB.out|apply below_alloc|apply pw_below_drewN|apply below_drew1|refine below_set ?_ GE203.out)|exact HB.out)) hb);have n2_:=Aside0.mk (hbox);have n3_:=Aside0.mk ((by rw [hg];exact (below_size (by repeat (first|(with_reducible first|exact HB.out|apply below_alloc|apply pw_below_drewN|apply below_drew1|refine below_set ?_ GE203.out)|exact HB.out))):w.heap.size ≤ gb204));have n4_:=Aside0.mk ((by rw [hg];exact (below_size (by repeat (first|(with_reducible first|exact HB.out|apply below_alloc|apply pw_below_drewN|apply below_drew1|refine below_set ?_ GE203.out)|exact HB.out))):w.heap.size ≤ gb204));have n5_:=Aside0.mk ((by rw [hg];exact Nat.ne_of_lt (blk_lt (g:=gb203) (o:=.cells #[.bool a0_0,.slice A0_1 l0_1.length c0_1,.slice A0_2 l0_2.length c0_2] 72 (0,0)) (by (with_reducible repeat (first|refine blk_drewN ?_ _|refine blk_drew ?_|refine blk_alloc ?_ _));exact BK203.out)):gb203 ≠ gb204));have n6_:=Aside0.mk ((by rw [hg];exact Nat.ne_of_gt (blk_lt (g:=gb203) (o:=.cells #[.bool a0_0,.slice A0_1 l0_1.length c0_1,.slice A0_2 l0_2.length c0_2] 72 (0,0)) (by (with_reducible repeat (first|refine blk_drewN ?_ _|refine blk_drew ?_|refine blk_alloc ?_ _));exact BK203.out)):gb204 ≠ gb203));clear BK203;clear HB;have BK203:=n0_;have HB:=n1_;have BK204:=n2_;have GW204:=n3_;have GE204:=n4_;have NB203_204:=n5_;have NB204_203:=n6_;clear n0_ n1_ n2_ n3_ n4_ n5_ n6_;clear hb hbox hg;have hnb35:=NB203_204.out;have hnc35:=NB204_203.out;have hcz36_0:w34.cell? ⟨gb203,0,none⟩ = some (.bool a0_0):=(blk_cell BK203.out 0).trans rfl;have hcz36_1:w34.cell? ⟨gb203,1,none⟩ = some (.slice A0_1 l0_1.length c0_1):=(blk_cell BK203.out 1).trans rfl;have hcz36_2:w34.cell? ⟨gb203,2,none⟩ = some (.slice A0_2 l0_2.length c0_2):=(blk_cell BK203.out 2).trans rfl;have hfz36_0:=blk_frozen BK203.out 0;have hfz36_1:=blk_frozen BK203.out 1;have hfz36_2:=blk_frozen BK203.out 2;have hcz37_0:w34.cell? ⟨gb204,0,none⟩ = some (.bool a1_0):=(blk_cell BK204.out 0).trans rfl;have hcz37_1:w34.cell? ⟨gb204,1,none⟩ = some (.slice A1_1 l1_1.length c1_1):=(blk_cell BK204.out 1).trans rfl;have hcz37_2:w34.cell? ⟨gb204,2,none⟩ = some (.slice A1_2 l1_2.length c1_2):=(blk_cell BK204.out 2).trans rfl;have hfz37_0:=blk_frozen BK204.out 0;have hfz37_1:=blk_frozen BK204.out 1;have hfz37_2:=blk_frozen BK204.out 2)|((with_reducible refine gate_callee (f:=85) rfl ?_);refine goesL_ (some 9) rfl rfl Try.func85 (by kernel_rfl) rfl #[.slice A0_1 l0_1.length c0_1,.slice A1_1 l1_1.length c1_1] rfl (by (try simp only [List.map_toArray,List.map_cons,List.map_nil]);first|done|rfl|(simp only [List.length_drop,List.length_take];rfl)) ?_;(with_reducible refine (spec_l1Same.calls k _ _ l0_1 _ _ l1_1 false _ ?side1 ?side2 ?side3 ?side4 A3.out).mono ?_);(case side1=>repeat (first|exact (Kd.C_below HR0_1.out HB.out)|(with_reducible refine Kd.C_alloc ?_ _)|(with_reducible refine Kd.C_drewN ?_ _)|(with_reducible refine Kd.C_drew ?_)));(case side2=>exact HC0_1.out);(case side3=>repeat (first|exact (Kd.C_below HR1_1.out HB.out)|(with_reducible refine Kd.C_alloc ?_ _)|(with_reducible refine Kd.C_drewN ?_ _)|(with_reducible refine Kd.C_drew ?_)));(case side4=>exact HC1_1.out);rintro e w' ⟨rfl,⟨nd,rfl⟩⟩;refine ⟨_,rfl,?_⟩)|(go_at_call 85;(with_reducible refine (spec_l1Same.calls k _ _ l0_1 _ _ l1_2 false _ ?side1 ?side2 ?side3 ?side4 A25.out).mono ?_);(case side1=>repeat (first|exact (Kd.C_below HR0_1.out (by repeat (first|(with_reducible first|exact HB.out|apply below_alloc|apply pw_below_drewN|apply below_drew1|refine below_set ?_ GE203.out|refine below_set ?_ GE204.out)|exact HB.out)))|(with_reducible refine Kd.C_alloc ?_ _)|(with_reducible refine Kd.C_drewN ?_ _)|(with_reducible refine Kd.C_drew ?_)));(case side2=>exact HC0_1.out);(case side3=>repeat (first|exact (Kd.C_below HR1_2.out (by repeat (first|(with_reducible first|exact HB.out|apply below_alloc|apply pw_below_drewN|apply below_drew1|refine below_set ?_ GE203.out|refine below_set ?_ GE204.out)|exact HB.out)))|(with_reducible refine Kd.C_alloc ?_ _)|(with_reducible refine Kd.C_drewN ?_ _)|(with_reducible refine Kd.C_drew ?_)));(case side4=>exact HC1_2.out);rintro e w' ⟨rfl,⟨nd,rfl⟩⟩))
   go_ret
   exact ⟨by first|rfl|(simp [errW_none,errW_some] <;> rfl)|(simp [*,errW_none,errW_some] <;> rfl),by repeat (first|(with_reducible first|exact HB.out|apply below_alloc|apply pw_below_drewN|apply below_drew1|refine below_set ?_ GE203.out|refine below_set ?_ GE204.out)|exact HB.out)⟩

/-! ### spec_l4Tautology: function 102 -/
mutual
def spec_l4Tautology.l0:Nat → List (S72) → List (S72) → Int → Int → Option (Bool)
 | 0,_,_,_,_=>none
 | k + 1,x0,x7,x8,x9=>if x9 < x8 then (if 0 ≤ x9 then (if x9 < (x7.length:Int) then (if (rd_T72 x7 x9).f0 = true then ((spec_l1Same.f k ((rd_T72 x7 x9).f1) ((rd_T72 x7 x9).f2)).bind fun t213=>(spec_l4Tautology.j1 k x0 x9 x7 x8 x9 t213 ((rd_T72 x7 x9).f0) ((rd_T72 x7 x9).f1) ((rd_T72 x7 x9).f2))) else (spec_l4Tautology.j1 k x0 x9 x7 x8 x9 false ((rd_T72 x7 x9).f0) ((rd_T72 x7 x9).f1) ((rd_T72 x7 x9).f2))) else (none)) else (none)) else (some false)
def spec_l4Tautology.j1:Nat → List (S72) → Int → List (S72) → Int → Int → Bool → Bool → List Int → List Int → Option (Bool)
 | 0,_,_,_,_,_,_,_,_,_=>none
 | k + 1,x0,x3,x7,x8,x9,x22,x213000,x213001,x213002=>if x22 = true then (some true) else (if 0 ≤ x3 then (if x3 ≤ (x0.length:Int) then ((some (x0.take (x3:Int).toNat:List (S72))).bind fun y214=>(spec_l4Tautology.l1 k x0 x7 x8 x9 y214 (y214.length:Int) 0 x213000 x213001 x213002)) else (none)) else (none))
def spec_l4Tautology.l1:Nat → List (S72) → List (S72) → Int → Int → List (S72) → Int → Int → Bool → List Int → List Int → Option (Bool)
 | 0,_,_,_,_,_,_,_,_,_,_=>none
 | k + 1,x0,x7,x8,x9,x25,x26,x27,x213000,x213001,x213002=>if x27 < x26 then (if 0 ≤ x27 then (if x27 < (x25.length:Int) then (if (x213000 != ((rd_T72 x25 x27).f0)) = true then ((spec_l4SameTerms.f k x213000 x213001 x213002 ((rd_T72 x25 x27).f0) ((rd_T72 x25 x27).f1) ((rd_T72 x25 x27).f2)).bind fun t220=>(if t220 = true then (some true) else (spec_l4Tautology.l1 k x0 x7 x8 x9 x25 x26 (wrap64 (x27 + 1)) x213000 x213001 x213002))) else (spec_l4Tautology.l1 k x0 x7 x8 x9 x25 x26 (wrap64 (x27 + 1)) x213000 x213001 x213002)) else (none)) else (none)) else (spec_l4Tautology.l0 k x0 x7 x8 (wrap64 (x9 + 1)))
end
def spec_l4Tautology.f (k:Nat) (l0:List (S72)):Option (Bool):=spec_l4Tautology.l0 k l0 l0 (l0.length:Int) 0
theorem spec_l4Tautology.mono_l:∀ k,(∀ y0 y1 y2 y3,LeO (spec_l4Tautology.l0 k y0 y1 y2 y3) (spec_l4Tautology.l0 (k + 1) y0 y1 y2 y3)) ∧ (∀ y0 y1 y2 y3 y4 y5 y6 y7 y8,LeO (spec_l4Tautology.j1 k y0 y1 y2 y3 y4 y5 y6 y7 y8) (spec_l4Tautology.j1 (k + 1) y0 y1 y2 y3 y4 y5 y6 y7 y8)) ∧ (∀ y0 y1 y2 y3 y4 y5 y6 y7 y8 y9,LeO (spec_l4Tautology.l1 k y0 y1 y2 y3 y4 y5 y6 y7 y8 y9) (spec_l4Tautology.l1 (k + 1) y0 y1 y2 y3 y4 y5 y6 y7 y8 y9))
 | 0=>⟨fun _ _ _ _ r h=>by simp [spec_l4Tautology.l0] at h,fun _ _ _ _ _ _ _ _ _ r h=>by simp [spec_l4Tautology.j1] at h,fun _ _ _ _ _ _ _ _ _ _ r h=>by simp [spec_l4Tautology.l1] at h⟩
 | k + 1=>by
  obtain ⟨ih0,ih1,ih2⟩:=spec_l4Tautology.mono_l k
  refine ⟨?_,?_,?_⟩
  ·intro y0 y1 y2 y3
   unfold spec_l4Tautology.l0
   repeat' first
   | (with_reducible exact ih0 _ _ _ _)
   | (with_reducible exact ih1 _ _ _ _ _ _ _ _ _)
   | (with_reducible exact ih2 _ _ _ _ _ _ _ _ _ _)
   | (with_reducible exact spec_l1Same.mono _ _ _)
   | (with_reducible exact spec_l4SameTerms.mono _ _ _ _ _ _ _)
   | (with_reducible exact LeO.refl _)
   | (with_reducible exact LeO.none _)
   | (with_reducible refine LeO.ite ?_ ?_)
   | (with_reducible refine LeO.bind ?_ (fun _=>?_))
   | exact ih0 _ _ _ _
   | exact ih1 _ _ _ _ _ _ _ _ _
   | exact ih2 _ _ _ _ _ _ _ _ _ _
   | exact spec_l1Same.mono _ _ _
   | exact spec_l4SameTerms.mono _ _ _ _ _ _ _
   | exact LeO.none _
   | refine LeO.ite ?_ ?_
   | refine LeO.bind ?_ (fun _=>?_)
  ·intro y0 y1 y2 y3 y4 y5 y6 y7 y8
   unfold spec_l4Tautology.j1
   repeat' first
   | (with_reducible exact ih0 _ _ _ _)
   | (with_reducible exact ih1 _ _ _ _ _ _ _ _ _)
   | (with_reducible exact ih2 _ _ _ _ _ _ _ _ _ _)
   | (with_reducible exact spec_l1Same.mono _ _ _)
   | (with_reducible exact spec_l4SameTerms.mono _ _ _ _ _ _ _)
   | (with_reducible exact LeO.refl _)
   | (with_reducible exact LeO.none _)
   | (with_reducible refine LeO.ite ?_ ?_)
   | (with_reducible refine LeO.bind ?_ (fun _=>?_))
   | exact ih0 _ _ _ _
   | exact ih1 _ _ _ _ _ _ _ _ _
   | exact ih2 _ _ _ _ _ _ _ _ _ _
   | exact spec_l1Same.mono _ _ _
   | exact spec_l4SameTerms.mono _ _ _ _ _ _ _
   | exact LeO.none _
   | refine LeO.ite ?_ ?_
   | refine LeO.bind ?_ (fun _=>?_)
  ·intro y0 y1 y2 y3 y4 y5 y6 y7 y8 y9
   unfold spec_l4Tautology.l1
   repeat' first
   | (with_reducible exact ih0 _ _ _ _)
   | (with_reducible exact ih1 _ _ _ _ _ _ _ _ _)
   | (with_reducible exact ih2 _ _ _ _ _ _ _ _ _ _)
   | (with_reducible exact spec_l1Same.mono _ _ _)
   | (with_reducible exact spec_l4SameTerms.mono _ _ _ _ _ _ _)
   | (with_reducible exact LeO.refl _)
   | (with_reducible exact LeO.none _)
   | (with_reducible refine LeO.ite ?_ ?_)
   | (with_reducible refine LeO.bind ?_ (fun _=>?_))
   | exact ih0 _ _ _ _
   | exact ih1 _ _ _ _ _ _ _ _ _
   | exact ih2 _ _ _ _ _ _ _ _ _ _
   | exact spec_l1Same.mono _ _ _
   | exact spec_l4SameTerms.mono _ _ _ _ _ _ _
   | exact LeO.none _
   | refine LeO.ite ?_ ?_
   | refine LeO.bind ?_ (fun _=>?_)
theorem spec_l4Tautology.mono:∀ a0 k,LeO (spec_l4Tautology.f k a0) (spec_l4Tautology.f (k + 1) a0):=by
 intro a0 k
 obtain ⟨ih0,ih1,ih2⟩:=spec_l4Tautology.mono_l k
 unfold spec_l4Tautology.f
 repeat' first
   | (with_reducible exact ih0 _ _ _ _)
   | (with_reducible exact ih1 _ _ _ _ _ _ _ _ _)
   | (with_reducible exact ih2 _ _ _ _ _ _ _ _ _ _)
   | (with_reducible exact spec_l1Same.mono _ _ _)
   | (with_reducible exact spec_l4SameTerms.mono _ _ _ _ _ _ _)
   | (with_reducible exact LeO.refl _)
   | (with_reducible exact LeO.none _)
   | (with_reducible refine LeO.ite ?_ ?_)
   | (with_reducible refine LeO.bind ?_ (fun _=>?_))
   | exact ih0 _ _ _ _
   | exact ih1 _ _ _ _ _ _ _ _ _
   | exact ih2 _ _ _ _ _ _ _ _ _ _
   | exact spec_l1Same.mono _ _ _
   | exact spec_l4SameTerms.mono _ _ _ _ _ _ _
   | exact LeO.none _
   | refine LeO.ite ?_ ?_
   | refine LeO.bind ?_ (fun _=>?_)
set_option maxHeartbeats 8000000 in
set_option maxRecDepth 100000 in
theorem spec_l4Tautology.calls (k:Nat) (A0:Option Addr) (c0:Nat) (l0:List (S72)) (r:Bool) (w:World) (hr0:Kd.C k72 w A0 l0.length l0) (hc0:l0.length ≤ c0) (h:spec_l4Tautology.f k l0 = some r) :
  Calls Try.prog 102 #[.slice A0 l0.length c0] w fun e w'=>e = .returned (.bool r) ∧ Below w.heap.size w w':=by
 have hu72:=Try.underlying72
 have HR0:=Aside0.mk hr0
 have HC0:=Aside0.mk hc0
 clear hr0 hc0
 have HB:=Aside0.mk (Below.refl w.heap.size w)
 have H:(spec_l4Tautology.l0 k l0 l0 (l0.length:Int) 0) = some r:=h
 clear h
 have H':=Aside0.mk H
 clear H
 go_enter Try.func102,Try.ntmps102
 go_wp2
 go_loopg [9] k (fun kq v9 w'=>∃ (x9_1:Int),v9 = .int .i64 x9_1 ∧ Aside0 (spec_l4Tautology.l0 kq l0 l0 (l0.length:Int) x9_1 = some r) ∧ Aside0 (kq ≤ k) ∧ Aside0 (Below w.heap.size w w'))
 case atStart=>exact ⟨(0),(by first|rfl|(simp;done)|(simp [*];done)),H',⟨Nat.le_refl _⟩,⟨by repeat (first|(with_reducible first|exact HB.out|apply below_alloc|apply pw_below_drewN|apply below_drew1)|exact HB.out)⟩⟩
 case round =>
  clear H'
  try clear c1
  obtain ⟨x9_1,rfl,HA,HK1,HB⟩:=hrel
  cases gk with
  | zero=>exact absurd HA.out (by simp [spec_l4Tautology.l0])
  | succ k1 =>
   have H:=HA.out
   clear HA
   simp only [spec_l4Tautology.l0] at H
   by_cases c2:x9_1 < (l0.length:Int)
   ·rw [if_pos c2] at H
    have c2b0:decide (x9_1 < (l0.length:Int)) = true:=decide_eq_true c2
    clear c2
    by_cases c3:0 ≤ x9_1
    ·rw [if_pos c3] at H
     have c3b0:decide (0 ≤ x9_1) = true:=decide_eq_true c3
     clear c3
     by_cases c4:x9_1 < (l0.length:Int)
     ·rw [if_pos c4] at H
      have c4b0:decide (x9_1 < (l0.length:Int)) = true:=decide_eq_true c4
      clear c4
      have HC5:=Aside0.mk H
      clear H
      have p211:0 ≤ (x9_1:Int):=of_decide_eq_true (by first|(with_reducible assumption)|assumption)
      have q211:x9_1 < (l0.length:Int):=of_decide_eq_true (by first|(with_reducible assumption)|assumption)
      obtain ⟨ad211,A211_1,c211_1,A211_2,c211_2,e211,hx211_0,hx211_1,hx211_2,hl211_1,hi211_1,hl211_2,hi211_2⟩:=at_T72 HR0.out x9_1 p211 q211
      cases e211
      replace hx211_0:=(HB.out.cell (World.block_lt_of_cell? w _ hx211_0)).trans hx211_0
      replace hx211_1:=(HB.out.cell (World.block_lt_of_cell? w _ hx211_1)).trans hx211_1
      replace hx211_2:=(HB.out.cell (World.block_lt_of_cell? w _ hx211_2)).trans hx211_2
      have HR211_1:=Aside0.mk hi211_1
      have HC211_1:=Aside0.mk hl211_1
      clear hi211_1 hl211_1
      have HR211_2:=Aside0.mk hi211_2
      have HC211_2:=Aside0.mk hl211_2
      clear hi211_2 hl211_2
      replace p211:=eq_true p211
      replace q211:=eq_true q211
      go_upto_region 4 with (first|((with_reducible refine gate_dst (N:=4) rfl ?_);refine box_event ?hg (N:=4) ?hd (cs:=#[.bool false,.slice none 0 0,.slice none 0 0]) (t:=72) ?hr ?_;(case hd=>rfl);(case hg=>rfl);(case hr=>first|(go_simp;done)|(go_simp;rfl));intro gb212 hg w6 hbox hb;have n0_:=Aside0.mk (below_step (by repeat (first|(with_reducible first|exact HB.out|apply below_alloc|apply pw_below_drewN|apply below_drew1)|exact HB.out)) hb);have n1_:=Aside0.mk (hbox);have n2_:=Aside0.mk ((by rw [hg];exact (below_size (by repeat (first|(with_reducible first|exact HB.out|apply below_alloc|apply pw_below_drewN|apply below_drew1)|exact HB.out))):w.heap.size ≤ gb212));have n3_:=Aside0.mk ((by rw [hg];exact (below_size (by repeat (first|(with_reducible first|exact HB.out|apply below_alloc|apply pw_below_drewN|apply below_drew1)|exact HB.out))):w.heap.size ≤ gb212));clear HB;have HB:=n0_;have BK212:=n1_;have GW212:=n2_;have GE212:=n3_;clear n0_ n1_ n2_ n3_;clear hb hbox hg;have hcz7_0:w6.cell? ⟨gb212,0,none⟩ = some (.bool false):=(blk_cell BK212.out 0).trans rfl;have hcz7_1:w6.cell? ⟨gb212,1,none⟩ = some (.slice none 0 0):=(blk_cell BK212.out 1).trans rfl;have hcz7_2:w6.cell? ⟨gb212,2,none⟩ = some (.slice none 0 0):=(blk_cell BK212.out 2).trans rfl;have hfz7_0:=blk_frozen BK212.out 0;have hfz7_1:=blk_frozen BK212.out 1;have hfz7_2:=blk_frozen BK212.out 2))
      (try simp only [Act.put,List.setIfInBounds_toArray,List.set_cons_zero,List.set_cons_succ])
      go_cut [22] (fun v22 wc=>∃ (kq:Nat) (x22_4:Bool),v22 = .bool x22_4 ∧ Aside0 (spec_l4Tautology.j1 kq l0 x9_1 l0 (l0.length:Int) x9_1 x22_4 ((rd_T72 l0 x9_1).f0) ((rd_T72 l0 x9_1).f1) ((rd_T72 l0 x9_1).f2) = some r) ∧ Aside0 (kq ≤ k1) ∧ Aside0 (wc.heap[gb212]? = some (.cells #[.bool ((rd_T72 l0 x9_1).f0),(.slice A211_1 ((rd_T72 l0 x9_1).f1).length c211_1),(.slice A211_2 ((rd_T72 l0 x9_1).f2).length c211_2)] 72 (0,0))) ∧ Aside0 (Below w.heap.size w wc))
      case first =>
       have H:=HC5.out
       clear HC5
       obtain ⟨bq8,hbq8⟩:∃ b_:Bool,b_ = ((rd_T72 l0 x9_1).f0):=⟨_,rfl⟩
       replace H:(if bq8 = true then ((spec_l1Same.f k1 ((rd_T72 l0 x9_1).f1) ((rd_T72 l0 x9_1).f2)).bind fun t213=>(spec_l4Tautology.j1 k1 l0 x9_1 l0 (l0.length:Int) x9_1 t213 bq8 ((rd_T72 l0 x9_1).f1) ((rd_T72 l0 x9_1).f2))) else (spec_l4Tautology.j1 k1 l0 x9_1 l0 (l0.length:Int) x9_1 false bq8 ((rd_T72 l0 x9_1).f1) ((rd_T72 l0 x9_1).f2))) = some r:=by rw [← hbq8] at H;exact H
       have Nbq8:=Aside0.mk hbq8
       clear hbq8
       (try rw [← Nbq8.out])
       by_cases c9:bq8 = true
       ·subst c9
        have H1:((spec_l1Same.f k1 ((rd_T72 l0 x9_1).f1) ((rd_T72 l0 x9_1).f2)).bind fun t213=>(spec_l4Tautology.j1 k1 l0 x9_1 l0 (l0.length:Int) x9_1 t213 true ((rd_T72 l0 x9_1).f1) ((rd_T72 l0 x9_1).f2))) = some r:=by rw [if_pos rfl] at H;exact H
        clear H
        have H:=H1
        clear H1
        replace H:=Option.bind_eq_some_iff.mp H
        obtain ⟨t213,A100,H⟩:=H
        replace H:(spec_l4Tautology.j1 k1 l0 x9_1 l0 (l0.length:Int) x9_1 t213 true ((rd_T72 l0 x9_1).f1) ((rd_T72 l0 x9_1).f2)) = some r:=H
        have A10:=Aside0.mk A100
        clear A100
        have H':=Aside0.mk H
        clear H
        have hcz11_0:w6.cell? ⟨gb212,0,none⟩ = some (.bool false):=(blk_cell BK212.out 0).trans rfl
        have hcz11_1:w6.cell? ⟨gb212,1,none⟩ = some (.slice none 0 0):=(blk_cell BK212.out 1).trans rfl
        have hcz11_2:w6.cell? ⟨gb212,2,none⟩ = some (.slice none 0 0):=(blk_cell BK212.out 2).trans rfl
        have hfz11_0:=blk_frozen BK212.out 0
        have hfz11_1:=blk_frozen BK212.out 1
        have hfz11_2:=blk_frozen BK212.out 2
        go_wp2_with (first|(go_at_call 85;(with_reducible refine (spec_l1Same.calls k1 _ _ ((rd_T72 l0 x9_1).f1) _ _ ((rd_T72 l0 x9_1).f2) t213 _ ?side1 ?side2 ?side3 ?side4 A10.out).mono ?_);(case side1=>exact Kd.C_below HR211_1.out (by repeat (first|(with_reducible first|exact HB.out|apply below_alloc|apply pw_below_drewN|apply below_drew1|refine below_set ?_ GE212.out)|exact HB.out)));(case side2=>exact HC211_1.out);(case side3=>exact Kd.C_below HR211_2.out (by repeat (first|(with_reducible first|exact HB.out|apply below_alloc|apply pw_below_drewN|apply below_drew1|refine below_set ?_ GE212.out)|exact HB.out)));(case side4=>exact HC211_2.out);rintro e w' ⟨rfl,⟨nd,rfl⟩⟩))
        go_meet
        case rel=>(rw [← Nbq8.out];exact ⟨_,(t213),(by first|rfl|(simp;done)|(simp [*];done)),H',⟨by have:=HK1.out;first|omega|exact Nat.le_refl _⟩,⟨by (with_reducible repeat (first|refine blk_drewN ?_ _|refine blk_drew ?_|refine blk_alloc ?_ _));refine blk_put (cs:=#[.bool (true),.slice A211_1 ((rd_T72 l0 x9_1).f1).length c211_1,.slice none 0 0]) ?_ 2 _ rfl;(with_reducible repeat (first|refine blk_drewN ?_ _|refine blk_drew ?_|refine blk_alloc ?_ _));refine blk_put (cs:=#[.bool (true),.slice none 0 0,.slice none 0 0]) ?_ 1 _ rfl;(with_reducible repeat (first|refine blk_drewN ?_ _|refine blk_drew ?_|refine blk_alloc ?_ _));refine blk_put (cs:=#[.bool false,.slice none 0 0,.slice none 0 0]) ?_ 0 _ rfl;(with_reducible repeat (first|refine blk_drewN ?_ _|refine blk_drew ?_|refine blk_alloc ?_ _));exact BK212.out⟩,⟨by repeat (first|(with_reducible first|exact HB.out|apply below_alloc|apply pw_below_drewN|apply below_drew1|refine below_set ?_ GE212.out)|exact HB.out)⟩⟩)
       ·replace c9:=Bool.eq_false_iff.mpr c9
        subst c9
        have H1:(spec_l4Tautology.j1 k1 l0 x9_1 l0 (l0.length:Int) x9_1 false false ((rd_T72 l0 x9_1).f1) ((rd_T72 l0 x9_1).f2)) = some r:=by rw [if_neg (show ¬ (false = true) by decide)] at H;exact H
        clear H
        have H:=H1
        clear H1
        have H':=Aside0.mk H
        clear H
        have hcz12_0:w6.cell? ⟨gb212,0,none⟩ = some (.bool false):=(blk_cell BK212.out 0).trans rfl
        have hcz12_1:w6.cell? ⟨gb212,1,none⟩ = some (.slice none 0 0):=(blk_cell BK212.out 1).trans rfl
        have hcz12_2:w6.cell? ⟨gb212,2,none⟩ = some (.slice none 0 0):=(blk_cell BK212.out 2).trans rfl
        have hfz12_0:=blk_frozen BK212.out 0
        have hfz12_1:=blk_frozen BK212.out 1
        have hfz12_2:=blk_frozen BK212.out 2
        go_wp2
        go_meet
        case rel=>(rw [← Nbq8.out];exact ⟨_,(false),(by first|rfl|(simp;done)|(simp [*];done)),H',⟨by have:=HK1.out;first|omega|exact Nat.le_refl _⟩,⟨by (with_reducible repeat (first|refine blk_drewN ?_ _|refine blk_drew ?_|refine blk_alloc ?_ _));refine blk_put (cs:=#[.bool (false),.slice A211_1 ((rd_T72 l0 x9_1).f1).length c211_1,.slice none 0 0]) ?_ 2 _ rfl;(with_reducible repeat (first|refine blk_drewN ?_ _|refine blk_drew ?_|refine blk_alloc ?_ _));refine blk_put (cs:=#[.bool (false),.slice none 0 0,.slice none 0 0]) ?_ 1 _ rfl;(with_reducible repeat (first|refine blk_drewN ?_ _|refine blk_drew ?_|refine blk_alloc ?_ _));refine blk_put (cs:=#[.bool false,.slice none 0 0,.slice none 0 0]) ?_ 0 _ rfl;(with_reducible repeat (first|refine blk_drewN ?_ _|refine blk_drew ?_|refine blk_alloc ?_ _));exact BK212.out⟩,⟨by repeat (first|(with_reducible first|exact HB.out|apply below_alloc|apply pw_below_drewN|apply below_drew1|refine below_set ?_ GE212.out)|exact HB.out)⟩⟩)
      case rest =>
       clear HC5
       try clear c1
       try clear c2
       try clear c2b0
       try clear p2
       try clear q2
       try clear hx2
       try clear c3
       try clear c3b0
       try clear c4
       try clear c4b0
       try clear q8
       try clear c9
       try clear c10
       try clear hcz11_0
       try clear hcz11_1
       try clear hcz11_2
       try clear hcz12_0
       try clear hcz12_1
       try clear hcz12_2
       try clear hcz7_0
       try clear hcz7_1
       try clear hcz7_2
       try clear hfz11_0
       try clear hfz11_1
       try clear hfz11_2
       try clear hfz12_0
       try clear hfz12_1
       try clear hfz12_2
       try clear hfz7_0
       try clear hfz7_1
       try clear hfz7_2
       try clear hx211_0
       try clear hx211_1
       try clear hx211_2
       try clear p211
       try clear q211
       obtain ⟨kq,x22_4,rfl,HA,HJ4,BK212,HB⟩:=hcut
       cases kq with
       | zero=>exact absurd HA.out (by simp [spec_l4Tautology.j1])
       | succ kj4 =>
        have H:=HA.out
        clear HA
        simp only [spec_l4Tautology.j1] at H
        by_cases c13:x22_4 = true
        ·subst c13
         have H1:(some true) = some r:=by rw [if_pos rfl] at H;exact H
         clear H
         have H:=H1
         clear H1
         obtain rfl:=Option.some.inj H
         go_wp2
         go_ret
         exact ⟨by first|rfl|(simp [errW_none,errW_some] <;> rfl)|(simp [*,errW_none,errW_some] <;> rfl),by repeat (first|(with_reducible first|exact HB.out|apply below_alloc|apply pw_below_drewN|apply below_drew1|refine below_set ?_ GE212.out)|exact HB.out)⟩
        ·replace c13:=Bool.eq_false_iff.mpr c13
         subst c13
         have H1:(if 0 ≤ x9_1 then (if x9_1 ≤ (l0.length:Int) then ((some (l0.take (x9_1:Int).toNat:List (S72))).bind fun y214=>(spec_l4Tautology.l1 kj4 l0 l0 (l0.length:Int) x9_1 y214 (y214.length:Int) 0 ((rd_T72 l0 x9_1).f0) ((rd_T72 l0 x9_1).f1) ((rd_T72 l0 x9_1).f2))) else (none)) else (none)) = some r:=by rw [if_neg (show ¬ (false = true) by decide)] at H;exact H
         clear H
         have H:=H1
         clear H1
         by_cases c14:0 ≤ x9_1
         ·rw [if_pos c14] at H
          have c14b0:=eq_true c14
          have c14b1:decide (0 ≤ x9_1) = true:=decide_eq_true c14
          clear c14
          by_cases c15:x9_1 ≤ (l0.length:Int)
          ·rw [if_pos c15] at H
           have c15b0:=eq_true c15
           have c15b1:decide (x9_1 ≤ (l0.length:Int)) = true:=decide_eq_true c15
           clear c15
           obtain ⟨y214,hy214⟩:∃ y_:List (S72),y_ = (l0.take (x9_1:Int).toNat):=⟨_,rfl⟩
           replace H:(spec_l4Tautology.l1 kj4 l0 l0 (l0.length:Int) x9_1 y214 (y214.length:Int) 0 ((rd_T72 l0 x9_1).f0) ((rd_T72 l0 x9_1).f1) ((rd_T72 l0 x9_1).f2)) = some r:=by first|(rw [hy214];with_reducible exact H)|(have H2_:=(Option.bind_some _ _).symm.trans H;rw [hy214];with_reducible exact H2_)|(have H2_:=(Option.bind_some _ _).symm.trans H;with_reducible exact H2_)|with_reducible exact H|(rw [hy214];exact H)|exact H
           have Ny214:=Aside0.mk hy214
           clear hy214
           have H':=Aside0.mk H
           clear H
           have q16:(x9_1:Int) ≤ ((l0.length:Int):Int):=of_decide_eq_true (by first|(with_reducible assumption)|assumption)
           obtain ⟨i016,hi016,_,hsz16,_⟩:=info_parts info72
           have hroom16:l0.length ≤ c0:=HC0.out
           have hC16:Kd.C k72 _ (some ad211) l0.length l0:=HR0.out
           have hcut16:=cut_to (P:=Try.prog) 32 72 .i64 Try.underlying32 hi016 (some ad211) l0.length c0 x9_1 (of_decide_eq_true (by first|(with_reducible assumption)|assumption)) q16 hroom16
           have hr16:=Kd.C_take (m:=(x9_1:Int).toNat) hC16 (by omega)
           have hy16:y214.length = (x9_1:Int).toNat:=(by rw [Ny214.out,List.length_take];omega)
           rw [← Ny214.out] at hr16
           rw [← hy16] at hcut16
           have HR217:=Aside0.mk hr16
           have HC217:=Aside0.mk (show y214.length ≤ c0 from by omega)
           clear hr16 hC16 hroom16 hi016 hsz16
           have KY16:=Aside0.mk hy16
           clear hy16
           replace q16:=eq_true q16
           go_wp2
           go_loopg [27] kj4 (fun kq v27 w'=>∃ (x27_3:Int),v27 = .int .i64 x27_3 ∧ Aside0 (spec_l4Tautology.l1 kq l0 l0 (l0.length:Int) x9_1 y214 (y214.length:Int) x27_3 ((rd_T72 l0 x9_1).f0) ((rd_T72 l0 x9_1).f1) ((rd_T72 l0 x9_1).f2) = some r) ∧ Aside0 (kq ≤ kj4) ∧ Aside0 (w'.heap[gb212]? = some (.cells #[.bool ((rd_T72 l0 x9_1).f0),(.slice A211_1 ((rd_T72 l0 x9_1).f1).length c211_1),(.slice A211_2 ((rd_T72 l0 x9_1).f2).length c211_2)] 72 (0,0))) ∧ Aside0 (Below w.heap.size w w'))
           case atStart=>exact ⟨(0),(by first|rfl|(simp;done)|(simp [*];done)),H',⟨Nat.le_refl _⟩,⟨by (with_reducible repeat (first|refine blk_drewN ?_ _|refine blk_drew ?_|refine blk_alloc ?_ _));exact BK212.out⟩,⟨by repeat (first|(with_reducible first|exact HB.out|apply below_alloc|apply pw_below_drewN|apply below_drew1|refine below_set ?_ GE212.out)|exact HB.out)⟩⟩
           case round =>
            clear H'
            try clear c1
            try clear q1
            try clear c2
            try clear c2b0
            try clear p2
            try clear q2
            try clear hx2
            try clear c3
            try clear c3b0
            try clear c4
            try clear c4b0
            try clear q8
            try clear c9
            try clear c10
            try clear c13
            try clear c14
            try clear c14b0
            try clear c14b1
            try clear c15
            try clear c15b0
            try clear c15b1
            try clear q16
            try clear hcz11_0
            try clear hcz11_1
            try clear hcz11_2
            try clear hcz12_0
            try clear hcz12_1
            try clear hcz12_2
            try clear hcz7_0
            try clear hcz7_1
            try clear hcz7_2
            try clear hfz11_0
            try clear hfz11_1
            try clear hfz11_2
            try clear hfz12_0
            try clear hfz12_1
            try clear hfz12_2
            try clear hfz7_0
            try clear hfz7_1
            try clear hfz7_2
            try clear hx211_0
            try clear hx211_1
            try clear hx211_2
            try clear p2
            try clear p211
            try clear q16
            try clear q2
            try clear q211
            try clear q8
            obtain ⟨x27_3,rfl,HA,HK3,BK212,HB⟩:=hrel
            cases gk with
            | zero=>exact absurd HA.out (by simp [spec_l4Tautology.l1])
            | succ k3 =>
             have H:=HA.out
             clear HA
             simp only [spec_l4Tautology.l1] at H
             by_cases c17:x27_3 < (y214.length:Int)
             ·rw [if_pos c17] at H
              have c17b0:decide (x27_3 < (y214.length:Int)) = true:=decide_eq_true c17
              clear c17
              by_cases c18:0 ≤ x27_3
              ·rw [if_pos c18] at H
               have c18b0:decide (0 ≤ x27_3) = true:=decide_eq_true c18
               clear c18
               by_cases c19:x27_3 < (y214.length:Int)
               ·rw [if_pos c19] at H
                have c19b0:decide (x27_3 < (y214.length:Int)) = true:=decide_eq_true c19
                clear c19
                by_cases c20:(((rd_T72 l0 x9_1).f0) != ((rd_T72 y214 x27_3).f0)) = true
                ·rw [if_pos c20] at H
                 have c20b0:(((rd_T72 l0 x9_1).f0) != ((rd_T72 y214 x27_3).f0)) = true:=c20
                 (try (have c20b1:decide (((rd_T72 l0 x9_1).f0) = ((rd_T72 y214 x27_3).f0)) = false:=by simpa using c20))
                 (try (have c20b2:(((rd_T72 l0 x9_1).f0) == ((rd_T72 y214 x27_3).f0)) = false:=by simpa using c20))
                 (try (have c20b3:¬ (((rd_T72 l0 x9_1).f0) = ((rd_T72 y214 x27_3).f0)):=by simpa using c20))
                 clear c20
                 replace H:=Option.bind_eq_some_iff.mp H
                 obtain ⟨t220,A210,H⟩:=H
                 replace H:(if t220 = true then (some true) else (spec_l4Tautology.l1 k3 l0 l0 (l0.length:Int) x9_1 y214 (y214.length:Int) (wrap64 (x27_3 + 1)) ((rd_T72 l0 x9_1).f0) ((rd_T72 l0 x9_1).f1) ((rd_T72 l0 x9_1).f2))) = some r:=H
                 have A21:=Aside0.mk A210
                 clear A210
                 by_cases c22:t220 = true
                 ·subst c22
                  have H1:(some true) = some r:=by rw [if_pos rfl] at H;exact H
                  clear H
                  have H:=H1
                  clear H1
                  obtain rfl:=Option.some.inj H
                  have p218:0 ≤ (x27_3:Int):=of_decide_eq_true (by first|(with_reducible assumption)|assumption)
                  have q218:x27_3 < (y214.length:Int):=of_decide_eq_true (by first|(with_reducible assumption)|assumption)
                  obtain ⟨ad218,A218_1,c218_1,A218_2,c218_2,e218,hx218_0,hx218_1,hx218_2,hl218_1,hi218_1,hl218_2,hi218_2⟩:=at_T72 HR217.out x27_3 p218 q218
                  obtain rfl:ad211 = ad218:=(by injection e218)
                  replace hx218_0:=(HB.out.cell (World.block_lt_of_cell? w _ hx218_0)).trans hx218_0
                  replace hx218_1:=(HB.out.cell (World.block_lt_of_cell? w _ hx218_1)).trans hx218_1
                  replace hx218_2:=(HB.out.cell (World.block_lt_of_cell? w _ hx218_2)).trans hx218_2
                  have HR218_1:=Aside0.mk hi218_1
                  have HC218_1:=Aside0.mk hl218_1
                  clear hi218_1 hl218_1
                  have HR218_2:=Aside0.mk hi218_2
                  have HC218_2:=Aside0.mk hl218_2
                  clear hi218_2 hl218_2
                  replace p218:=eq_true p218
                  replace q218:=eq_true q218
                  go_wp2_with (first|((with_reducible refine gate_dst (N:=6) rfl ?_);refine box_event ?hg (N:=6) ?hd (cs:=#[.bool false,.slice none 0 0,.slice none 0 0]) (t:=72) ?hr ?_;(case hd=>rfl);(case hg=>rfl);(case hr=>first|(go_simp;done)|(go_simp;rfl));intro gb219 hg w23 hbox hb;have n0_:=Aside0.mk (blk_below (g:=gb212) (o:=.cells #[.bool ((rd_T72 l0 x9_1).f0),.slice A211_1 ((rd_T72 l0 x9_1).f1).length c211_1,.slice A211_2 ((rd_T72 l0 x9_1).f2).length c211_2] 72 (0,0)) (by (with_reducible repeat (first|refine blk_drewN ?_ _|refine blk_drew ?_|refine blk_alloc ?_ _));exact BK212.out) hb);have n1_:=Aside0.mk (below_step (by repeat (first|(with_reducible first|exact HB.out|apply below_alloc|apply pw_below_drewN|apply below_drew1|refine below_set ?_ GE212.out)|exact HB.out)) hb);have n2_:=Aside0.mk (hbox);have n3_:=Aside0.mk ((by rw [hg];exact (below_size (by repeat (first|(with_reducible first|exact HB.out|apply below_alloc|apply pw_below_drewN|apply below_drew1|refine below_set ?_ GE212.out)|exact HB.out))):w.heap.size ≤ gb219));have n4_:=Aside0.mk ((by rw [hg];exact (below_size (by repeat (first|(with_reducible first|exact HB.out|apply below_alloc|apply pw_below_drewN|apply below_drew1|refine below_set ?_ GE212.out)|exact HB.out))):w.heap.size ≤ gb219));have n5_:=Aside0.mk ((by rw [hg];exact Nat.ne_of_lt (blk_lt (g:=gb212) (o:=.cells #[.bool ((rd_T72 l0 x9_1).f0),.slice A211_1 ((rd_T72 l0 x9_1).f1).length c211_1,.slice A211_2 ((rd_T72 l0 x9_1).f2).length c211_2] 72 (0,0)) (by (with_reducible repeat (first|refine blk_drewN ?_ _|refine blk_drew ?_|refine blk_alloc ?_ _));exact BK212.out)):gb212 ≠ gb219));have n6_:=Aside0.mk ((by rw [hg];exact Nat.ne_of_gt (blk_lt (g:=gb212) (o:=.cells #[.bool ((rd_T72 l0 x9_1).f0),.slice A211_1 ((rd_T72 l0 x9_1).f1).length c211_1,.slice A211_2 ((rd_T72 l0 x9_1).f2).length c211_2] 72 (0,0)) (by (with_reducible repeat (first|refine blk_drewN ?_ _|refine blk_drew ?_|refine blk_alloc ?_ _));exact BK212.out)):gb219 ≠ gb212));clear BK212;clear HB;have BK212:=n0_;have HB:=n1_;have BK219:=n2_;have GW219:=n3_;have GE219:=n4_;have NB212_219:=n5_;have NB219_212:=n6_;clear n0_ n1_ n2_ n3_ n4_ n5_ n6_;clear hb hbox hg;have hnb24:=NB219_212.out;have hnc24:=NB212_219.out;have hcz25_0:w23.cell? ⟨gb219,0,none⟩ = some (.bool false):=(blk_cell BK219.out 0).trans rfl;have hcz25_1:w23.cell? ⟨gb219,1,none⟩ = some (.slice none 0 0):=(blk_cell BK219.out 1).trans rfl;have hcz25_2:w23.cell? ⟨gb219,2,none⟩ = some (.slice none 0 0):=(blk_cell BK219.out 2).trans rfl;have hfz25_0:=blk_frozen BK219.out 0;have hfz25_1:=blk_frozen BK219.out 1;have hfz25_2:=blk_frozen BK219.out 2;have hcz26_0:w23.cell? ⟨gb212,0,none⟩ = some (.bool ((rd_T72 l0 x9_1).f0)):=(blk_cell BK212.out 0).trans rfl;have hcz26_1:w23.cell? ⟨gb212,1,none⟩ = some (.slice A211_1 ((rd_T72 l0 x9_1).f1).length c211_1):=(blk_cell BK212.out 1).trans rfl;have hcz26_2:w23.cell? ⟨gb212,2,none⟩ = some (.slice A211_2 ((rd_T72 l0 x9_1).f2).length c211_2):=(blk_cell BK212.out 2).trans rfl;have hfz26_0:=blk_frozen BK212.out 0;have hfz26_1:=blk_frozen BK212.out 1;have hfz26_2:=blk_frozen BK212.out 2)|(go_at_call 128;(with_reducible refine (spec_l4SameTerms.calls k3 ((rd_T72 l0 x9_1).f0) _ _ ((rd_T72 l0 x9_1).f1) _ _ ((rd_T72 l0 x9_1).f2) ((rd_T72 y214 x27_3).f0) _ _ ((rd_T72 y214 x27_3).f1) _ _ ((rd_T72 y214 x27_3).f2) true _ ?side1 ?side2 ?side3 ?side4 ?side5 ?side6 ?side7 ?side8 A21.out).mono ?_);(case side1=>exact Kd.C_below HR211_1.out (by repeat (first|(with_reducible first|exact HB.out|apply below_alloc|apply pw_below_drewN|apply below_drew1|refine below_set ?_ GE212.out|refine below_set ?_ GE219.out)|exact HB.out)));(case side2=>exact HC211_1.out);(case side3=>exact Kd.C_below HR211_2.out (by repeat (first|(with_reducible first|exact HB.out|apply below_alloc|apply pw_below_drewN|apply below_drew1|refine below_set ?_ GE212.out|refine below_set ?_ GE219.out)|exact HB.out)));(case side4=>exact HC211_2.out);(case side5=>exact Kd.C_below HR218_1.out (by repeat (first|(with_reducible first|exact HB.out|apply below_alloc|apply pw_below_drewN|apply below_drew1|refine below_set ?_ GE212.out|refine below_set ?_ GE219.out)|exact HB.out)));(case side6=>exact HC218_1.out);(case side7=>exact Kd.C_below HR218_2.out (by repeat (first|(with_reducible first|exact HB.out|apply below_alloc|apply pw_below_drewN|apply below_drew1|refine below_set ?_ GE212.out|refine below_set ?_ GE219.out)|exact HB.out)));(case side8=>exact HC218_2.out);rintro e w27 ⟨rfl,hb⟩;have n0_:=Aside0.mk (blk_below (g:=gb212) (o:=.cells #[.bool ((rd_T72 l0 x9_1).f0),.slice A211_1 ((rd_T72 l0 x9_1).f1).length c211_1,.slice A211_2 ((rd_T72 l0 x9_1).f2).length c211_2] 72 (0,0)) (by (with_reducible repeat (first|refine blk_drewN ?_ _|refine blk_drew ?_|refine blk_alloc ?_ _));refine blk_far ?_ NB212_219.out _;(with_reducible repeat (first|refine blk_drewN ?_ _|refine blk_drew ?_|refine blk_alloc ?_ _));refine blk_far ?_ NB212_219.out _;(with_reducible repeat (first|refine blk_drewN ?_ _|refine blk_drew ?_|refine blk_alloc ?_ _));refine blk_far ?_ NB212_219.out _;(with_reducible repeat (first|refine blk_drewN ?_ _|refine blk_drew ?_|refine blk_alloc ?_ _));exact BK212.out) hb);have n1_:=Aside0.mk (blk_below (g:=gb219) (o:=.cells #[.bool ((rd_T72 y214 x27_3).f0),.slice A218_1 ((rd_T72 y214 x27_3).f1).length c218_1,.slice A218_2 ((rd_T72 y214 x27_3).f2).length c218_2] 72 (0,0)) (by (with_reducible repeat (first|refine blk_drewN ?_ _|refine blk_drew ?_|refine blk_alloc ?_ _));refine blk_put (cs:=#[.bool ((rd_T72 y214 x27_3).f0),.slice A218_1 ((rd_T72 y214 x27_3).f1).length c218_1,.slice none 0 0]) ?_ 2 _ rfl;(with_reducible repeat (first|refine blk_drewN ?_ _|refine blk_drew ?_|refine blk_alloc ?_ _));refine blk_put (cs:=#[.bool ((rd_T72 y214 x27_3).f0),.slice none 0 0,.slice none 0 0]) ?_ 1 _ rfl;(with_reducible repeat (first|refine blk_drewN ?_ _|refine blk_drew ?_|refine blk_alloc ?_ _));refine blk_put (cs:=#[.bool false,.slice none 0 0,.slice none 0 0]) ?_ 0 _ rfl;(with_reducible repeat (first|refine blk_drewN ?_ _|refine blk_drew ?_|refine blk_alloc ?_ _));exact BK219.out) hb);have n2_:=Aside0.mk (below_step (by repeat (first|(with_reducible first|exact HB.out|apply below_alloc|apply pw_below_drewN|apply below_drew1|refine below_set ?_ GE212.out|refine below_set ?_ GE219.out)|exact HB.out)) hb);clear BK212;clear BK219;clear HB;have BK212:=n0_;have BK219:=n1_;have HB:=n2_;clear n0_ n1_ n2_;(try clear hb);(try clear hb2);(try clear hk);(try clear hi)))
                  go_ret
                  exact ⟨by first|rfl|(simp [errW_none,errW_some] <;> rfl)|(simp [*,errW_none,errW_some] <;> rfl),by repeat (first|(with_reducible first|exact HB.out|apply below_alloc|apply pw_below_drewN|apply below_drew1|refine below_set ?_ GE212.out|refine below_set ?_ GE219.out)|exact HB.out)⟩
                 ·replace c22:=Bool.eq_false_iff.mpr c22
                  subst c22
                  have H1:(spec_l4Tautology.l1 k3 l0 l0 (l0.length:Int) x9_1 y214 (y214.length:Int) (wrap64 (x27_3 + 1)) ((rd_T72 l0 x9_1).f0) ((rd_T72 l0 x9_1).f1) ((rd_T72 l0 x9_1).f2)) = some r:=by rw [if_neg (show ¬ (false = true) by decide)] at H;exact H
                  clear H
                  have H:=H1
                  clear H1
                  have H':=Aside0.mk H
                  clear H
                  have p218:0 ≤ (x27_3:Int):=of_decide_eq_true (by first|(with_reducible assumption)|assumption)
                  have q218:x27_3 < (y214.length:Int):=of_decide_eq_true (by first|(with_reducible assumption)|assumption)
                  obtain ⟨ad218,A218_1,c218_1,A218_2,c218_2,e218,hx218_0,hx218_1,hx218_2,hl218_1,hi218_1,hl218_2,hi218_2⟩:=at_T72 HR217.out x27_3 p218 q218
                  obtain rfl:ad211 = ad218:=(by injection e218)
                  replace hx218_0:=(HB.out.cell (World.block_lt_of_cell? w _ hx218_0)).trans hx218_0
                  replace hx218_1:=(HB.out.cell (World.block_lt_of_cell? w _ hx218_1)).trans hx218_1
                  replace hx218_2:=(HB.out.cell (World.block_lt_of_cell? w _ hx218_2)).trans hx218_2
                  have HR218_1:=Aside0.mk hi218_1
                  have HC218_1:=Aside0.mk hl218_1
                  clear hi218_1 hl218_1
                  have HR218_2:=Aside0.mk hi218_2
                  have HC218_2:=Aside0.mk hl218_2
                  clear hi218_2 hl218_2
                  replace p218:=eq_true p218
                  replace q218:=eq_true q218
                  go_wp2_with (first|((with_reducible refine gate_dst (N:=6) rfl ?_);refine box_event ?hg (N:=6) ?hd (cs:=#[.bool false,.slice none 0 0,.slice none 0 0]) (t:=72) ?hr ?_;(case hd=>rfl);(case hg=>rfl);(case hr=>first|(go_simp;done)|(go_simp;rfl));intro gb219 hg w28 hbox hb;have n0_:=Aside0.mk (blk_below (g:=gb212) (o:=.cells #[.bool ((rd_T72 l0 x9_1).f0),.slice A211_1 ((rd_T72 l0 x9_1).f1).length c211_1,.slice A211_2 ((rd_T72 l0 x9_1).f2).length c211_2] 72 (0,0)) (by (with_reducible repeat (first|refine blk_drewN ?_ _|refine blk_drew ?_|refine blk_alloc ?_ _));exact BK212.out) hb);have n1_:=Aside0.mk (below_step (by repeat (first|(with_reducible first|exact HB.out|apply below_alloc|apply pw_below_drewN|apply below_drew1|refine below_set ?_ GE212.out)|exact HB.out)) hb);have n2_:=Aside0.mk (hbox);have n3_:=Aside0.mk ((by rw [hg];exact (below_size (by repeat (first|(with_reducible first|exact HB.out|apply below_alloc|apply pw_below_drewN|apply below_drew1|refine below_set ?_ GE212.out)|exact HB.out))):w.heap.size ≤ gb219));have n4_:=Aside0.mk ((by rw [hg];exact (below_size (by repeat (first|(with_reducible first|exact HB.out|apply below_alloc|apply pw_below_drewN|apply below_drew1|refine below_set ?_ GE212.out)|exact HB.out))):w.heap.size ≤ gb219));have n5_:=Aside0.mk ((by rw [hg];exact Nat.ne_of_lt (blk_lt (g:=gb212) (o:=.cells #[.bool ((rd_T72 l0 x9_1).f0),.slice A211_1 ((rd_T72 l0 x9_1).f1).length c211_1,.slice A211_2 ((rd_T72 l0 x9_1).f2).length c211_2] 72 (0,0)) (by (with_reducible repeat (first|refine blk_drewN ?_ _|refine blk_drew ?_|refine blk_alloc ?_ _));exact BK212.out)):gb212 ≠ gb219));have n6_:=Aside0.mk ((by rw [hg];exact Nat.ne_of_gt (blk_lt (g:=gb212) (o:=.cells #[.bool ((rd_T72 l0 x9_1).f0),.slice A211_1 ((rd_T72 l0 x9_1).f1).length c211_1,.slice A211_2 ((rd_T72 l0 x9_1).f2).length c211_2] 72 (0,0)) (by (with_reducible repeat (first|refine blk_drewN ?_ _|refine blk_drew ?_|refine blk_alloc ?_ _));exact BK212.out)):gb219 ≠ gb212));clear BK212;clear HB;have BK212:=n0_;have HB:=n1_;have BK219:=n2_;have GW219:=n3_;have GE219:=n4_;have NB212_219:=n5_;have NB219_212:=n6_;clear n0_ n1_ n2_ n3_ n4_ n5_ n6_;clear hb hbox hg;have hnb29:=NB219_212.out;have hnc29:=NB212_219.out;have hcz30_0:w28.cell? ⟨gb219,0,none⟩ = some (.bool false):=(blk_cell BK219.out 0).trans rfl;have hcz30_1:w28.cell? ⟨gb219,1,none⟩ = some (.slice none 0 0):=(blk_cell BK219.out 1).trans rfl;have hcz30_2:w28.cell? ⟨gb219,2,none⟩ = some (.slice none 0 0):=(blk_cell BK219.out 2).trans rfl;have hfz30_0:=blk_frozen BK219.out 0;have hfz30_1:=blk_frozen BK219.out 1;have hfz30_2:=blk_frozen BK219.out 2;have hcz31_0:w28.cell? ⟨gb212,0,none⟩ = some (.bool ((rd_T72 l0 x9_1).f0)):=(blk_cell BK212.out 0).trans rfl;have hcz31_1:w28.cell? ⟨gb212,1,none⟩ = some (.slice A211_1 ((rd_T72 l0 x9_1).f1).length c211_1):=(blk_cell BK212.out 1).trans rfl;have hcz31_2:w28.cell? ⟨gb212,2,none⟩ = some (.slice A211_2 ((rd_T72 l0 x9_1).f2).length c211_2):=(blk_cell BK212.out 2).trans rfl;have hfz31_0:=blk_frozen BK212.out 0;have hfz31_1:=blk_frozen BK212.out 1;have hfz31_2:=blk_frozen BK212.out 2)|(go_at_call 128;(with_reducible refine (spec_l4SameTerms.calls k3 ((rd_T72 l0 x9_1).f0) _ _ ((rd_T72 l0 x9_1).f1) _ _ ((rd_T72 l0 x9_1).f2) ((rd_T72 y214 x27_3).f0) _ _ ((rd_T72 y214 x27_3).f1) _ _ ((rd_T72 y214 x27_3).f2) false _ ?side1 ?side2 ?side3 ?side4 ?side5 ?side6 ?side7 ?side8 A21.out).mono ?_);(case side1=>exact Kd.C_below HR211_1.out (by repeat (first|(with_reducible first|exact HB.out|apply below_alloc|apply pw_below_drewN|apply below_drew1|refine below_set ?_ GE212.out|refine below_set ?_ GE219.out)|exact HB.out)));(case side2=>exact HC211_1.out);(case side3=>exact Kd.C_below HR211_2.out (by repeat (first|(with_reducible first|exact HB.out|apply below_alloc|apply pw_below_drewN|apply below_drew1|refine below_set ?_ GE212.out|refine below_set ?_ GE219.out)|exact HB.out)));(case side4=>exact HC211_2.out);(case side5=>exact Kd.C_below HR218_1.out (by repeat (first|(with_reducible first|exact HB.out|apply below_alloc|apply pw_below_drewN|apply below_drew1|refine below_set ?_ GE212.out|refine below_set ?_ GE219.out)|exact HB.out)));(case side6=>exact HC218_1.out);(case side7=>exact Kd.C_below HR218_2.out (by repeat (first|(with_reducible first|exact HB.out|apply below_alloc|apply pw_below_drewN|apply below_drew1|refine below_set ?_ GE212.out|refine below_set ?_ GE219.out)|exact HB.out)));(case side8=>exact HC218_2.out);rintro e w32 ⟨rfl,hb⟩;have n0_:=Aside0.mk (blk_below (g:=gb212) (o:=.cells #[.bool ((rd_T72 l0 x9_1).f0),.slice A211_1 ((rd_T72 l0 x9_1).f1).length c211_1,.slice A211_2 ((rd_T72 l0 x9_1).f2).length c211_2] 72 (0,0)) (by (with_reducible repeat (first|refine blk_drewN ?_ _|refine blk_drew ?_|refine blk_alloc ?_ _));refine blk_far ?_ NB212_219.out _;(with_reducible repeat (first|refine blk_drewN ?_ _|refine blk_drew ?_|refine blk_alloc ?_ _));refine blk_far ?_ NB212_219.out _;(with_reducible repeat (first|refine blk_drewN ?_ _|refine blk_drew ?_|refine blk_alloc ?_ _));refine blk_far ?_ NB212_219.out _;(with_reducible repeat (first|refine blk_drewN ?_ _|refine blk_drew ?_|refine blk_alloc ?_ _));exact BK212.out) hb);have n1_:=Aside0.mk (blk_below (g:=gb219) (o:=.cells #[.bool ((rd_T72 y214 x27_3).f0),.slice A218_1 ((rd_T72 y214 x27_3).f1).length c218_1,.slice A218_2 ((rd_T72 y214 x27_3).f2).length c218_2] 72 (0,0)) (by (with_reducible repeat (first|refine blk_drewN ?_ _|refine blk_drew ?_|refine blk_alloc ?_ _));refine blk_put (cs:=#[.bool ((rd_T72 y214 x27_3).f0),.slice A218_1 ((rd_T72 y214 x27_3).f1).length c218_1,.slice none 0 0]) ?_ 2 _ rfl;(with_reducible repeat (first|refine blk_drewN ?_ _|refine blk_drew ?_|refine blk_alloc ?_ _));refine blk_put (cs:=#[.bool ((rd_T72 y214 x27_3).f0),.slice none 0 0,.slice none 0 0]) ?_ 1 _ rfl;(with_reducible repeat (first|refine blk_drewN ?_ _|refine blk_drew ?_|refine blk_alloc ?_ _));refine blk_put (cs:=#[.bool false,.slice none 0 0,.slice none 0 0]) ?_ 0 _ rfl;(with_reducible repeat (first|refine blk_drewN ?_ _|refine blk_drew ?_|refine blk_alloc ?_ _));exact BK219.out) hb);have n2_:=Aside0.mk (below_step (by repeat (first|(with_reducible first|exact HB.out|apply below_alloc|apply pw_below_drewN|apply below_drew1|refine below_set ?_ GE212.out|refine below_set ?_ GE219.out)|exact HB.out)) hb);clear BK212;clear BK219;clear HB;have BK212:=n0_;have BK219:=n1_;have HB:=n2_;clear n0_ n1_ n2_;(try clear hb);(try clear hb2);(try clear hk);(try clear hi)))
                  go_roundg k3
                  case measure=>have:=HK1.out;have:=HJ4.out;have:=HK3.out;omega
                  case rel=>exact ⟨(wrap64 (x27_3 + 1)),(by first|rfl|(simp;done)|(simp [*];done)),H',⟨by have:=HK1.out;have:=HJ4.out;have:=HK3.out;omega⟩,⟨by (with_reducible repeat (first|refine blk_drewN ?_ _|refine blk_drew ?_|refine blk_alloc ?_ _));exact BK212.out⟩,⟨by repeat (first|(with_reducible first|exact HB.out|apply below_alloc|apply pw_below_drewN|apply below_drew1|refine below_set ?_ GE212.out|refine below_set ?_ GE219.out)|exact HB.out)⟩⟩
                ·rw [if_neg c20] at H
                 have c20b0:(((rd_T72 l0 x9_1).f0) != ((rd_T72 y214 x27_3).f0)) = false:=by simpa using c20
                 (try (have c20b1:decide (((rd_T72 l0 x9_1).f0) = ((rd_T72 y214 x27_3).f0)) = true:=by simpa using c20))
                 (try (have c20b2:(((rd_T72 l0 x9_1).f0) == ((rd_T72 y214 x27_3).f0)) = true:=by simpa using c20))
                 clear c20
                 have H':=Aside0.mk H
                 clear H
                 have p218:0 ≤ (x27_3:Int):=of_decide_eq_true (by first|(with_reducible assumption)|assumption)
                 have q218:x27_3 < (y214.length:Int):=of_decide_eq_true (by first|(with_reducible assumption)|assumption)
                 obtain ⟨ad218,A218_1,c218_1,A218_2,c218_2,e218,hx218_0,hx218_1,hx218_2,hl218_1,hi218_1,hl218_2,hi218_2⟩:=at_T72 HR217.out x27_3 p218 q218
                 obtain rfl:ad211 = ad218:=(by injection e218)
                 replace hx218_0:=(HB.out.cell (World.block_lt_of_cell? w _ hx218_0)).trans hx218_0
                 replace hx218_1:=(HB.out.cell (World.block_lt_of_cell? w _ hx218_1)).trans hx218_1
                 replace hx218_2:=(HB.out.cell (World.block_lt_of_cell? w _ hx218_2)).trans hx218_2
                 have HR218_1:=Aside0.mk hi218_1
                 have HC218_1:=Aside0.mk hl218_1
                 clear hi218_1 hl218_1
                 have HR218_2:=Aside0.mk hi218_2
                 have HC218_2:=Aside0.mk hl218_2
                 clear hi218_2 hl218_2
                 replace p218:=eq_true p218
                 replace q218:=eq_true q218
                 go_wp2_with (first|((with_reducible refine gate_dst (N:=6) rfl ?_);refine box_event ?hg (N:=6) ?hd (cs:=#[.bool false,.slice none 0 0,.slice none 0 0]) (t:=72) ?hr ?_;(case hd=>rfl);(case hg=>rfl);(case hr=>first|(go_simp;done)|(go_simp;rfl));intro gb219 hg w33 hbox hb;have n0_:=Aside0.mk (blk_below (g:=gb212) (o:=.cells #[.bool ((rd_T72 l0 x9_1).f0),.slice A211_1 ((rd_T72 l0 x9_1).f1).length c211_1,.slice A211_2 ((rd_T72 l0 x9_1).f2).length c211_2] 72 (0,0)) (by (with_reducible repeat (first|refine blk_drewN ?_ _|refine blk_drew ?_|refine blk_alloc ?_ _));exact BK212.out) hb);have n1_:=Aside0.mk (below_step (by repeat (first|(with_reducible first|exact HB.out|apply below_alloc|apply pw_below_drewN|apply below_drew1|refine below_set ?_ GE212.out)|exact HB.out)) hb);have n2_:=Aside0.mk (hbox);have n3_:=Aside0.mk ((by rw [hg];exact (below_size (by repeat (first|(with_reducible first|exact HB.out|apply below_alloc|apply pw_below_drewN|apply below_drew1|refine below_set ?_ GE212.out)|exact HB.out))):w.heap.size ≤ gb219));have n4_:=Aside0.mk ((by rw [hg];exact (below_size (by repeat (first|(with_reducible first|exact HB.out|apply below_alloc|apply pw_below_drewN|apply below_drew1|refine below_set ?_ GE212.out)|exact HB.out))):w.heap.size ≤ gb219));have n5_:=Aside0.mk ((by rw [hg];exact Nat.ne_of_lt (blk_lt (g:=gb212) (o:=.cells #[.bool ((rd_T72 l0 x9_1).f0),.slice A211_1 ((rd_T72 l0 x9_1).f1).length c211_1,.slice A211_2 ((rd_T72 l0 x9_1).f2).length c211_2] 72 (0,0)) (by (with_reducible repeat (first|refine blk_drewN ?_ _|refine blk_drew ?_|refine blk_alloc ?_ _));exact BK212.out)):gb212 ≠ gb219));have n6_:=Aside0.mk ((by rw [hg];exact Nat.ne_of_gt (blk_lt (g:=gb212) (o:=.cells #[.bool ((rd_T72 l0 x9_1).f0),.slice A211_1 ((rd_T72 l0 x9_1).f1).length c211_1,.slice A211_2 ((rd_T72 l0 x9_1).f2).length c211_2] 72 (0,0)) (by (with_reducible repeat (first|refine blk_drewN ?_ _|refine blk_drew ?_|refine blk_alloc ?_ _));exact BK212.out)):gb219 ≠ gb212));clear BK212;clear HB;have BK212:=n0_;have HB:=n1_;have BK219:=n2_;have GW219:=n3_;have GE219:=n4_;have NB212_219:=n5_;have NB219_212:=n6_;clear n0_ n1_ n2_ n3_ n4_ n5_ n6_;clear hb hbox hg;have hnb34:=NB219_212.out;have hnc34:=NB212_219.out;have hcz35_0:w33.cell? ⟨gb219,0,none⟩ = some (.bool false):=(blk_cell BK219.out 0).trans rfl;have hcz35_1:w33.cell? ⟨gb219,1,none⟩ = some (.slice none 0 0):=(blk_cell BK219.out 1).trans rfl;have hcz35_2:w33.cell? ⟨gb219,2,none⟩ = some (.slice none 0 0):=(blk_cell BK219.out 2).trans rfl;have hfz35_0:=blk_frozen BK219.out 0;have hfz35_1:=blk_frozen BK219.out 1;have hfz35_2:=blk_frozen BK219.out 2;have hcz36_0:w33.cell? ⟨gb212,0,none⟩ = some (.bool ((rd_T72 l0 x9_1).f0)):=(blk_cell BK212.out 0).trans rfl;have hcz36_1:w33.cell? ⟨gb212,1,none⟩ = some (.slice A211_1 ((rd_T72 l0 x9_1).f1).length c211_1):=(blk_cell BK212.out 1).trans rfl;have hcz36_2:w33.cell? ⟨gb212,2,none⟩ = some (.slice A211_2 ((rd_T72 l0 x9_1).f2).length c211_2):=(blk_cell BK212.out 2).trans rfl;have hfz36_0:=blk_frozen BK212.out 0;have hfz36_1:=blk_frozen BK212.out 1;have hfz36_2:=blk_frozen BK212.out 2))
                 go_roundg k3
                 case measure=>have:=HK1.out;have:=HJ4.out;have:=HK3.out;omega
                 case rel=>exact ⟨(wrap64 (x27_3 + 1)),(by first|rfl|(simp;done)|(simp [*];done)),H',⟨by have:=HK1.out;have:=HJ4.out;have:=HK3.out;omega⟩,⟨by (with_reducible repeat (first|refine blk_drewN ?_ _|refine blk_drew ?_|refine blk_alloc ?_ _));refine blk_far ?_ NB212_219.out _;(with_reducible repeat (first|refine blk_drewN ?_ _|refine blk_drew ?_|refine blk_alloc ?_ _));refine blk_far ?_ NB212_219.out _;(with_reducible repeat (first|refine blk_drewN ?_ _|refine blk_drew ?_|refine blk_alloc ?_ _));refine blk_far ?_ NB212_219.out _;(with_reducible repeat (first|refine blk_drewN ?_ _|refine blk_drew ?_|refine blk_alloc ?_ _));exact BK212.out⟩,⟨by repeat (first|(with_reducible first|exact HB.out|apply below_alloc|apply pw_below_drewN|apply below_drew1|refine below_set ?_ GE212.out|refine below_set ?_ GE219.out)|exact HB.out)⟩⟩
               ·rw [if_neg c19] at H
                exact absurd H (by simp)
              ·rw [if_neg c18] at H
               exact absurd H (by simp)
             ·rw [if_neg c17] at H
              have c17b0:decide (x27_3 < (y214.length:Int)) = false:=decide_eq_false c17
              clear c17
              have H':=Aside0.mk H
              clear H
              go_wp2
              go_roundg k3
              case measure=>have:=HK1.out;have:=HJ4.out;have:=HK3.out;omega
              case rel=>exact ⟨(wrap64 (x9_1 + 1)),(by first|rfl|(simp;done)|(simp [*];done)),H',⟨by have:=HK1.out;have:=HJ4.out;have:=HK3.out;omega⟩,⟨by repeat (first|(with_reducible first|exact HB.out|apply below_alloc|apply pw_below_drewN|apply below_drew1|refine below_set ?_ GE212.out)|exact HB.out)⟩⟩
          ·rw [if_neg c15] at H
           exact absurd H (by simp)
         ·rw [if_neg c14] at H
          exact absurd H (by simp)
     ·rw [if_neg c4] at H
      exact absurd H (by simp)
    ·rw [if_neg c3] at H
     exact absurd H (by simp)
   ·rw [if_neg c2] at H
    have c2b0:decide (x9_1 < (l0.length:Int)) = false:=decide_eq_false c2
    clear c2
    obtain rfl:=Option.some.inj H
    go_wp2
    go_ret
    exact ⟨by first|rfl|(simp [errW_none,errW_some] <;> rfl)|(simp [*,errW_none,errW_some] <;> rfl),by repeat (first|(with_reducible first|exact HB.out|apply below_alloc|apply pw_below_drewN|apply below_drew1)|exact HB.out)⟩

/-! ### spec_l8Redundant: function 71 -/
def spec_l8Redundant.l0:Nat → List (S72) → List (List (S72)) → Int → Int → List Int → Option (Bool)
 | 0,_,_,_,_,_=>none
 | k + 1,x1,x13,x14,x15,x222000=>if x15 < x14 then (if 0 ≤ x15 then (if x15 < (x13.length:Int) then ((spec_l7Sub.f k x222000 (rd_L6 x13 x15) x1).bind fun bt224=>(if bt224.2 = true then (some true) else (spec_l8Redundant.l0 k x1 x13 x14 (wrap64 (x15 + 1)) x222000))) else (none)) else (none)) else (some false)
def spec_l8Redundant.f (k:Nat) (l0_0:List Int) (l1:List (S72)) (l2:List (List (S72))):Option (Bool):=(spec_l4Tautology.f k l1).bind fun t222=>(if t222 = true then (some true) else (spec_l8Redundant.l0 k l1 l2 (l2.length:Int) 0 l0_0))
theorem spec_l8Redundant.mono_l:∀ k,(∀ y0 y1 y2 y3 y4,LeO (spec_l8Redundant.l0 k y0 y1 y2 y3 y4) (spec_l8Redundant.l0 (k + 1) y0 y1 y2 y3 y4))
 | 0=>fun _ _ _ _ _ r h=>by simp [spec_l8Redundant.l0] at h
 | k + 1=>by
  have ih0:=spec_l8Redundant.mono_l k
  ·intro y0 y1 y2 y3 y4
   unfold spec_l8Redundant.l0
   repeat' first
   | (with_reducible exact ih0 _ _ _ _ _)
   | (with_reducible exact spec_l4Tautology.mono _ _)
   | (with_reducible exact spec_l7Sub.mono _ _ _ _)
   | (with_reducible exact LeO.refl _)
   | (with_reducible exact LeO.none _)
   | (with_reducible refine LeO.ite ?_ ?_)
   | (with_reducible refine LeO.bind ?_ (fun _=>?_))
   | exact ih0 _ _ _ _ _
   | exact spec_l4Tautology.mono _ _
   | exact spec_l7Sub.mono _ _ _ _
   | exact LeO.none _
   | refine LeO.ite ?_ ?_
   | refine LeO.bind ?_ (fun _=>?_)
theorem spec_l8Redundant.mono:∀ a0 a1 a2 k,LeO (spec_l8Redundant.f k a0 a1 a2) (spec_l8Redundant.f (k + 1) a0 a1 a2):=by
 intro a0 a1 a2 k
 have ih0:=spec_l8Redundant.mono_l k
 unfold spec_l8Redundant.f
 repeat' first
   | (with_reducible exact ih0 _ _ _ _ _)
   | (with_reducible exact spec_l4Tautology.mono _ _)
   | (with_reducible exact spec_l7Sub.mono _ _ _ _)
   | (with_reducible exact LeO.refl _)
   | (with_reducible exact LeO.none _)
   | (with_reducible refine LeO.ite ?_ ?_)
   | (with_reducible refine LeO.bind ?_ (fun _=>?_))
   | exact ih0 _ _ _ _ _
   | exact spec_l4Tautology.mono _ _
   | exact spec_l7Sub.mono _ _ _ _
   | exact LeO.none _
   | refine LeO.ite ?_ ?_
   | refine LeO.bind ?_ (fun _=>?_)
set_option maxHeartbeats 8000000 in
set_option maxRecDepth 100000 in
theorem spec_l8Redundant.calls (k:Nat) (A0_0:Option Addr) (c0_0:Nat) (l0_0:List Int) (A1:Option Addr) (c1:Nat) (l1:List (S72)) (A2:Option Addr) (c2:Nat) (l2:List (List (S72))) (r:Bool) (w:World) (hr0_0:Kd.C (Kd.int .i64) w A0_0 l0_0.length l0_0) (hc0_0:l0_0.length ≤ c0_0) (hr1:Kd.C k72 w A1 l1.length l1) (hc1:l1.length ≤ c1) (hr2:Kd.C (Kd.slice 72 k72) w A2 l2.length l2) (hc2:l2.length ≤ c2) (h:spec_l8Redundant.f k l0_0 l1 l2 = some r) :
  Calls Try.prog 71 #[.agg #[.slice A0_0 l0_0.length c0_0],.slice A1 l1.length c1,.slice A2 l2.length c2] w fun e w'=>e = .returned (.bool r) ∧ Below w.heap.size w w':=by
 have hu30:=Try.underlying30
 have HR0_0:=Aside0.mk hr0_0
 have HC0_0:=Aside0.mk hc0_0
 clear hr0_0 hc0_0
 have HR1:=Aside0.mk hr1
 have HC1:=Aside0.mk hc1
 clear hr1 hc1
 have HR2:=Aside0.mk hr2
 have HC2:=Aside0.mk hc2
 clear hr2 hc2
 have HB:=Aside0.mk (Below.refl w.heap.size w)
 have H:((spec_l4Tautology.f k l1).bind fun t222=>(if t222 = true then (some true) else (spec_l8Redundant.l0 k l1 l2 (l2.length:Int) 0 l0_0))) = some r:=h
 clear h
 replace H:=Option.bind_eq_some_iff.mp H
 obtain ⟨t222,A40,H⟩:=H
 replace H:(if t222 = true then (some true) else (spec_l8Redundant.l0 k l1 l2 (l2.length:Int) 0 l0_0)) = some r:=H
 have A4:=Aside0.mk A40
 clear A40
 by_cases c5:t222 = true
 ·subst c5
  have H1:(some true) = some r:=by rw [if_pos rfl] at H;exact H
  clear H
  have H:=H1
  clear H1
  obtain rfl:=Option.some.inj H
  go_enter Try.func71,Try.ntmps71
  go_wp2_with (first|((with_reducible refine gate_dst (N:=3) rfl ?_);refine box_event ?hg (N:=3) ?hd (cs:=#[.slice A0_0 l0_0.length c0_0]) (t:=30) ?hr ?_;(case hd=>rfl);(case hg=>rfl);(case hr=>first|(go_simp;done)|(go_simp;rfl));intro gb221 hg w6 hbox hb;have n0_:=Aside0.mk (below_step (by repeat (first|(with_reducible first|exact HB.out|apply below_alloc|apply pw_below_drewN|apply below_drew1)|exact HB.out)) hb);have n1_:=Aside0.mk (hbox);have n2_:=Aside0.mk ((by rw [hg];exact (below_size (by repeat (first|(with_reducible first|exact HB.out|apply below_alloc|apply pw_below_drewN|apply below_drew1)|exact HB.out))):w.heap.size ≤ gb221));have n3_:=Aside0.mk ((by rw [hg];exact (below_size (by repeat (first|(with_reducible first|exact HB.out|apply below_alloc|apply pw_below_drewN|apply below_drew1)|exact HB.out))):w.heap.size ≤ gb221));clear HB;have HB:=n0_;have BK221:=n1_;have GW221:=n2_;have GE221:=n3_;clear n0_ n1_ n2_ n3_;clear hb hbox hg)|((with_reducible refine gate_callee (f:=102) rfl ?_);refine goesL_ (some 12) rfl rfl Try.func102 (by kernel_rfl) rfl #[.slice A1 l1.length c1] rfl (by (try simp only [List.map_toArray,List.map_cons,List.map_nil]);first|done|rfl|(simp only [List.length_drop,List.length_take];rfl)) ?_;(with_reducible refine (spec_l4Tautology.calls k _ _ l1 true _ ?side1 ?side2 A4.out).mono ?_);(case side1=>repeat (first|exact (Kd.C_below HR1.out HB.out)|(with_reducible refine Kd.C_alloc ?_ _)|(with_reducible refine Kd.C_drewN ?_ _)|(with_reducible refine Kd.C_drew ?_)));(case side2=>exact HC1.out);rintro e w7 ⟨rfl,hb⟩;refine ⟨_,rfl,?_⟩;have n0_:=Aside0.mk (blk_below (g:=gb221) (o:=.cells #[.slice A0_0 l0_0.length c0_0] 30 (0,0)) (by (with_reducible repeat (first|refine blk_drewN ?_ _|refine blk_drew ?_|refine blk_alloc ?_ _));exact BK221.out) hb);have n1_:=Aside0.mk (below_step (by repeat (first|(with_reducible first|exact HB.out|apply below_alloc|apply pw_below_drewN|apply below_drew1|refine below_set ?_ GE221.out)|exact HB.out)) hb);clear BK221;clear HB;have BK221:=n0_;have HB:=n1_;clear n0_ n1_;(try clear hb);(try clear hb2);(try clear hk);(try clear hi)))
  go_ret
  exact ⟨by first|rfl|(simp [errW_none,errW_some] <;> rfl)|(simp [*,errW_none,errW_some] <;> rfl),by repeat (first|(with_reducible first|exact HB.out|apply below_alloc|apply pw_below_drewN|apply below_drew1|refine below_set ?_ GE221.out)|exact HB.out)⟩
 ·replace c5:=Bool.eq_false_iff.mpr c5
  subst c5
  have H1:(spec_l8Redundant.l0 k l1 l2 (l2.length:Int) 0 l0_0) = some r:=by rw [if_neg (show ¬ (false = true) by decide)] at H;exact H
  clear H
  have H:=H1
  clear H1
  have H':=Aside0.mk H
  clear H
  go_enter Try.func71,Try.ntmps71
  go_wp2_with (first|((with_reducible refine gate_dst (N:=3) rfl ?_);refine box_event ?hg (N:=3) ?hd (cs:=#[.slice A0_0 l0_0.length c0_0]) (t:=30) ?hr ?_;(case hd=>rfl);(case hg=>rfl);(case hr=>first|(go_simp;done)|(go_simp;rfl));intro gb221 hg w8 hbox hb;have n0_:=Aside0.mk (below_step (by repeat (first|(with_reducible first|exact HB.out|apply below_alloc|apply pw_below_drewN|apply below_drew1)|exact HB.out)) hb);have n1_:=Aside0.mk (hbox);have n2_:=Aside0.mk ((by rw [hg];exact (below_size (by repeat (first|(with_reducible first|exact HB.out|apply below_alloc|apply pw_below_drewN|apply below_drew1)|exact HB.out))):w.heap.size ≤ gb221));have n3_:=Aside0.mk ((by rw [hg];exact (below_size (by repeat (first|(with_reducible first|exact HB.out|apply below_alloc|apply pw_below_drewN|apply below_drew1)|exact HB.out))):w.heap.size ≤ gb221));clear HB;have HB:=n0_;have BK221:=n1_;have GW221:=n2_;have GE221:=n3_;clear n0_ n1_ n2_ n3_;clear hb hbox hg)|((with_reducible refine gate_callee (f:=102) rfl ?_);refine goesL_ (some 12) rfl rfl Try.func102 (by kernel_rfl) rfl #[.slice A1 l1.length c1] rfl (by (try simp only [List.map_toArray,List.map_cons,List.map_nil]);first|done|rfl|(simp only [List.length_drop,List.length_take];rfl)) ?_;(with_reducible refine (spec_l4Tautology.calls k _ _ l1 false _ ?side1 ?side2 A4.out).mono ?_);(case side1=>repeat (first|exact (Kd.C_below HR1.out HB.out)|(with_reducible refine Kd.C_alloc ?_ _)|(with_reducible refine Kd.C_drewN ?_ _)|(with_reducible refine Kd.C_drew ?_)));(case side2=>exact HC1.out);rintro e w9 ⟨rfl,hb⟩;refine ⟨_,rfl,?_⟩;have n0_:=Aside0.mk (blk_below (g:=gb221) (o:=.cells #[.slice A0_0 l0_0.length c0_0] 30 (0,0)) (by (with_reducible repeat (first|refine blk_drewN ?_ _|refine blk_drew ?_|refine blk_alloc ?_ _));exact BK221.out) hb);have n1_:=Aside0.mk (below_step (by repeat (first|(with_reducible first|exact HB.out|apply below_alloc|apply pw_below_drewN|apply below_drew1|refine below_set ?_ GE221.out)|exact HB.out)) hb);clear BK221;clear HB;have BK221:=n0_;have HB:=n1_;clear n0_ n1_;(try clear hb);(try clear hb2);(try clear hk);(try clear hi)))
  go_loopg [15] k (fun kq v15 w'=>∃ (x15_1:Int),v15 = .int .i64 x15_1 ∧ Aside0 (spec_l8Redundant.l0 kq l1 l2 (l2.length:Int) x15_1 l0_0 = some r) ∧ Aside0 (kq ≤ k) ∧ Aside0 (w'.heap[gb221]? = some (.cells #[(.slice A0_0 l0_0.length c0_0)] 30 (0,0))) ∧ Aside0 (Below w.heap.size w w'))
  case atStart=>exact ⟨(0),(by first|rfl|(simp;done)|(simp [*];done)),H',⟨Nat.le_refl _⟩,⟨by (with_reducible repeat (first|refine blk_drewN ?_ _|refine blk_drew ?_|refine blk_alloc ?_ _));exact BK221.out⟩,⟨by repeat (first|(with_reducible first|exact HB.out|apply below_alloc|apply pw_below_drewN|apply below_drew1|refine below_set ?_ GE221.out)|exact HB.out)⟩⟩
  case round =>
   clear H'
   try clear c1
   try clear c2
   try clear p2
   try clear c5
   try clear c7
   obtain ⟨x15_1,rfl,HA,HK1,BK221,HB⟩:=hrel
   cases gk with
   | zero=>exact absurd HA.out (by simp [spec_l8Redundant.l0])
   | succ k1 =>
    have H:=HA.out
    clear HA
    simp only [spec_l8Redundant.l0] at H
    by_cases c10:x15_1 < (l2.length:Int)
    ·rw [if_pos c10] at H
     have c10b0:decide (x15_1 < (l2.length:Int)) = true:=decide_eq_true c10
     clear c10
     by_cases c11:0 ≤ x15_1
     ·rw [if_pos c11] at H
      have c11b0:decide (0 ≤ x15_1) = true:=decide_eq_true c11
      clear c11
      by_cases c12:x15_1 < (l2.length:Int)
      ·rw [if_pos c12] at H
       have c12b0:decide (x15_1 < (l2.length:Int)) = true:=decide_eq_true c12
       clear c12
       replace H:=Option.bind_eq_some_iff.mp H
       obtain ⟨⟨t224,t227⟩,A130,H⟩:=H
       replace H:(if t227 = true then (some true) else (spec_l8Redundant.l0 k1 l1 l2 (l2.length:Int) (wrap64 (x15_1 + 1)) l0_0)) = some r:=H
       have A13:=Aside0.mk A130
       clear A130
       by_cases c14:t227 = true
       ·subst c14
        have H1:(some true) = some r:=by rw [if_pos rfl] at H;exact H
        clear H
        have H:=H1
        clear H1
        obtain rfl:=Option.some.inj H
        have p223:0 ≤ (x15_1:Int):=of_decide_eq_true (by first|(with_reducible assumption)|assumption)
        have q223:x15_1 < (l2.length:Int):=of_decide_eq_true (by first|(with_reducible assumption)|assumption)
        obtain ⟨ad223,A223_0,c223_0,e223,hx223_0,hl223_0,hi223_0⟩:=at_L6 HR2.out x15_1 p223 q223
        cases e223
        replace hx223_0:=(HB.out.cell (World.block_lt_of_cell? w _ hx223_0)).trans hx223_0
        have HR223_0:=Aside0.mk hi223_0
        have HC223_0:=Aside0.mk hl223_0
        clear hi223_0 hl223_0
        replace p223:=eq_true p223
        replace q223:=eq_true q223
        have hcz15_0:wr.cell? ⟨gb221,0,none⟩ = some (.slice A0_0 l0_0.length c0_0):=(blk_cell BK221.out 0).trans rfl
        have hfz15_0:=blk_frozen BK221.out 0
        go_wp2_with (first|((with_reducible refine gate_callee (f:=69) rfl ?_);refine goesL_ (some 23) rfl rfl Try.func69 (by kernel_rfl) rfl #[.agg #[.slice A0_0 l0_0.length c0_0],.slice A223_0 (rd_L6 l2 x15_1).length c223_0,.slice A1 l1.length c1] rfl (by (try simp only [List.map_toArray,List.map_cons,List.map_nil]);first|done|rfl|(simp only [List.length_drop,List.length_take];rfl)) ?_;(with_reducible refine (spec_l7Sub.calls k1 _ _ l0_0 _ _ (rd_L6 l2 x15_1) _ _ l1 t224 true _ ?side1 ?side2 ?side3 ?side4 ?side5 ?side6 A13.out).mono ?_);(case side1=>repeat (first|exact (Kd.C_below HR0_0.out HB.out)|(with_reducible refine Kd.C_alloc ?_ _)|(with_reducible refine Kd.C_drewN ?_ _)|(with_reducible refine Kd.C_drew ?_)));(case side2=>exact HC0_0.out);(case side3=>repeat (first|exact (Kd.C_below HR223_0.out HB.out)|(with_reducible refine Kd.C_alloc ?_ _)|(with_reducible refine Kd.C_drewN ?_ _)|(with_reducible refine Kd.C_drew ?_)));(case side4=>exact HC223_0.out);(case side5=>repeat (first|exact (Kd.C_below HR1.out HB.out)|(with_reducible refine Kd.C_alloc ?_ _)|(with_reducible refine Kd.C_drewN ?_ _)|(with_reducible refine Kd.C_drew ?_)));(case side6=>exact HC1.out);rintro e w16 ⟨v225,rfl,ho0,hb⟩;refine ⟨_,rfl,?_⟩;have n0_:=Aside0.mk (Kd.S_lower ho0 (below_size (by repeat (first|(with_reducible first|exact HB.out|apply below_alloc|apply pw_below_drewN|apply below_drew1|refine below_set ?_ GE221.out)|exact HB.out))));have n1_:=Aside0.mk (blk_below (g:=gb221) (o:=.cells #[.slice A0_0 l0_0.length c0_0] 30 (0,0)) (by (with_reducible repeat (first|refine blk_drewN ?_ _|refine blk_drew ?_|refine blk_alloc ?_ _));exact BK221.out) hb);have n2_:=Aside0.mk (below_step (by repeat (first|(with_reducible first|exact HB.out|apply below_alloc|apply pw_below_drewN|apply below_drew1|refine below_set ?_ GE221.out)|exact HB.out)) hb);clear BK221;clear HB;have HO226:=n0_;have BK221:=n1_;have HB:=n2_;clear n0_ n1_ n2_;(try clear hb);(try clear hb2);(try clear hk);(try clear hi);(try clear ho0)))
        go_ret
        exact ⟨by first|rfl|(simp [errW_none,errW_some] <;> rfl)|(simp [*,errW_none,errW_some] <;> rfl),by repeat (first|(with_reducible first|exact HB.out|apply below_alloc|apply pw_below_drewN|apply below_drew1|refine below_set ?_ GE221.out)|exact HB.out)⟩
       ·replace c14:=Bool.eq_false_iff.mpr c14
        subst c14
        have H1:(spec_l8Redundant.l0 k1 l1 l2 (l2.length:Int) (wrap64 (x15_1 + 1)) l0_0) = some r:=by rw [if_neg (show ¬ (false = true) by decide)] at H;exact H
        clear H
        have H:=H1
        clear H1
        have H':=Aside0.mk H
        clear H
        have p223:0 ≤ (x15_1:Int):=of_decide_eq_true (by first|(with_reducible assumption)|assumption)
        have q223:x15_1 < (l2.length:Int):=of_decide_eq_true (by first|(with_reducible assumption)|assumption)
        obtain ⟨ad223,A223_0,c223_0,e223,hx223_0,hl223_0,hi223_0⟩:=at_L6 HR2.out x15_1 p223 q223
        cases e223
        replace hx223_0:=(HB.out.cell (World.block_lt_of_cell? w _ hx223_0)).trans hx223_0
        have HR223_0:=Aside0.mk hi223_0
        have HC223_0:=Aside0.mk hl223_0
        clear hi223_0 hl223_0
        replace p223:=eq_true p223
        replace q223:=eq_true q223
        have hcz17_0:wr.cell? ⟨gb221,0,none⟩ = some (.slice A0_0 l0_0.length c0_0):=(blk_cell BK221.out 0).trans rfl
        have hfz17_0:=blk_frozen BK221.out 0
        go_wp2_with (first|((with_reducible refine gate_callee (f:=69) rfl ?_);refine goesL_ (some 23) rfl rfl Try.func69 (by kernel_rfl) rfl #[.agg #[.slice A0_0 l0_0.length c0_0],.slice A223_0 (rd_L6 l2 x15_1).length c223_0,.slice A1 l1.length c1] rfl (by (try simp only [List.map_toArray,List.map_cons,List.map_nil]);first|done|rfl|(simp only [List.length_drop,List.length_take];rfl)) ?_;(with_reducible refine (spec_l7Sub.calls k1 _ _ l0_0 _ _ (rd_L6 l2 x15_1) _ _ l1 t224 false _ ?side1 ?side2 ?side3 ?side4 ?side5 ?side6 A13.out).mono ?_);(case side1=>repeat (first|exact (Kd.C_below HR0_0.out HB.out)|(with_reducible refine Kd.C_alloc ?_ _)|(with_reducible refine Kd.C_drewN ?_ _)|(with_reducible refine Kd.C_drew ?_)));(case side2=>exact HC0_0.out);(case side3=>repeat (first|exact (Kd.C_below HR223_0.out HB.out)|(with_reducible refine Kd.C_alloc ?_ _)|(with_reducible refine Kd.C_drewN ?_ _)|(with_reducible refine Kd.C_drew ?_)));(case side4=>exact HC223_0.out);(case side5=>repeat (first|exact (Kd.C_below HR1.out HB.out)|(with_reducible refine Kd.C_alloc ?_ _)|(with_reducible refine Kd.C_drewN ?_ _)|(with_reducible refine Kd.C_drew ?_)));(case side6=>exact HC1.out);rintro e w18 ⟨v225,rfl,ho0,hb⟩;refine ⟨_,rfl,?_⟩;have n0_:=Aside0.mk (Kd.S_lower ho0 (below_size (by repeat (first|(with_reducible first|exact HB.out|apply below_alloc|apply pw_below_drewN|apply below_drew1|refine below_set ?_ GE221.out)|exact HB.out))));have n1_:=Aside0.mk (blk_below (g:=gb221) (o:=.cells #[.slice A0_0 l0_0.length c0_0] 30 (0,0)) (by (with_reducible repeat (first|refine blk_drewN ?_ _|refine blk_drew ?_|refine blk_alloc ?_ _));exact BK221.out) hb);have n2_:=Aside0.mk (below_step (by repeat (first|(with_reducible first|exact HB.out|apply below_alloc|apply pw_below_drewN|apply below_drew1|refine below_set ?_ GE221.out)|exact HB.out)) hb);clear BK221;clear HB;have HO226:=n0_;have BK221:=n1_;have HB:=n2_;clear n0_ n1_ n2_;(try clear hb);(try clear hb2);(try clear hk);(try clear hi);(try clear ho0)))
        go_roundg k1
        case measure=>have:=HK1.out;omega
        case rel=>exact ⟨(wrap64 (x15_1 + 1)),(by first|rfl|(simp;done)|(simp [*];done)),H',⟨by have:=HK1.out;omega⟩,⟨by (with_reducible repeat (first|refine blk_drewN ?_ _|refine blk_drew ?_|refine blk_alloc ?_ _));exact BK221.out⟩,⟨by repeat (first|(with_reducible first|exact HB.out|apply below_alloc|apply pw_below_drewN|apply below_drew1|refine below_set ?_ GE221.out)|exact HB.out)⟩⟩
      ·rw [if_neg c12] at H
       exact absurd H (by simp)
     ·rw [if_neg c11] at H
      exact absurd H (by simp)
    ·rw [if_neg c10] at H
     have c10b0:decide (x15_1 < (l2.length:Int)) = false:=decide_eq_false c10
     clear c10
     obtain rfl:=Option.some.inj H
     go_wp2
     go_ret
     exact ⟨by first|rfl|(simp [errW_none,errW_some] <;> rfl)|(simp [*,errW_none,errW_some] <;> rfl),by repeat (first|(with_reducible first|exact HB.out|apply below_alloc|apply pw_below_drewN|apply below_drew1|refine below_set ?_ GE221.out)|exact HB.out)⟩

end Go.Proofs.Ytlgnanbnicmdaaa.QFnExactIsRedundant
