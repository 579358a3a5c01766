-- Written by this session's own program (wip/x/xprint.py, over the kit's printer); Lean checks it.
import Derived.Test.YtlgnanbnicmdaaaQFnExactTrimStepsx0
import Derived.Test.YtlgnanbnicmdaaaQFnExactTrimStepsx5
namespace Go.Proofs.Ytlgnanbnicmdaaa.QFnExactTrimSteps
open Go.RowKit Go.Proofs.YtlgnanbnicmdaaaW.PrintWords Go.Proofs.YtlgnanbnicmdaaaW.PrintLast Go.Proofs.YtlgnanbnicmdaaaW.PrintMore
attribute [local go_sem] max2_int min2_int max_two min_two max_three min_three max_four min_four   -- for this text's walks alone
set_option linter.unusedVariables false
set_option linter.unusedSimpArgs false

/-! ### spec_l8Steps: function 55 -/
def spec_l8Steps.l0:Nat → List (S83) → List (S83) → Int → Int → List Int → Option (Bool)
 | 0,_,_,_,_,_=>none
 | k + 1,x1,x7,x8,x9,x221000=>if x9 < x8 then (if 0 ≤ x9 then (if x9 < (x7.length:Int) then ((spec_l4Clause.f k x221000 ((rd_T83 x7 x9).f3)).bind fun t223=>(if t223 = true then (spec_l8Steps.l0 k x1 x7 x8 (wrap64 (x9 + 1)) x221000) else (some false))) else (none)) else (none)) else ((spec_GoodSign.f k x221000).bind fun t224=>(if t224 = true then (some (decide ((x1.length:Int) ≤ 200))) else (some false)))
def spec_l8Steps.f (k:Nat) (l0_0:List Int) (l1:List (S83)):Option (Bool):=spec_l8Steps.l0 k l1 l1 (l1.length:Int) 0 l0_0
theorem spec_l8Steps.mono_l:∀ k,(∀ y0 y1 y2 y3 y4,LeO (spec_l8Steps.l0 k y0 y1 y2 y3 y4) (spec_l8Steps.l0 (k + 1) y0 y1 y2 y3 y4))
 | 0=>fun _ _ _ _ _ r h=>by simp [spec_l8Steps.l0] at h
 | k + 1=>by
  have ih0:=spec_l8Steps.mono_l k
  ·intro y0 y1 y2 y3 y4
   unfold spec_l8Steps.l0
   repeat' first
   | (with_reducible exact ih0 _ _ _ _ _)
   | (with_reducible exact spec_GoodSign.mono _ _)
   | (with_reducible exact spec_l4Clause.mono _ _ _)
   | (with_reducible exact LeO.refl _)
   | (with_reducible exact LeO.none _)
   | (with_reducible refine LeO.ite ?_ ?_)
   | (with_reducible refine LeO.bind ?_ (fun _=>?_))
   | exact ih0 _ _ _ _ _
   | exact spec_GoodSign.mono _ _
   | exact spec_l4Clause.mono _ _ _
   | exact LeO.none _
   | refine LeO.ite ?_ ?_
   | refine LeO.bind ?_ (fun _=>?_)
theorem spec_l8Steps.mono:∀ a0 a1 k,LeO (spec_l8Steps.f k a0 a1) (spec_l8Steps.f (k + 1) a0 a1):=by
 intro a0 a1 k
 have ih0:=spec_l8Steps.mono_l k
 unfold spec_l8Steps.f
 repeat' first
   | (with_reducible exact ih0 _ _ _ _ _)
   | (with_reducible exact spec_GoodSign.mono _ _)
   | (with_reducible exact spec_l4Clause.mono _ _ _)
   | (with_reducible exact LeO.refl _)
   | (with_reducible exact LeO.none _)
   | (with_reducible refine LeO.ite ?_ ?_)
   | (with_reducible refine LeO.bind ?_ (fun _=>?_))
   | exact ih0 _ _ _ _ _
   | exact spec_GoodSign.mono _ _
   | exact spec_l4Clause.mono _ _ _
   | exact LeO.none _
   | refine LeO.ite ?_ ?_
   | refine LeO.bind ?_ (fun _=>?_)
set_option maxHeartbeats 8000000 in
set_option maxRecDepth 100000 in
theorem spec_l8Steps.calls (k:Nat) (A0_0:Option Addr) (c0_0:Nat) (l0_0:List Int) (A1:Option Addr) (c1:Nat) (l1:List (S83)) (r:Bool) (w:World) (hr0_0:Kd.C (Kd.int .i64) w A0_0 l0_0.length l0_0) (hc0_0:l0_0.length ≤ c0_0) (hr1:Kd.C k83 w A1 l1.length l1) (hc1:l1.length ≤ c1) (h:spec_l8Steps.f k l0_0 l1 = some r) :
  Calls Try.prog 55 #[.agg #[.slice A0_0 l0_0.length c0_0],.slice A1 l1.length c1] w fun e w'=>e = .returned (.bool r) ∧ Below w.heap.size w w':=by
 have hu30:=Try.underlying30
 have hu83:=Try.underlying83
 have HR0_0:=Aside0.mk hr0_0
 have HC0_0:=Aside0.mk hc0_0
 clear hr0_0 hc0_0
 have HR1:=Aside0.mk hr1
 have HC1:=Aside0.mk hc1
 clear hr1 hc1
 have HB:=Aside0.mk (Below.refl w.heap.size w)
 have H:(spec_l8Steps.l0 k l1 l1 (l1.length:Int) 0 l0_0) = some r:=h
 clear h
 have H':=Aside0.mk H
 clear H
 go_enter Try.func55,Try.ntmps55
 go_wp2_with (first|((with_reducible refine gate_dst (N:=2) rfl ?_);(try (refine gate_guard (by rfl) ?_;dsimp only));refine box_event ?hg (N:=2) ?hd (cs:=#[.slice A0_0 l0_0.length c0_0]) (t:=30) ?hr ?_;(case hd=>rfl);(case hg=>rfl);(case hr=>first|(go_simp;done)|(go_simp;rfl));intro gb220 hg w3 hbox hb;have n0_:=Aside0.mk (below_step (by repeat (first|(with_reducible first|exact HB.out|apply below_alloc|apply pw_below_drewN|apply below_drew1)|exact HB.out)) hb);have n1_:=Aside0.mk (hbox);have n2_:=Aside0.mk ((by rw [hg];exact (below_size (by repeat (first|(with_reducible first|exact HB.out|apply below_alloc|apply pw_below_drewN|apply below_drew1)|exact HB.out))):w.heap.size ≤ gb220));have n3_:=Aside0.mk ((by rw [hg];exact (below_size (by repeat (first|(with_reducible first|exact HB.out|apply below_alloc|apply pw_below_drewN|apply below_drew1)|exact HB.out))):w.heap.size ≤ gb220));clear HB;have HB:=n0_;have BK220:=n1_;have GW220:=n2_;have GE220:=n3_;clear n0_ n1_ n2_ n3_;clear hb hbox hg))
 go_loopg [9] k (fun kq v9 w'=>∃ (x9_1:Int),v9 = .int .i64 x9_1 ∧ Aside0 (spec_l8Steps.l0 kq l1 l1 (l1.length:Int) x9_1 l0_0 = some r) ∧ Aside0 (kq ≤ k) ∧ Aside0 (w'.heap[gb220]? = some (.cells #[(.slice A0_0 l0_0.length c0_0)] 30 (0,0))) ∧ Aside0 (Below w.heap.size w w'))
 case atStart=>exact ⟨(0),(by first|rfl|(simp;done)|(simp [*];done)),H',⟨Nat.le_refl _⟩,⟨by (with_reducible repeat (first|refine blk_drewN ?_ _|refine blk_drew ?_|refine blk_alloc ?_ _));exact BK220.out⟩,⟨by repeat (first|(with_reducible first|exact HB.out|apply below_alloc|apply pw_below_drewN|apply below_drew1|refine below_set ?_ GE220.out)|exact HB.out)⟩⟩
 case round =>
  clear H'
  try clear c1
  try clear p2
  obtain ⟨x9_1,rfl,HA,HK1,BK220,HB⟩:=hrel
  cases gk with
  | zero=>exact absurd HA.out (by simp [spec_l8Steps.l0])
  | succ k1 =>
   have H:=HA.out
   clear HA
   simp only [spec_l8Steps.l0] at H
   by_cases c4:x9_1 < (l1.length:Int)
   ·rw [if_pos c4] at H
    have c4b0:decide (x9_1 < (l1.length:Int)) = true:=decide_eq_true c4
    clear c4
    by_cases c5:0 ≤ x9_1
    ·rw [if_pos c5] at H
     have c5b0:decide (0 ≤ x9_1) = true:=decide_eq_true c5
     clear c5
     by_cases c6:x9_1 < (l1.length:Int)
     ·rw [if_pos c6] at H
      have c6b0:decide (x9_1 < (l1.length:Int)) = true:=decide_eq_true c6
      clear c6
      replace H:=Option.bind_eq_some_iff.mp H
      obtain ⟨t223,A70,H⟩:=H
      replace H:(if t223 = true then (spec_l8Steps.l0 k1 l1 l1 (l1.length:Int) (wrap64 (x9_1 + 1)) l0_0) else (some false)) = some r:=H
      have A7:=Aside0.mk A70
      clear A70
      by_cases c8:t223 = true
      ·subst c8
       have H1:(spec_l8Steps.l0 k1 l1 l1 (l1.length:Int) (wrap64 (x9_1 + 1)) l0_0) = some r:=by rw [if_pos rfl] at H;exact H
       clear H
       have H:=H1
       clear H1
       have H':=Aside0.mk H
       clear H
       have p221:0 ≤ (x9_1:Int):=of_decide_eq_true (by first|(with_reducible assumption)|assumption)
       have q221:x9_1 < (l1.length:Int):=of_decide_eq_true (by first|(with_reducible assumption)|assumption)
       obtain ⟨ad221,A221_1,c221_1,A221_2,c221_2,A221_3,c221_3,e221,hx221_0,hx221_1,hx221_2,hx221_3,hl221_1,hi221_1,hl221_2,hi221_2,hl221_3,hi221_3⟩:=at_T83 HR1.out x9_1 p221 q221
       cases e221
       replace hx221_0:=(HB.out.cell (World.block_lt_of_cell? w _ hx221_0)).trans hx221_0
       replace hx221_1:=(HB.out.cell (World.block_lt_of_cell? w _ hx221_1)).trans hx221_1
       replace hx221_2:=(HB.out.cell (World.block_lt_of_cell? w _ hx221_2)).trans hx221_2
       replace hx221_3:=(HB.out.cell (World.block_lt_of_cell? w _ hx221_3)).trans hx221_3
       have HR221_1:=Aside0.mk hi221_1
       have HC221_1:=Aside0.mk hl221_1
       clear hi221_1 hl221_1
       have HR221_2:=Aside0.mk hi221_2
       have HC221_2:=Aside0.mk hl221_2
       clear hi221_2 hl221_2
       have HR221_3:=Aside0.mk hi221_3
       have HC221_3:=Aside0.mk hl221_3
       clear hi221_3 hl221_3
       replace p221:=eq_true p221
       replace q221:=eq_true q221
       go_wp2_with (first|((with_reducible refine gate_dst (N:=6) rfl ?_);(try (refine gate_guard (by rfl) ?_;dsimp only));refine box_event ?hg (N:=6) ?hd (cs:=#[.int .i64 0,.slice none 0 0,.slice none 0 0,.slice none 0 0]) (t:=83) ?hr ?_;(case hd=>rfl);(case hg=>rfl);(case hr=>first|(go_simp;done)|(go_simp;rfl));intro gb222 hg w9 hbox hb;have n0_:=Aside0.mk (blk_below (g:=gb220) (o:=.cells #[.slice A0_0 l0_0.length c0_0] 30 (0,0)) (by (with_reducible repeat (first|refine blk_drewN ?_ _|refine blk_drew ?_|refine blk_alloc ?_ _));exact BK220.out) hb);have n1_:=Aside0.mk (below_step (by repeat (first|(with_reducible first|exact HB.out|apply below_alloc|apply pw_below_drewN|apply below_drew1|refine below_set ?_ GE220.out)|exact HB.out)) hb);have n2_:=Aside0.mk (hbox);have n3_:=Aside0.mk ((by rw [hg];exact (below_size (by repeat (first|(with_reducible first|exact HB.out|apply below_alloc|apply pw_below_drewN|apply below_drew1|refine below_set ?_ GE220.out)|exact HB.out))):w.heap.size ≤ gb222));have n4_:=Aside0.mk ((by rw [hg];exact (below_size (by repeat (first|(with_reducible first|exact HB.out|apply below_alloc|apply pw_below_drewN|apply below_drew1|refine below_set ?_ GE220.out)|exact HB.out))):w.heap.size ≤ gb222));have n5_:=Aside0.mk ((by rw [hg];exact Nat.ne_of_lt (blk_lt (g:=gb220) (o:=.cells #[.slice A0_0 l0_0.length c0_0] 30 (0,0)) (by (with_reducible repeat (first|refine blk_drewN ?_ _|refine blk_drew ?_|refine blk_alloc ?_ _));exact BK220.out)):gb220 ≠ gb222));have n6_:=Aside0.mk ((by rw [hg];exact Nat.ne_of_gt (blk_lt (g:=gb220) (o:=.cells #[.slice A0_0 l0_0.length c0_0] 30 (0,0)) (by (with_reducible repeat (first|refine blk_drewN ?_ _|refine blk_drew ?_|refine blk_alloc ?_ _));exact BK220.out)):gb222 ≠ gb220));clear BK220;clear HB;have BK220:=n0_;have HB:=n1_;have BK222:=n2_;have GW222:=n3_;have GE222:=n4_;have NB220_222:=n5_;have NB222_220:=n6_;clear n0_ n1_ n2_ n3_ n4_ n5_ n6_;clear hb hbox hg;have hnb10:=NB222_220.out;have hnc10:=NB220_222.out;have hcz11_0:w9.cell? ⟨gb222,0,none⟩ = some (.int .i64 0):=(blk_cell BK222.out 0).trans rfl;have hcz11_1:w9.cell? ⟨gb222,1,none⟩ = some (.slice none 0 0):=(blk_cell BK222.out 1).trans rfl;have hcz11_2:w9.cell? ⟨gb222,2,none⟩ = some (.slice none 0 0):=(blk_cell BK222.out 2).trans rfl;have hcz11_3:w9.cell? ⟨gb222,3,none⟩ = some (.slice none 0 0):=(blk_cell BK222.out 3).trans rfl;have hfz11_0:=blk_frozen BK222.out 0;have hfz11_1:=blk_frozen BK222.out 1;have hfz11_2:=blk_frozen BK222.out 2;have hfz11_3:=blk_frozen BK222.out 3;have hcz12_0:w9.cell? ⟨gb220,0,none⟩ = some (.slice A0_0 l0_0.length c0_0):=(blk_cell BK220.out 0).trans rfl;have hfz12_0:=blk_frozen BK220.out 0)|((with_reducible refine gate_callee (f:=47) rfl ?_);refine goesL_ (some 16) rfl rfl Try.func47 (by kernel_rfl) rfl #[.agg #[.slice A0_0 l0_0.length c0_0],.slice A221_3 ((rd_T83 l1 x9_1).f3).length c221_3] rfl (by (try simp only [List.map_toArray,List.map_cons,List.map_nil]);first|done|rfl|(simp only [List.length_drop,List.length_take];rfl)) ?_;(with_reducible refine (spec_l4Clause.calls k1 _ _ l0_0 _ _ ((rd_T83 l1 x9_1).f3) true _ ?side1 ?side2 ?side3 ?side4 A7.out).mono ?_);(case side1=>exact Kd.C_below HR0_0.out (by repeat (first|(with_reducible first|exact HB.out|apply below_alloc|apply pw_below_drewN|apply below_drew1|refine below_set ?_ GE220.out|refine below_set ?_ GE222.out)|exact HB.out)));(case side2=>exact HC0_0.out);(case side3=>exact Kd.C_below HR221_3.out (by repeat (first|(with_reducible first|exact HB.out|apply below_alloc|apply pw_below_drewN|apply below_drew1|refine below_set ?_ GE220.out|refine below_set ?_ GE222.out)|exact HB.out)));(case side4=>exact HC221_3.out);rintro e w13 ⟨rfl,hb⟩;refine ⟨_,rfl,?_⟩;have n0_:=Aside0.mk (blk_below (g:=gb220) (o:=.cells #[.slice A0_0 l0_0.length c0_0] 30 (0,0)) (by (with_reducible repeat (first|refine blk_drewN ?_ _|refine blk_drew ?_|refine blk_alloc ?_ _));refine blk_far ?_ NB220_222.out _;(with_reducible repeat (first|refine blk_drewN ?_ _|refine blk_drew ?_|refine blk_alloc ?_ _));refine blk_far ?_ NB220_222.out _;(with_reducible repeat (first|refine blk_drewN ?_ _|refine blk_drew ?_|refine blk_alloc ?_ _));refine blk_far ?_ NB220_222.out _;(with_reducible repeat (first|refine blk_drewN ?_ _|refine blk_drew ?_|refine blk_alloc ?_ _));refine blk_far ?_ NB220_222.out _;(with_reducible repeat (first|refine blk_drewN ?_ _|refine blk_drew ?_|refine blk_alloc ?_ _));exact BK220.out) hb);have n1_:=Aside0.mk (blk_below (g:=gb222) (o:=.cells #[.int .i64 ((rd_T83 l1 x9_1).f0),.slice A221_1 ((rd_T83 l1 x9_1).f1).length c221_1,.slice A221_2 ((rd_T83 l1 x9_1).f2).length c221_2,.slice A221_3 ((rd_T83 l1 x9_1).f3).length c221_3] 83 (0,0)) (by (with_reducible repeat (first|refine blk_drewN ?_ _|refine blk_drew ?_|refine blk_alloc ?_ _));refine blk_put (cs:=#[.int .i64 ((rd_T83 l1 x9_1).f0),.slice A221_1 ((rd_T83 l1 x9_1).f1).length c221_1,.slice A221_2 ((rd_T83 l1 x9_1).f2).length c221_2,.slice none 0 0]) ?_ 3 _ rfl;(with_reducible repeat (first|refine blk_drewN ?_ _|refine blk_drew ?_|refine blk_alloc ?_ _));refine blk_put (cs:=#[.int .i64 ((rd_T83 l1 x9_1).f0),.slice A221_1 ((rd_T83 l1 x9_1).f1).length c221_1,.slice none 0 0,.slice none 0 0]) ?_ 2 _ rfl;(with_reducible repeat (first|refine blk_drewN ?_ _|refine blk_drew ?_|refine blk_alloc ?_ _));refine blk_put (cs:=#[.int .i64 ((rd_T83 l1 x9_1).f0),.slice none 0 0,.slice none 0 0,.slice none 0 0]) ?_ 1 _ rfl;(with_reducible repeat (first|refine blk_drewN ?_ _|refine blk_drew ?_|refine blk_alloc ?_ _));refine blk_put (cs:=#[.int .i64 0,.slice none 0 0,.slice none 0 0,.slice none 0 0]) ?_ 0 _ rfl;(with_reducible repeat (first|refine blk_drewN ?_ _|refine blk_drew ?_|refine blk_alloc ?_ _));exact BK222.out) hb);have n2_:=Aside0.mk (below_step (by repeat (first|(with_reducible first|exact HB.out|apply below_alloc|apply pw_below_drewN|apply below_drew1|refine below_set ?_ GE220.out|refine below_set ?_ GE222.out)|exact HB.out)) hb);clear BK220;clear BK222;clear HB;have BK220:=n0_;have BK222:=n1_;have HB:=n2_;clear n0_ n1_ n2_;(try clear hb);(try clear hb2);(try clear hk);(try clear hi)))
       go_roundg k1
       case measure=>have:=HK1.out;omega
       case rel=>exact ⟨(wrap64 (x9_1 + 1)),(by first|rfl|(simp;done)|(simp [*];done)),H',⟨by have:=HK1.out;omega⟩,⟨by (with_reducible repeat (first|refine blk_drewN ?_ _|refine blk_drew ?_|refine blk_alloc ?_ _));exact BK220.out⟩,⟨by repeat (first|(with_reducible first|exact HB.out|apply below_alloc|apply pw_below_drewN|apply below_drew1|refine below_set ?_ GE220.out|refine below_set ?_ GE222.out)|exact HB.out)⟩⟩
      ·replace c8:=Bool.eq_false_iff.mpr c8
       subst c8
       have H1:(some false) = some r:=by rw [if_neg (show ¬ (false = true) by decide)] at H;exact H
       clear H
       have H:=H1
       clear H1
       obtain rfl:=Option.some.inj H
       have p221:0 ≤ (x9_1:Int):=of_decide_eq_true (by first|(with_reducible assumption)|assumption)
       have q221:x9_1 < (l1.length:Int):=of_decide_eq_true (by first|(with_reducible assumption)|assumption)
       obtain ⟨ad221,A221_1,c221_1,A221_2,c221_2,A221_3,c221_3,e221,hx221_0,hx221_1,hx221_2,hx221_3,hl221_1,hi221_1,hl221_2,hi221_2,hl221_3,hi221_3⟩:=at_T83 HR1.out x9_1 p221 q221
       cases e221
       replace hx221_0:=(HB.out.cell (World.block_lt_of_cell? w _ hx221_0)).trans hx221_0
       replace hx221_1:=(HB.out.cell (World.block_lt_of_cell? w _ hx221_1)).trans hx221_1
       replace hx221_2:=(HB.out.cell (World.block_lt_of_cell? w _ hx221_2)).trans hx221_2
       replace hx221_3:=(HB.out.cell (World.block_lt_of_cell? w _ hx221_3)).trans hx221_3
       have HR221_1:=Aside0.mk hi221_1
       have HC221_1:=Aside0.mk hl221_1
       clear hi221_1 hl221_1
       have HR221_2:=Aside0.mk hi221_2
       have HC221_2:=Aside0.mk hl221_2
       clear hi221_2 hl221_2
       have HR221_3:=Aside0.mk hi221_3
       have HC221_3:=Aside0.mk hl221_3
       clear hi221_3 hl221_3
       replace p221:=eq_true p221
       replace q221:=eq_true q221
       go_wp2_with (first|((with_reducible refine gate_dst (N:=6) rfl ?_);(try (refine gate_guard (by rfl) ?_;dsimp only));refine box_event ?hg (N:=6) ?hd (cs:=#[.int .i64 0,.slice none 0 0,.slice none 0 0,.slice none 0 0]) (t:=83) ?hr ?_;(case hd=>rfl);(case hg=>rfl);(case hr=>first|(go_simp;done)|(go_simp;rfl));intro gb222 hg w14 hbox hb;have n0_:=Aside0.mk (blk_below (g:=gb220) (o:=.cells #[.slice A0_0 l0_0.length c0_0] 30 (0,0)) (by (with_reducible repeat (first|refine blk_drewN ?_ _|refine blk_drew ?_|refine blk_alloc ?_ _));exact BK220.out) hb);have n1_:=Aside0.mk (below_step (by repeat (first|(with_reducible first|exact HB.out|apply below_alloc|apply pw_below_drewN|apply below_drew1|refine below_set ?_ GE220.out)|exact HB.out)) hb);have n2_:=Aside0.mk (hbox);have n3_:=Aside0.mk ((by rw [hg];exact (below_size (by repeat (first|(with_reducible first|exact HB.out|apply below_alloc|apply pw_below_drewN|apply below_drew1|refine below_set ?_ GE220.out)|exact HB.out))):w.heap.size ≤ gb222));have n4_:=Aside0.mk ((by rw [hg];exact (below_size (by repeat (first|(with_reducible first|exact HB.out|apply below_alloc|apply pw_below_drewN|apply below_drew1|refine below_set ?_ GE220.out)|exact HB.out))):w.heap.size ≤ gb222));have n5_:=Aside0.mk ((by rw [hg];exact Nat.ne_of_lt (blk_lt (g:=gb220) (o:=.cells #[.slice A0_0 l0_0.length c0_0] 30 (0,0)) (by (with_reducible repeat (first|refine blk_drewN ?_ _|refine blk_drew ?_|refine blk_alloc ?_ _));exact BK220.out)):gb220 ≠ gb222));have n6_:=Aside0.mk ((by rw [hg];exact Nat.ne_of_gt (blk_lt (g:=gb220) (o:=.cells #[.slice A0_0 l0_0.length c0_0] 30 (0,0)) (by (with_reducible repeat (first|refine blk_drewN ?_ _|refine blk_drew ?_|refine blk_alloc ?_ _));exact BK220.out)):gb222 ≠ gb220));clear BK220;clear HB;have BK220:=n0_;have HB:=n1_;have BK222:=n2_;have GW222:=n3_;have GE222:=n4_;have NB220_222:=n5_;have NB222_220:=n6_;clear n0_ n1_ n2_ n3_ n4_ n5_ n6_;clear hb hbox hg;have hnb15:=NB222_220.out;have hnc15:=NB220_222.out;have hcz16_0:w14.cell? ⟨gb222,0,none⟩ = some (.int .i64 0):=(blk_cell BK222.out 0).trans rfl;have hcz16_1:w14.cell? ⟨gb222,1,none⟩ = some (.slice none 0 0):=(blk_cell BK222.out 1).trans rfl;have hcz16_2:w14.cell? ⟨gb222,2,none⟩ = some (.slice none 0 0):=(blk_cell BK222.out 2).trans rfl;have hcz16_3:w14.cell? ⟨gb222,3,none⟩ = some (.slice none 0 0):=(blk_cell BK222.out 3).trans rfl;have hfz16_0:=blk_frozen BK222.out 0;have hfz16_1:=blk_frozen BK222.out 1;have hfz16_2:=blk_frozen BK222.out 2;have hfz16_3:=blk_frozen BK222.out 3;have hcz17_0:w14.cell? ⟨gb220,0,none⟩ = some (.slice A0_0 l0_0.length c0_0):=(blk_cell BK220.out 0).trans rfl;have hfz17_0:=blk_frozen BK220.out 0)|((with_reducible refine gate_callee (f:=47) rfl ?_);refine goesL_ (some 16) rfl rfl Try.func47 (by kernel_rfl) rfl #[.agg #[.slice A0_0 l0_0.length c0_0],.slice A221_3 ((rd_T83 l1 x9_1).f3).length c221_3] rfl (by (try simp only [List.map_toArray,List.map_cons,List.map_nil]);first|done|rfl|(simp only [List.length_drop,List.length_take];rfl)) ?_;(with_reducible refine (spec_l4Clause.calls k1 _ _ l0_0 _ _ ((rd_T83 l1 x9_1).f3) false _ ?side1 ?side2 ?side3 ?side4 A7.out).mono ?_);(case side1=>exact Kd.C_below HR0_0.out (by repeat (first|(with_reducible first|exact HB.out|apply below_alloc|apply pw_below_drewN|apply below_drew1|refine below_set ?_ GE220.out|refine below_set ?_ GE222.out)|exact HB.out)));(case side2=>exact HC0_0.out);(case side3=>exact Kd.C_below HR221_3.out (by repeat (first|(with_reducible first|exact HB.out|apply below_alloc|apply pw_below_drewN|apply below_drew1|refine below_set ?_ GE220.out|refine below_set ?_ GE222.out)|exact HB.out)));(case side4=>exact HC221_3.out);rintro e w18 ⟨rfl,hb⟩;refine ⟨_,rfl,?_⟩;have n0_:=Aside0.mk (blk_below (g:=gb220) (o:=.cells #[.slice A0_0 l0_0.length c0_0] 30 (0,0)) (by (with_reducible repeat (first|refine blk_drewN ?_ _|refine blk_drew ?_|refine blk_alloc ?_ _));refine blk_far ?_ NB220_222.out _;(with_reducible repeat (first|refine blk_drewN ?_ _|refine blk_drew ?_|refine blk_alloc ?_ _));refine blk_far ?_ NB220_222.out _;(with_reducible repeat (first|refine blk_drewN ?_ _|refine blk_drew ?_|refine blk_alloc ?_ _));refine blk_far ?_ NB220_222.out _;(with_reducible repeat (first|refine blk_drewN ?_ _|refine blk_drew ?_|refine blk_alloc ?_ _));refine blk_far ?_ NB220_222.out _;(with_reducible repeat (first|refine blk_drewN ?_ _|refine blk_drew ?_|refine blk_alloc ?_ _));exact BK220.out) hb);have n1_:=Aside0.mk (blk_below (g:=gb222) (o:=.cells #[.int .i64 ((rd_T83 l1 x9_1).f0),.slice A221_1 ((rd_T83 l1 x9_1).f1).length c221_1,.slice A221_2 ((rd_T83 l1 x9_1).f2).length c221_2,.slice A221_3 ((rd_T83 l1 x9_1).f3).length c221_3] 83 (0,0)) (by (with_reducible repeat (first|refine blk_drewN ?_ _|refine blk_drew ?_|refine blk_alloc ?_ _));refine blk_put (cs:=#[.int .i64 ((rd_T83 l1 x9_1).f0),.slice A221_1 ((rd_T83 l1 x9_1).f1).length c221_1,.slice A221_2 ((rd_T83 l1 x9_1).f2).length c221_2,.slice none 0 0]) ?_ 3 _ rfl;(with_reducible repeat (first|refine blk_drewN ?_ _|refine blk_drew ?_|refine blk_alloc ?_ _));refine blk_put (cs:=#[.int .i64 ((rd_T83 l1 x9_1).f0),.slice A221_1 ((rd_T83 l1 x9_1).f1).length c221_1,.slice none 0 0,.slice none 0 0]) ?_ 2 _ rfl;(with_reducible repeat (first|refine blk_drewN ?_ _|refine blk_drew ?_|refine blk_alloc ?_ _));refine blk_put (cs:=#[.int .i64 ((rd_T83 l1 x9_1).f0),.slice none 0 0,.slice none 0 0,.slice none 0 0]) ?_ 1 _ rfl;(with_reducible repeat (first|refine blk_drewN ?_ _|refine blk_drew ?_|refine blk_alloc ?_ _));refine blk_put (cs:=#[.int .i64 0,.slice none 0 0,.slice none 0 0,.slice none 0 0]) ?_ 0 _ rfl;(with_reducible repeat (first|refine blk_drewN ?_ _|refine blk_drew ?_|refine blk_alloc ?_ _));exact BK222.out) hb);have n2_:=Aside0.mk (below_step (by repeat (first|(with_reducible first|exact HB.out|apply below_alloc|apply pw_below_drewN|apply below_drew1|refine below_set ?_ GE220.out|refine below_set ?_ GE222.out)|exact HB.out)) hb);clear BK220;clear BK222;clear HB;have BK220:=n0_;have BK222:=n1_;have HB:=n2_;clear n0_ n1_ n2_;(try clear hb);(try clear hb2);(try clear hk);(try clear hi)))
       go_ret
       exact ⟨by first|rfl|(simp [errW_none,errW_some] <;> rfl)|(simp [*,errW_none,errW_some] <;> rfl),by repeat (first|(with_reducible first|exact HB.out|apply below_alloc|apply pw_below_drewN|apply below_drew1|refine below_set ?_ GE220.out|refine below_set ?_ GE222.out)|exact HB.out)⟩
     ·rw [if_neg c6] at H
      exact absurd H (by simp)
    ·rw [if_neg c5] at H
     exact absurd H (by simp)
   ·rw [if_neg c4] at H
    have c4b0:decide (x9_1 < (l1.length:Int)) = false:=decide_eq_false c4
    clear c4
    replace H:=Option.bind_eq_some_iff.mp H
    obtain ⟨t224,A190,H⟩:=H
    replace H:(if t224 = true then (some (decide ((l1.length:Int) ≤ 200))) else (some false)) = some r:=H
    have A19:=Aside0.mk A190
    clear A190
    by_cases c20:t224 = true
    ·subst c20
     have H1:(some (decide ((l1.length:Int) ≤ 200))) = some r:=by rw [if_pos rfl] at H;exact H
     clear H
     have H:=H1
     clear H1
     obtain rfl:=Option.some.inj H
     have hcz21_0:wr.cell? ⟨gb220,0,none⟩ = some (.slice A0_0 l0_0.length c0_0):=(blk_cell BK220.out 0).trans rfl
     have hfz21_0:=blk_frozen BK220.out 0
     go_wp2_with (first|((with_reducible refine gate_callee (f:=82) rfl ?_);refine goesL_ (some 20) rfl rfl Try.func82 (by kernel_rfl) rfl #[.agg #[.slice A0_0 l0_0.length c0_0]] rfl (by (try simp only [List.map_toArray,List.map_cons,List.map_nil]);first|done|rfl|(simp only [List.length_drop,List.length_take];rfl)) ?_;(with_reducible refine (spec_GoodSign.calls k1 _ _ l0_0 true _ ?side1 ?side2 A19.out).mono ?_);(case side1=>repeat (first|exact (Kd.C_below HR0_0.out HB.out)|(with_reducible refine Kd.C_alloc ?_ _)|(with_reducible refine Kd.C_drewN ?_ _)|(with_reducible refine Kd.C_drew ?_)));(case side2=>exact HC0_0.out);rintro e w22 ⟨rfl,hb⟩;refine ⟨_,rfl,?_⟩;have n0_:=Aside0.mk (blk_below (g:=gb220) (o:=.cells #[.slice A0_0 l0_0.length c0_0] 30 (0,0)) (by (with_reducible repeat (first|refine blk_drewN ?_ _|refine blk_drew ?_|refine blk_alloc ?_ _));exact BK220.out) hb);have n1_:=Aside0.mk (below_step (by repeat (first|(with_reducible first|exact HB.out|apply below_alloc|apply pw_below_drewN|apply below_drew1|refine below_set ?_ GE220.out)|exact HB.out)) hb);clear BK220;clear HB;have BK220:=n0_;have HB:=n1_;clear n0_ n1_;(try clear hb);(try clear hb2);(try clear hk);(try clear hi)))
     go_ret
     exact ⟨by first|rfl|(simp [errW_none,errW_some] <;> rfl)|(simp [*,errW_none,errW_some] <;> rfl),by repeat (first|(with_reducible first|exact HB.out|apply below_alloc|apply pw_below_drewN|apply below_drew1|refine below_set ?_ GE220.out)|exact HB.out)⟩
    ·replace c20:=Bool.eq_false_iff.mpr c20
     subst c20
     have H1:(some false) = some r:=by rw [if_neg (show ¬ (false = true) by decide)] at H;exact H
     clear H
     have H:=H1
     clear H1
     obtain rfl:=Option.some.inj H
     have hcz23_0:wr.cell? ⟨gb220,0,none⟩ = some (.slice A0_0 l0_0.length c0_0):=(blk_cell BK220.out 0).trans rfl
     have hfz23_0:=blk_frozen BK220.out 0
     go_wp2_with (first|((with_reducible refine gate_callee (f:=82) rfl ?_);refine goesL_ (some 20) rfl rfl Try.func82 (by kernel_rfl) rfl #[.agg #[.slice A0_0 l0_0.length c0_0]] rfl (by (try simp only [List.map_toArray,List.map_cons,List.map_nil]);first|done|rfl|(simp only [List.length_drop,List.length_take];rfl)) ?_;(with_reducible refine (spec_GoodSign.calls k1 _ _ l0_0 false _ ?side1 ?side2 A19.out).mono ?_);(case side1=>repeat (first|exact (Kd.C_below HR0_0.out HB.out)|(with_reducible refine Kd.C_alloc ?_ _)|(with_reducible refine Kd.C_drewN ?_ _)|(with_reducible refine Kd.C_drew ?_)));(case side2=>exact HC0_0.out);rintro e w24 ⟨rfl,hb⟩;refine ⟨_,rfl,?_⟩;have n0_:=Aside0.mk (blk_below (g:=gb220) (o:=.cells #[.slice A0_0 l0_0.length c0_0] 30 (0,0)) (by (with_reducible repeat (first|refine blk_drewN ?_ _|refine blk_drew ?_|refine blk_alloc ?_ _));exact BK220.out) hb);have n1_:=Aside0.mk (below_step (by repeat (first|(with_reducible first|exact HB.out|apply below_alloc|apply pw_below_drewN|apply below_drew1|refine below_set ?_ GE220.out)|exact HB.out)) hb);clear BK220;clear HB;have BK220:=n0_;have HB:=n1_;clear n0_ n1_;(try clear hb);(try clear hb2);(try clear hk);(try clear hi)))
     go_ret
     exact ⟨by first|rfl|(simp [errW_none,errW_some] <;> rfl)|(simp [*,errW_none,errW_some] <;> rfl),by repeat (first|(with_reducible first|exact HB.out|apply below_alloc|apply pw_below_drewN|apply below_drew1|refine below_set ?_ GE220.out)|exact HB.out)⟩

/-! ### spec_l9Steps: function 64 -/
def spec_l9Steps.l0:Nat → List (S83) → List (S83) → Int → Int → List Int → Option (Bool)
 | 0,_,_,_,_,_=>none
 | k + 1,x1,x7,x8,x9,x226000=>if x9 < x8 then (if 0 ≤ x9 then (if x9 < (x7.length:Int) then (if x9 ≥ 200 then (some false) else ((spec_l1All.f k ((rd_T83 x7 x9).f1) 0 (wrap64 (x9 - 1))).bind fun t228=>(if t228 = true then (spec_l9Steps.l0 k x1 x7 x8 (wrap64 (x9 + 1)) x226000) else (some false)))) else (none)) else (none)) else ((spec_l8Steps.f k x226000 x1).bind fun t229=>(some t229))
def spec_l9Steps.f (k:Nat) (l0_0:List Int) (l1:List (S83)):Option (Bool):=spec_l9Steps.l0 k l1 l1 (l1.length:Int) 0 l0_0
theorem spec_l9Steps.mono_l:∀ k,(∀ y0 y1 y2 y3 y4,LeO (spec_l9Steps.l0 k y0 y1 y2 y3 y4) (spec_l9Steps.l0 (k + 1) y0 y1 y2 y3 y4))
 | 0=>fun _ _ _ _ _ r h=>by simp [spec_l9Steps.l0] at h
 | k + 1=>by
  have ih0:=spec_l9Steps.mono_l k
  ·intro y0 y1 y2 y3 y4
   unfold spec_l9Steps.l0
   repeat' first
   | (with_reducible exact ih0 _ _ _ _ _)
   | (with_reducible exact spec_l1All.mono _ _ _ _)
   | (with_reducible exact spec_l8Steps.mono _ _ _)
   | (with_reducible exact LeO.refl _)
   | (with_reducible exact LeO.none _)
   | (with_reducible refine LeO.ite ?_ ?_)
   | (with_reducible refine LeO.bind ?_ (fun _=>?_))
   | exact ih0 _ _ _ _ _
   | exact spec_l1All.mono _ _ _ _
   | exact spec_l8Steps.mono _ _ _
   | exact LeO.none _
   | refine LeO.ite ?_ ?_
   | refine LeO.bind ?_ (fun _=>?_)
theorem spec_l9Steps.mono:∀ a0 a1 k,LeO (spec_l9Steps.f k a0 a1) (spec_l9Steps.f (k + 1) a0 a1):=by
 intro a0 a1 k
 have ih0:=spec_l9Steps.mono_l k
 unfold spec_l9Steps.f
 repeat' first
   | (with_reducible exact ih0 _ _ _ _ _)
   | (with_reducible exact spec_l1All.mono _ _ _ _)
   | (with_reducible exact spec_l8Steps.mono _ _ _)
   | (with_reducible exact LeO.refl _)
   | (with_reducible exact LeO.none _)
   | (with_reducible refine LeO.ite ?_ ?_)
   | (with_reducible refine LeO.bind ?_ (fun _=>?_))
   | exact ih0 _ _ _ _ _
   | exact spec_l1All.mono _ _ _ _
   | exact spec_l8Steps.mono _ _ _
   | exact LeO.none _
   | refine LeO.ite ?_ ?_
   | refine LeO.bind ?_ (fun _=>?_)
set_option maxHeartbeats 8000000 in
set_option maxRecDepth 100000 in
theorem spec_l9Steps.calls (k:Nat) (A0_0:Option Addr) (c0_0:Nat) (l0_0:List Int) (A1:Option Addr) (c1:Nat) (l1:List (S83)) (r:Bool) (w:World) (hr0_0:Kd.C (Kd.int .i64) w A0_0 l0_0.length l0_0) (hc0_0:l0_0.length ≤ c0_0) (hr1:Kd.C k83 w A1 l1.length l1) (hc1:l1.length ≤ c1) (h:spec_l9Steps.f k l0_0 l1 = some r) :
  Calls Try.prog 64 #[.agg #[.slice A0_0 l0_0.length c0_0],.slice A1 l1.length c1] w fun e w'=>e = .returned (.bool r) ∧ Below w.heap.size w w':=by
 have hu30:=Try.underlying30
 have hu83:=Try.underlying83
 have HR0_0:=Aside0.mk hr0_0
 have HC0_0:=Aside0.mk hc0_0
 clear hr0_0 hc0_0
 have HR1:=Aside0.mk hr1
 have HC1:=Aside0.mk hc1
 clear hr1 hc1
 have HB:=Aside0.mk (Below.refl w.heap.size w)
 have H:(spec_l9Steps.l0 k l1 l1 (l1.length:Int) 0 l0_0) = some r:=h
 clear h
 have H':=Aside0.mk H
 clear H
 go_enter Try.func64,Try.ntmps64
 go_wp2_with (first|((with_reducible refine gate_dst (N:=2) rfl ?_);refine box_event ?hg (N:=2) ?hd (cs:=#[.slice A0_0 l0_0.length c0_0]) (t:=30) ?hr ?_;(case hd=>rfl);(case hg=>rfl);(case hr=>first|(go_simp;done)|(go_simp;rfl));intro gb225 hg w3 hbox hb;have n0_:=Aside0.mk (below_step (by repeat (first|(with_reducible first|exact HB.out|apply below_alloc|apply pw_below_drewN|apply below_drew1)|exact HB.out)) hb);have n1_:=Aside0.mk (hbox);have n2_:=Aside0.mk ((by rw [hg];exact (below_size (by repeat (first|(with_reducible first|exact HB.out|apply below_alloc|apply pw_below_drewN|apply below_drew1)|exact HB.out))):w.heap.size ≤ gb225));have n3_:=Aside0.mk ((by rw [hg];exact (below_size (by repeat (first|(with_reducible first|exact HB.out|apply below_alloc|apply pw_below_drewN|apply below_drew1)|exact HB.out))):w.heap.size ≤ gb225));clear HB;have HB:=n0_;have BK225:=n1_;have GW225:=n2_;have GE225:=n3_;clear n0_ n1_ n2_ n3_;clear hb hbox hg))
 go_loopg [9] k (fun kq v9 w'=>∃ (x9_1:Int),v9 = .int .i64 x9_1 ∧ Aside0 (spec_l9Steps.l0 kq l1 l1 (l1.length:Int) x9_1 l0_0 = some r) ∧ Aside0 (kq ≤ k) ∧ Aside0 (w'.heap[gb225]? = some (.cells #[(.slice A0_0 l0_0.length c0_0)] 30 (0,0))) ∧ Aside0 (Below w.heap.size w w'))
 case atStart=>exact ⟨(0),(by first|rfl|(simp;done)|(simp [*];done)),H',⟨Nat.le_refl _⟩,⟨by (with_reducible repeat (first|refine blk_drewN ?_ _|refine blk_drew ?_|refine blk_alloc ?_ _));exact BK225.out⟩,⟨by repeat (first|(with_reducible first|exact HB.out|apply below_alloc|apply pw_below_drewN|apply below_drew1|refine below_set ?_ GE225.out)|exact HB.out)⟩⟩
 case round =>
  clear H'
  try clear c1
  try clear p2
  obtain ⟨x9_1,rfl,HA,HK1,BK225,HB⟩:=hrel
  cases gk with
  | zero=>exact absurd HA.out (by simp [spec_l9Steps.l0])
  | succ k1 =>
   have H:=HA.out
   clear HA
   simp only [spec_l9Steps.l0] at H
   by_cases c4:x9_1 < (l1.length:Int)
   ·rw [if_pos c4] at H
    have c4b0:decide (x9_1 < (l1.length:Int)) = true:=decide_eq_true c4
    clear c4
    by_cases c5:0 ≤ x9_1
    ·rw [if_pos c5] at H
     have c5b0:decide (0 ≤ x9_1) = true:=decide_eq_true c5
     clear c5
     by_cases c6:x9_1 < (l1.length:Int)
     ·rw [if_pos c6] at H
      have c6b0:decide (x9_1 < (l1.length:Int)) = true:=decide_eq_true c6
      clear c6
      by_cases c7:x9_1 ≥ 200
      ·rw [if_pos c7] at H
       have c7b0:decide (200 ≤ x9_1) = true:=decide_eq_true c7
       clear c7
       obtain rfl:=Option.some.inj H
       have p226:0 ≤ (x9_1:Int):=of_decide_eq_true (by first|(with_reducible assumption)|assumption)
       have q226:x9_1 < (l1.length:Int):=of_decide_eq_true (by first|(with_reducible assumption)|assumption)
       obtain ⟨ad226,A226_1,c226_1,A226_2,c226_2,A226_3,c226_3,e226,hx226_0,hx226_1,hx226_2,hx226_3,hl226_1,hi226_1,hl226_2,hi226_2,hl226_3,hi226_3⟩:=at_T83 HR1.out x9_1 p226 q226
       cases e226
       replace hx226_0:=(HB.out.cell (World.block_lt_of_cell? w _ hx226_0)).trans hx226_0
       replace hx226_1:=(HB.out.cell (World.block_lt_of_cell? w _ hx226_1)).trans hx226_1
       replace hx226_2:=(HB.out.cell (World.block_lt_of_cell? w _ hx226_2)).trans hx226_2
       replace hx226_3:=(HB.out.cell (World.block_lt_of_cell? w _ hx226_3)).trans hx226_3
       have HR226_1:=Aside0.mk hi226_1
       have HC226_1:=Aside0.mk hl226_1
       clear hi226_1 hl226_1
       have HR226_2:=Aside0.mk hi226_2
       have HC226_2:=Aside0.mk hl226_2
       clear hi226_2 hl226_2
       have HR226_3:=Aside0.mk hi226_3
       have HC226_3:=Aside0.mk hl226_3
       clear hi226_3 hl226_3
       replace p226:=eq_true p226
       replace q226:=eq_true q226
       go_wp2_with (first|((with_reducible refine gate_dst (N:=6) rfl ?_);refine box_event ?hg (N:=6) ?hd (cs:=#[.int .i64 0,.slice none 0 0,.slice none 0 0,.slice none 0 0]) (t:=83) ?hr ?_;(case hd=>rfl);(case hg=>rfl);(case hr=>first|(go_simp;done)|(go_simp;rfl));intro gb227 hg w8 hbox hb;have n0_:=Aside0.mk (blk_below (g:=gb225) (o:=.cells #[.slice A0_0 l0_0.length c0_0] 30 (0,0)) (by (with_reducible repeat (first|refine blk_drewN ?_ _|refine blk_drew ?_|refine blk_alloc ?_ _));exact BK225.out) hb);have n1_:=Aside0.mk (below_step (by repeat (first|(with_reducible first|exact HB.out|apply below_alloc|apply pw_below_drewN|apply below_drew1|refine below_set ?_ GE225.out)|exact HB.out)) hb);have n2_:=Aside0.mk (hbox);have n3_:=Aside0.mk ((by rw [hg];exact (below_size (by repeat (first|(with_reducible first|exact HB.out|apply below_alloc|apply pw_below_drewN|apply below_drew1|refine below_set ?_ GE225.out)|exact HB.out))):w.heap.size ≤ gb227));have n4_:=Aside0.mk ((by rw [hg];exact (below_size (by repeat (first|(with_reducible first|exact HB.out|apply below_alloc|apply pw_below_drewN|apply below_drew1|refine below_set ?_ GE225.out)|exact HB.out))):w.heap.size ≤ gb227));have n5_:=Aside0.mk ((by rw [hg];exact Nat.ne_of_lt (blk_lt (g:=gb225) (o:=.cells #[.slice A0_0 l0_0.length c0_0] 30 (0,0)) (by (with_reducible repeat (first|refine blk_drewN ?_ _|refine blk_drew ?_|refine blk_alloc ?_ _));exact BK225.out)):gb225 ≠ gb227));have n6_:=Aside0.mk ((by rw [hg];exact Nat.ne_of_gt (blk_lt (g:=gb225) (o:=.cells #[.slice A0_0 l0_0.length c0_0] 30 (0,0)) (by (with_reducible repeat (first|refine blk_drewN ?_ _|refine blk_drew ?_|refine blk_alloc ?_ _));exact BK225.out)):gb227 ≠ gb225));clear BK225;clear HB;have BK225:=n0_;have HB:=n1_;have BK227:=n2_;have GW227:=n3_;have GE227:=n4_;have NB225_227:=n5_;have NB227_225:=n6_;clear n0_ n1_ n2_ n3_ n4_ n5_ n6_;clear hb hbox hg;have hnb9:=NB227_225.out;have hnc9:=NB225_227.out;have hcz10_0:w8.cell? ⟨gb227,0,none⟩ = some (.int .i64 0):=(blk_cell BK227.out 0).trans rfl;have hcz10_1:w8.cell? ⟨gb227,1,none⟩ = some (.slice none 0 0):=(blk_cell BK227.out 1).trans rfl;have hcz10_2:w8.cell? ⟨gb227,2,none⟩ = some (.slice none 0 0):=(blk_cell BK227.out 2).trans rfl;have hcz10_3:w8.cell? ⟨gb227,3,none⟩ = some (.slice none 0 0):=(blk_cell BK227.out 3).trans rfl;have hfz10_0:=blk_frozen BK227.out 0;have hfz10_1:=blk_frozen BK227.out 1;have hfz10_2:=blk_frozen BK227.out 2;have hfz10_3:=blk_frozen BK227.out 3))
       go_ret
       exact ⟨by first|rfl|(simp [errW_none,errW_some] <;> rfl)|(simp [*,errW_none,errW_some] <;> rfl),by repeat (first|(with_reducible first|exact HB.out|apply below_alloc|apply pw_below_drewN|apply below_drew1|refine below_set ?_ GE225.out|refine below_set ?_ GE227.out)|exact HB.out)⟩
      ·rw [if_neg c7] at H
       have c7b0:decide (200 ≤ x9_1) = false:=decide_eq_false c7
       clear c7
       replace H:=Option.bind_eq_some_iff.mp H
       obtain ⟨t228,A110,H⟩:=H
       replace H:(if t228 = true then (spec_l9Steps.l0 k1 l1 l1 (l1.length:Int) (wrap64 (x9_1 + 1)) l0_0) else (some false)) = some r:=H
       have A11:=Aside0.mk A110
       clear A110
       by_cases c12:t228 = true
       ·subst c12
        have H1:(spec_l9Steps.l0 k1 l1 l1 (l1.length:Int) (wrap64 (x9_1 + 1)) l0_0) = some r:=by rw [if_pos rfl] at H;exact H
        clear H
        have H:=H1
        clear H1
        have H':=Aside0.mk H
        clear H
        have p226:0 ≤ (x9_1:Int):=of_decide_eq_true (by first|(with_reducible assumption)|assumption)
        have q226:x9_1 < (l1.length:Int):=of_decide_eq_true (by first|(with_reducible assumption)|assumption)
        obtain ⟨ad226,A226_1,c226_1,A226_2,c226_2,A226_3,c226_3,e226,hx226_0,hx226_1,hx226_2,hx226_3,hl226_1,hi226_1,hl226_2,hi226_2,hl226_3,hi226_3⟩:=at_T83 HR1.out x9_1 p226 q226
        cases e226
        replace hx226_0:=(HB.out.cell (World.block_lt_of_cell? w _ hx226_0)).trans hx226_0
        replace hx226_1:=(HB.out.cell (World.block_lt_of_cell? w _ hx226_1)).trans hx226_1
        replace hx226_2:=(HB.out.cell (World.block_lt_of_cell? w _ hx226_2)).trans hx226_2
        replace hx226_3:=(HB.out.cell (World.block_lt_of_cell? w _ hx226_3)).trans hx226_3
        have HR226_1:=Aside0.mk hi226_1
        have HC226_1:=Aside0.mk hl226_1
        clear hi226_1 hl226_1
        have HR226_2:=Aside0.mk hi226_2
        have HC226_2:=Aside0.mk hl226_2
        clear hi226_2 hl226_2
        have HR226_3:=Aside0.mk hi226_3
        have HC226_3:=Aside0.mk hl226_3
        clear hi226_3 hl226_3
        replace p226:=eq_true p226
        replace q226:=eq_true q226
        go_wp2_with (first|((with_reducible refine gate_dst (N:=6) rfl ?_);refine box_event ?hg (N:=6) ?hd (cs:=#[.int .i64 0,.slice none 0 0,.slice none 0 0,.slice none 0 0]) (t:=83) ?hr ?_;(case hd=>rfl);(case hg=>rfl);(case hr=>first|(go_simp;done)|(go_simp;rfl));intro gb227 hg w13 hbox hb;have n0_:=Aside0.mk (blk_below (g:=gb225) (o:=.cells #[.slice A0_0 l0_0.length c0_0] 30 (0,0)) (by (with_reducible repeat (first|refine blk_drewN ?_ _|refine blk_drew ?_|refine blk_alloc ?_ _));exact BK225.out) hb);have n1_:=Aside0.mk (below_step (by repeat (first|(with_reducible first|exact HB.out|apply below_alloc|apply pw_below_drewN|apply below_drew1|refine below_set ?_ GE225.out)|exact HB.out)) hb);have n2_:=Aside0.mk (hbox);have n3_:=Aside0.mk ((by rw [hg];exact (below_size (by repeat (first|(with_reducible first|exact HB.out|apply below_alloc|apply pw_below_drewN|apply below_drew1|refine below_set ?_ GE225.out)|exact HB.out))):w.heap.size ≤ gb227));have n4_:=Aside0.mk ((by rw [hg];exact (below_size (by repeat (first|(with_reducible first|exact HB.out|apply below_alloc|apply pw_below_drewN|apply below_drew1|refine below_set ?_ GE225.out)|exact HB.out))):w.heap.size ≤ gb227));have n5_:=Aside0.mk ((by rw [hg];exact Nat.ne_of_lt (blk_lt (g:=gb225) (o:=.cells #[.slice A0_0 l0_0.length c0_0] 30 (0,0)) (by (with_reducible repeat (first|refine blk_drewN ?_ _|refine blk_drew ?_|refine blk_alloc ?_ _));exact BK225.out)):gb225 ≠ gb227));have n6_:=Aside0.mk ((by rw [hg];exact Nat.ne_of_gt (blk_lt (g:=gb225) (o:=.cells #[.slice A0_0 l0_0.length c0_0] 30 (0,0)) (by (with_reducible repeat (first|refine blk_drewN ?_ _|refine blk_drew ?_|refine blk_alloc ?_ _));exact BK225.out)):gb227 ≠ gb225));clear BK225;clear HB;have BK225:=n0_;have HB:=n1_;have BK227:=n2_;have GW227:=n3_;have GE227:=n4_;have NB225_227:=n5_;have NB227_225:=n6_;clear n0_ n1_ n2_ n3_ n4_ n5_ n6_;clear hb hbox hg;have hnb14:=NB227_225.out;have hnc14:=NB225_227.out;have hcz15_0:w13.cell? ⟨gb227,0,none⟩ = some (.int .i64 0):=(blk_cell BK227.out 0).trans rfl;have hcz15_1:w13.cell? ⟨gb227,1,none⟩ = some (.slice none 0 0):=(blk_cell BK227.out 1).trans rfl;have hcz15_2:w13.cell? ⟨gb227,2,none⟩ = some (.slice none 0 0):=(blk_cell BK227.out 2).trans rfl;have hcz15_3:w13.cell? ⟨gb227,3,none⟩ = some (.slice none 0 0):=(blk_cell BK227.out 3).trans rfl;have hfz15_0:=blk_frozen BK227.out 0;have hfz15_1:=blk_frozen BK227.out 1;have hfz15_2:=blk_frozen BK227.out 2;have hfz15_3:=blk_frozen BK227.out 3)|(go_at_call 56;(with_reducible refine (spec_l1All.calls k1 _ _ ((rd_T83 l1 x9_1).f1) 0 (wrap64 (x9_1 - 1)) true _ ?side1 ?side2 A11.out).mono ?_);(case side1=>exact Kd.C_below HR226_1.out (by repeat (first|(with_reducible first|exact HB.out|apply below_alloc|apply pw_below_drewN|apply below_drew1|refine below_set ?_ GE225.out|refine below_set ?_ GE227.out)|exact HB.out)));(case side2=>exact HC226_1.out);rintro e w' ⟨rfl,⟨nd,rfl⟩⟩))
        go_roundg k1
        case measure=>have:=HK1.out;omega
        case rel=>exact ⟨(wrap64 (x9_1 + 1)),(by first|rfl|(simp;done)|(simp [*];done)),H',⟨by have:=HK1.out;omega⟩,⟨by (with_reducible repeat (first|refine blk_drewN ?_ _|refine blk_drew ?_|refine blk_alloc ?_ _));refine blk_far ?_ NB225_227.out _;(with_reducible repeat (first|refine blk_drewN ?_ _|refine blk_drew ?_|refine blk_alloc ?_ _));refine blk_far ?_ NB225_227.out _;(with_reducible repeat (first|refine blk_drewN ?_ _|refine blk_drew ?_|refine blk_alloc ?_ _));refine blk_far ?_ NB225_227.out _;(with_reducible repeat (first|refine blk_drewN ?_ _|refine blk_drew ?_|refine blk_alloc ?_ _));refine blk_far ?_ NB225_227.out _;(with_reducible repeat (first|refine blk_drewN ?_ _|refine blk_drew ?_|refine blk_alloc ?_ _));exact BK225.out⟩,⟨by repeat (first|(with_reducible first|exact HB.out|apply below_alloc|apply pw_below_drewN|apply below_drew1|refine below_set ?_ GE225.out|refine below_set ?_ GE227.out)|exact HB.out)⟩⟩
       ·replace c12:=Bool.eq_false_iff.mpr c12
        subst c12
        have H1:(some false) = some r:=by rw [if_neg (show ¬ (false = true) by decide)] at H;exact H
        clear H
        have H:=H1
        clear H1
        obtain rfl:=Option.some.inj H
        have p226:0 ≤ (x9_1:Int):=of_decide_eq_true (by first|(with_reducible assumption)|assumption)
        have q226:x9_1 < (l1.length:Int):=of_decide_eq_true (by first|(with_reducible assumption)|assumption)
        obtain ⟨ad226,A226_1,c226_1,A226_2,c226_2,A226_3,c226_3,e226,hx226_0,hx226_1,hx226_2,hx226_3,hl226_1,hi226_1,hl226_2,hi226_2,hl226_3,hi226_3⟩:=at_T83 HR1.out x9_1 p226 q226
        cases e226
        replace hx226_0:=(HB.out.cell (World.block_lt_of_cell? w _ hx226_0)).trans hx226_0
        replace hx226_1:=(HB.out.cell (World.block_lt_of_cell? w _ hx226_1)).trans hx226_1
        replace hx226_2:=(HB.out.cell (World.block_lt_of_cell? w _ hx226_2)).trans hx226_2
        replace hx226_3:=(HB.out.cell (World.block_lt_of_cell? w _ hx226_3)).trans hx226_3
        have HR226_1:=Aside0.mk hi226_1
        have HC226_1:=Aside0.mk hl226_1
        clear hi226_1 hl226_1
        have HR226_2:=Aside0.mk hi226_2
        have HC226_2:=Aside0.mk hl226_2
        clear hi226_2 hl226_2
        have HR226_3:=Aside0.mk hi226_3
        have HC226_3:=Aside0.mk hl226_3
        clear hi226_3 hl226_3
        replace p226:=eq_true p226
        replace q226:=eq_true q226
        go_wp2_with (first|((with_reducible refine gate_dst (N:=6) rfl ?_);refine box_event ?hg (N:=6) ?hd (cs:=#[.int .i64 0,.slice none 0 0,.slice none 0 0,.slice none 0 0]) (t:=83) ?hr ?_;(case hd=>rfl);(case hg=>rfl);(case hr=>first|(go_simp;done)|(go_simp;rfl));intro gb227 hg w16 hbox hb;have n0_:=Aside0.mk (blk_below (g:=gb225) (o:=.cells #[.slice A0_0 l0_0.length c0_0] 30 (0,0)) (by (with_reducible repeat (first|refine blk_drewN ?_ _|refine blk_drew ?_|refine blk_alloc ?_ _));exact BK225.out) hb);have n1_:=Aside0.mk (below_step (by repeat (first|(with_reducible first|exact HB.out|apply below_alloc|apply pw_below_drewN|apply below_drew1|refine below_set ?_ GE225.out)|exact HB.out)) hb);have n2_:=Aside0.mk (hbox);have n3_:=Aside0.mk ((by rw [hg];exact (below_size (by repeat (first|(with_reducible first|exact HB.out|apply below_alloc|apply pw_below_drewN|apply below_drew1|refine below_set ?_ GE225.out)|exact HB.out))):w.heap.size ≤ gb227));have n4_:=Aside0.mk ((by rw [hg];exact (below_size (by repeat (first|(with_reducible first|exact HB.out|apply below_alloc|apply pw_below_drewN|apply below_drew1|refine below_set ?_ GE225.out)|exact HB.out))):w.heap.size ≤ gb227));have n5_:=Aside0.mk ((by rw [hg];exact Nat.ne_of_lt (blk_lt (g:=gb225) (o:=.cells #[.slice A0_0 l0_0.length c0_0] 30 (0,0)) (by (with_reducible repeat (first|refine blk_drewN ?_ _|refine blk_drew ?_|refine blk_alloc ?_ _));exact BK225.out)):gb225 ≠ gb227));have n6_:=Aside0.mk ((by rw [hg];exact Nat.ne_of_gt (blk_lt (g:=gb225) (o:=.cells #[.slice A0_0 l0_0.length c0_0] 30 (0,0)) (by (with_reducible repeat (first|refine blk_drewN ?_ _|refine blk_drew ?_|refine blk_alloc ?_ _));exact BK225.out)):gb227 ≠ gb225));clear BK225;clear HB;have BK225:=n0_;have HB:=n1_;have BK227:=n2_;have GW227:=n3_;have GE227:=n4_;have NB225_227:=n5_;have NB227_225:=n6_;clear n0_ n1_ n2_ n3_ n4_ n5_ n6_;clear hb hbox hg;have hnb17:=NB227_225.out;have hnc17:=NB225_227.out;have hcz18_0:w16.cell? ⟨gb227,0,none⟩ = some (.int .i64 0):=(blk_cell BK227.out 0).trans rfl;have hcz18_1:w16.cell? ⟨gb227,1,none⟩ = some (.slice none 0 0):=(blk_cell BK227.out 1).trans rfl;have hcz18_2:w16.cell? ⟨gb227,2,none⟩ = some (.slice none 0 0):=(blk_cell BK227.out 2).trans rfl;have hcz18_3:w16.cell? ⟨gb227,3,none⟩ = some (.slice none 0 0):=(blk_cell BK227.out 3).trans rfl;have hfz18_0:=blk_frozen BK227.out 0;have hfz18_1:=blk_frozen BK227.out 1;have hfz18_2:=blk_frozen BK227.out 2;have hfz18_3:=blk_frozen BK227.out 3)|(go_at_call 56;(with_reducible refine (spec_l1All.calls k1 _ _ ((rd_T83 l1 x9_1).f1) 0 (wrap64 (x9_1 - 1)) false _ ?side1 ?side2 A11.out).mono ?_);(case side1=>exact Kd.C_below HR226_1.out (by repeat (first|(with_reducible first|exact HB.out|apply below_alloc|apply pw_below_drewN|apply below_drew1|refine below_set ?_ GE225.out|refine below_set ?_ GE227.out)|exact HB.out)));(case side2=>exact HC226_1.out);rintro e w' ⟨rfl,⟨nd,rfl⟩⟩))
        go_ret
        exact ⟨by first|rfl|(simp [errW_none,errW_some] <;> rfl)|(simp [*,errW_none,errW_some] <;> rfl),by repeat (first|(with_reducible first|exact HB.out|apply below_alloc|apply pw_below_drewN|apply below_drew1|refine below_set ?_ GE225.out|refine below_set ?_ GE227.out)|exact HB.out)⟩
     ·rw [if_neg c6] at H
      exact absurd H (by simp)
    ·rw [if_neg c5] at H
     exact absurd H (by simp)
   ·rw [if_neg c4] at H
    have c4b0:decide (x9_1 < (l1.length:Int)) = false:=decide_eq_false c4
    clear c4
    replace H:=Option.bind_eq_some_iff.mp H
    obtain ⟨t229,A190,H⟩:=H
    replace H:(some t229) = some r:=H
    have A19:=Aside0.mk A190
    clear A190
    obtain rfl:=Option.some.inj H
    have hcz20_0:wr.cell? ⟨gb225,0,none⟩ = some (.slice A0_0 l0_0.length c0_0):=(blk_cell BK225.out 0).trans rfl
    have hfz20_0:=blk_frozen BK225.out 0
    go_wp2_with (first|((with_reducible refine gate_callee (f:=55) rfl ?_);refine goesL_ (some 27) rfl rfl Try.func55 (by kernel_rfl) rfl #[.agg #[.slice A0_0 l0_0.length c0_0],.slice A1 l1.length c1] rfl (by (try simp only [List.map_toArray,List.map_cons,List.map_nil]);first|done|rfl|(simp only [List.length_drop,List.length_take];rfl)) ?_;(with_reducible refine (spec_l8Steps.calls k1 _ _ l0_0 _ _ l1 t229 _ ?side1 ?side2 ?side3 ?side4 A19.out).mono ?_);(case side1=>repeat (first|exact (Kd.C_below HR0_0.out HB.out)|(with_reducible refine Kd.C_alloc ?_ _)|(with_reducible refine Kd.C_drewN ?_ _)|(with_reducible refine Kd.C_drew ?_)));(case side2=>exact HC0_0.out);(case side3=>repeat (first|exact (Kd.C_below HR1.out HB.out)|(with_reducible refine Kd.C_alloc ?_ _)|(with_reducible refine Kd.C_drewN ?_ _)|(with_reducible refine Kd.C_drew ?_)));(case side4=>exact HC1.out);rintro e w21 ⟨rfl,hb⟩;refine ⟨_,rfl,?_⟩;have n0_:=Aside0.mk (blk_below (g:=gb225) (o:=.cells #[.slice A0_0 l0_0.length c0_0] 30 (0,0)) (by (with_reducible repeat (first|refine blk_drewN ?_ _|refine blk_drew ?_|refine blk_alloc ?_ _));exact BK225.out) hb);have n1_:=Aside0.mk (below_step (by repeat (first|(with_reducible first|exact HB.out|apply below_alloc|apply pw_below_drewN|apply below_drew1|refine below_set ?_ GE225.out)|exact HB.out)) hb);clear BK225;clear HB;have BK225:=n0_;have HB:=n1_;clear n0_ n1_;(try clear hb);(try clear hb2);(try clear hk);(try clear hi)))
    go_ret
    exact ⟨by first|rfl|(simp [errW_none,errW_some] <;> rfl)|(simp [*,errW_none,errW_some] <;> rfl),by repeat (first|(with_reducible first|exact HB.out|apply below_alloc|apply pw_below_drewN|apply below_drew1|refine below_set ?_ GE225.out)|exact HB.out)⟩

/-! ### spec_l9Empty: function 75 -/
def spec_l9Empty.l0:Nat → List (S83) → Int → Int → Option (Int)
 | 0,_,_,_=>none
 | k + 1,x5,x6,x7=>if x7 < x6 then (if 0 ≤ x7 then (if x7 < (x5.length:Int) then (if (((rd_T83 x5 x7).f3).length:Int) = 0 then (some x7) else (spec_l9Empty.l0 k x5 x6 (wrap64 (x7 + 1)))) else (none)) else (none)) else (some (-1))
def spec_l9Empty.f (k:Nat) (l0:List (S83)):Option (Int):=spec_l9Empty.l0 k l0 (l0.length:Int) 0
theorem spec_l9Empty.mono_l:∀ k,(∀ y0 y1 y2,LeO (spec_l9Empty.l0 k y0 y1 y2) (spec_l9Empty.l0 (k + 1) y0 y1 y2))
 | 0=>fun _ _ _ r h=>by simp [spec_l9Empty.l0] at h
 | k + 1=>by
  have ih0:=spec_l9Empty.mono_l k
  ·intro y0 y1 y2
   unfold spec_l9Empty.l0
   repeat' first
   | (with_reducible exact ih0 _ _ _)
   | (with_reducible exact LeO.refl _)
   | (with_reducible exact LeO.none _)
   | (with_reducible refine LeO.ite ?_ ?_)
   | (with_reducible refine LeO.bind ?_ (fun _=>?_))
   | exact ih0 _ _ _
   | exact LeO.none _
   | refine LeO.ite ?_ ?_
   | refine LeO.bind ?_ (fun _=>?_)
theorem spec_l9Empty.mono:∀ a0 k,LeO (spec_l9Empty.f k a0) (spec_l9Empty.f (k + 1) a0):=by
 intro a0 k
 have ih0:=spec_l9Empty.mono_l k
 unfold spec_l9Empty.f
 repeat' first
   | (with_reducible exact ih0 _ _ _)
   | (with_reducible exact LeO.refl _)
   | (with_reducible exact LeO.none _)
   | (with_reducible refine LeO.ite ?_ ?_)
   | (with_reducible refine LeO.bind ?_ (fun _=>?_))
   | exact ih0 _ _ _
   | exact LeO.none _
   | refine LeO.ite ?_ ?_
   | refine LeO.bind ?_ (fun _=>?_)
set_option maxHeartbeats 8000000 in
set_option maxRecDepth 100000 in
theorem spec_l9Empty.calls (k:Nat) (A0:Option Addr) (c0:Nat) (l0:List (S83)) (r:Int) (w:World) (hr0:Kd.C k83 w A0 l0.length l0) (hc0:l0.length ≤ c0) (h:spec_l9Empty.f k l0 = some r) :
  Calls Try.prog 75 #[.slice A0 l0.length c0] w fun e w'=>e = .returned (.int .i64 r) ∧ Below w.heap.size w w':=by
 have hu83:=Try.underlying83
 have HR0:=Aside0.mk hr0
 have HC0:=Aside0.mk hc0
 clear hr0 hc0
 have HB:=Aside0.mk (Below.refl w.heap.size w)
 have H:(spec_l9Empty.l0 k l0 (l0.length:Int) 0) = some r:=h
 clear h
 have H':=Aside0.mk H
 clear H
 go_enter Try.func75,Try.ntmps75
 go_wp2
 go_loopg [7] k (fun kq v7 w'=>∃ (x7_1:Int),v7 = .int .i64 x7_1 ∧ Aside0 (spec_l9Empty.l0 kq l0 (l0.length:Int) x7_1 = some r) ∧ Aside0 (kq ≤ k) ∧ Aside0 (Below w.heap.size w w'))
 case atStart=>exact ⟨(0),(by first|rfl|(simp;done)|(simp [*];done)),H',⟨Nat.le_refl _⟩,⟨by repeat (first|(with_reducible first|exact HB.out|apply below_alloc|apply pw_below_drewN|apply below_drew1)|exact HB.out)⟩⟩
 case round =>
  clear H'
  obtain ⟨x7_1,rfl,HA,HK1,HB⟩:=hrel
  cases gk with
  | zero=>exact absurd HA.out (by simp [spec_l9Empty.l0])
  | succ k1 =>
   have H:=HA.out
   clear HA
   simp only [spec_l9Empty.l0] at H
   by_cases c2:x7_1 < (l0.length:Int)
   ·rw [if_pos c2] at H
    have c2b0:decide (x7_1 < (l0.length:Int)) = true:=decide_eq_true c2
    clear c2
    by_cases c3:0 ≤ x7_1
    ·rw [if_pos c3] at H
     have c3b0:decide (0 ≤ x7_1) = true:=decide_eq_true c3
     clear c3
     by_cases c4:x7_1 < (l0.length:Int)
     ·rw [if_pos c4] at H
      have c4b0:decide (x7_1 < (l0.length:Int)) = true:=decide_eq_true c4
      clear c4
      by_cases c5:(((rd_T83 l0 x7_1).f3).length:Int) = 0
      ·rw [if_pos c5] at H
       have c5b0:((((rd_T83 l0 x7_1).f3).length:Int) == 0) = true:=beq_iff_eq.mpr c5
       have c5b1:((((rd_T83 l0 x7_1).f3).length:Int) != 0) = false:=bne_eq_false_iff_eq.mpr c5
       clear c5
       obtain rfl:=Option.some.inj H
       have p230:0 ≤ (x7_1:Int):=of_decide_eq_true (by first|(with_reducible assumption)|assumption)
       have q230:x7_1 < (l0.length:Int):=of_decide_eq_true (by first|(with_reducible assumption)|assumption)
       obtain ⟨ad230,A230_1,c230_1,A230_2,c230_2,A230_3,c230_3,e230,hx230_0,hx230_1,hx230_2,hx230_3,hl230_1,hi230_1,hl230_2,hi230_2,hl230_3,hi230_3⟩:=at_T83 HR0.out x7_1 p230 q230
       cases e230
       replace hx230_0:=(HB.out.cell (World.block_lt_of_cell? w _ hx230_0)).trans hx230_0
       replace hx230_1:=(HB.out.cell (World.block_lt_of_cell? w _ hx230_1)).trans hx230_1
       replace hx230_2:=(HB.out.cell (World.block_lt_of_cell? w _ hx230_2)).trans hx230_2
       replace hx230_3:=(HB.out.cell (World.block_lt_of_cell? w _ hx230_3)).trans hx230_3
       have HR230_1:=Aside0.mk hi230_1
       have HC230_1:=Aside0.mk hl230_1
       clear hi230_1 hl230_1
       have HR230_2:=Aside0.mk hi230_2
       have HC230_2:=Aside0.mk hl230_2
       clear hi230_2 hl230_2
       have HR230_3:=Aside0.mk hi230_3
       have HC230_3:=Aside0.mk hl230_3
       clear hi230_3 hl230_3
       replace p230:=eq_true p230
       replace q230:=eq_true q230
       go_wp2_with (first|((with_reducible refine gate_dst (N:=4) rfl ?_);refine box_event ?hg (N:=4) ?hd (cs:=#[.int .i64 0,.slice none 0 0,.slice none 0 0,.slice none 0 0]) (t:=83) ?hr ?_;(case hd=>rfl);(case hg=>rfl);(case hr=>first|(go_simp;done)|(go_simp;rfl));intro gb231 hg w6 hbox hb;have n0_:=Aside0.mk (below_step (by repeat (first|(with_reducible first|exact HB.out|apply below_alloc|apply pw_below_drewN|apply below_drew1)|exact HB.out)) hb);have n1_:=Aside0.mk (hbox);have n2_:=Aside0.mk ((by rw [hg];exact (below_size (by repeat (first|(with_reducible first|exact HB.out|apply below_alloc|apply pw_below_drewN|apply below_drew1)|exact HB.out))):w.heap.size ≤ gb231));have n3_:=Aside0.mk ((by rw [hg];exact (below_size (by repeat (first|(with_reducible first|exact HB.out|apply below_alloc|apply pw_below_drewN|apply below_drew1)|exact HB.out))):w.heap.size ≤ gb231));clear HB;have HB:=n0_;have BK231:=n1_;have GW231:=n2_;have GE231:=n3_;clear n0_ n1_ n2_ n3_;clear hb hbox hg;have hcz7_0:w6.cell? ⟨gb231,0,none⟩ = some (.int .i64 0):=(blk_cell BK231.out 0).trans rfl;have hcz7_1:w6.cell? ⟨gb231,1,none⟩ = some (.slice none 0 0):=(blk_cell BK231.out 1).trans rfl;have hcz7_2:w6.cell? ⟨gb231,2,none⟩ = some (.slice none 0 0):=(blk_cell BK231.out 2).trans rfl;have hcz7_3:w6.cell? ⟨gb231,3,none⟩ = some (.slice none 0 0):=(blk_cell BK231.out 3).trans rfl;have hfz7_0:=blk_frozen BK231.out 0;have hfz7_1:=blk_frozen BK231.out 1;have hfz7_2:=blk_frozen BK231.out 2;have hfz7_3:=blk_frozen BK231.out 3))
       go_ret
       exact ⟨by first|rfl|(simp [errW_none,errW_some] <;> rfl)|(simp [*,errW_none,errW_some] <;> rfl),by repeat (first|(with_reducible first|exact HB.out|apply below_alloc|apply pw_below_drewN|apply below_drew1|refine below_set ?_ GE231.out)|exact HB.out)⟩
      ·rw [if_neg c5] at H
       have c5b0:((((rd_T83 l0 x7_1).f3).length:Int) == 0) = false:=beq_eq_false_iff_ne.mpr c5
       have c5b1:((((rd_T83 l0 x7_1).f3).length:Int) != 0) = true:=bne_iff_ne.mpr c5
       have c5b2:¬ (((rd_T83 l0 x7_1).f3) = []):=fun h_=>c5 (by rw [h_];rfl)
       have H':=Aside0.mk H
       clear H
       have p230:0 ≤ (x7_1:Int):=of_decide_eq_true (by first|(with_reducible assumption)|assumption)
       have q230:x7_1 < (l0.length:Int):=of_decide_eq_true (by first|(with_reducible assumption)|assumption)
       obtain ⟨ad230,A230_1,c230_1,A230_2,c230_2,A230_3,c230_3,e230,hx230_0,hx230_1,hx230_2,hx230_3,hl230_1,hi230_1,hl230_2,hi230_2,hl230_3,hi230_3⟩:=at_T83 HR0.out x7_1 p230 q230
       cases e230
       replace hx230_0:=(HB.out.cell (World.block_lt_of_cell? w _ hx230_0)).trans hx230_0
       replace hx230_1:=(HB.out.cell (World.block_lt_of_cell? w _ hx230_1)).trans hx230_1
       replace hx230_2:=(HB.out.cell (World.block_lt_of_cell? w _ hx230_2)).trans hx230_2
       replace hx230_3:=(HB.out.cell (World.block_lt_of_cell? w _ hx230_3)).trans hx230_3
       have HR230_1:=Aside0.mk hi230_1
       have HC230_1:=Aside0.mk hl230_1
       clear hi230_1 hl230_1
       have HR230_2:=Aside0.mk hi230_2
       have HC230_2:=Aside0.mk hl230_2
       clear hi230_2 hl230_2
       have HR230_3:=Aside0.mk hi230_3
       have HC230_3:=Aside0.mk hl230_3
       clear hi230_3 hl230_3
       replace p230:=eq_true p230
       replace q230:=eq_true q230
       go_wp2_with (first|((with_reducible refine gate_dst (N:=4) rfl ?_);refine box_event ?hg (N:=4) ?hd (cs:=#[.int .i64 0,.slice none 0 0,.slice none 0 0,.slice none 0 0]) (t:=83) ?hr ?_;(case hd=>rfl);(case hg=>rfl);(case hr=>first|(go_simp;done)|(go_simp;rfl));intro gb231 hg w8 hbox hb;have n0_:=Aside0.mk (below_step (by repeat (first|(with_reducible first|exact HB.out|apply below_alloc|apply pw_below_drewN|apply below_drew1)|exact HB.out)) hb);have n1_:=Aside0.mk (hbox);have n2_:=Aside0.mk ((by rw [hg];exact (below_size (by repeat (first|(with_reducible first|exact HB.out|apply below_alloc|apply pw_below_drewN|apply below_drew1)|exact HB.out))):w.heap.size ≤ gb231));have n3_:=Aside0.mk ((by rw [hg];exact (below_size (by repeat (first|(with_reducible first|exact HB.out|apply below_alloc|apply pw_below_drewN|apply below_drew1)|exact HB.out))):w.heap.size ≤ gb231));clear HB;have HB:=n0_;have BK231:=n1_;have GW231:=n2_;have GE231:=n3_;clear n0_ n1_ n2_ n3_;clear hb hbox hg;have hcz9_0:w8.cell? ⟨gb231,0,none⟩ = some (.int .i64 0):=(blk_cell BK231.out 0).trans rfl;have hcz9_1:w8.cell? ⟨gb231,1,none⟩ = some (.slice none 0 0):=(blk_cell BK231.out 1).trans rfl;have hcz9_2:w8.cell? ⟨gb231,2,none⟩ = some (.slice none 0 0):=(blk_cell BK231.out 2).trans rfl;have hcz9_3:w8.cell? ⟨gb231,3,none⟩ = some (.slice none 0 0):=(blk_cell BK231.out 3).trans rfl;have hfz9_0:=blk_frozen BK231.out 0;have hfz9_1:=blk_frozen BK231.out 1;have hfz9_2:=blk_frozen BK231.out 2;have hfz9_3:=blk_frozen BK231.out 3))
       go_roundg k1
       case measure=>have:=HK1.out;omega
       case rel=>exact ⟨(wrap64 (x7_1 + 1)),(by first|rfl|(simp;done)|(simp [*];done)),H',⟨by have:=HK1.out;omega⟩,⟨by repeat (first|(with_reducible first|exact HB.out|apply below_alloc|apply pw_below_drewN|apply below_drew1|refine below_set ?_ GE231.out)|exact HB.out)⟩⟩
     ·rw [if_neg c4] at H
      exact absurd H (by simp)
    ·rw [if_neg c3] at H
     exact absurd H (by simp)
   ·rw [if_neg c2] at H
    have c2b0:decide (x7_1 < (l0.length:Int)) = false:=decide_eq_false c2
    clear c2
    obtain rfl:=Option.some.inj H
    go_wp2
    go_ret
    exact ⟨by first|rfl|(simp [errW_none,errW_some] <;> rfl)|(simp [*,errW_none,errW_some] <;> rfl),by repeat (first|(with_reducible first|exact HB.out|apply below_alloc|apply pw_below_drewN|apply below_drew1)|exact HB.out)⟩

end Go.Proofs.Ytlgnanbnicmdaaa.QFnExactTrimSteps
