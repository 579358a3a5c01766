-- Written by this session's own program (wip/x/xprint.py, over the kit's printer); Lean checks it.
import Derived.Test.YtlgnanbnicmdaaaQFnExactSubsumesx0
import Derived.Test.YtlgnanbnicmdaaaQFnExactSubsumesx6
namespace Go.Proofs.Ytlgnanbnicmdaaa.QFnExactSubsumes
open Go.RowKit Go.Proofs.YtlgnanbnicmdaaaW.PrintWords Go.Proofs.YtlgnanbnicmdaaaW.PrintLast Go.Proofs.YtlgnanbnicmdaaaW.PrintMore
attribute [local go_sem] max2_int min2_int max_two min_two max_three min_three max_four min_four   -- for this text's walks alone
set_option linter.unusedVariables false
set_option linter.unusedSimpArgs false

/-! ### impl_Lit_side: function 125 -/
def impl_Lit_side.f (a0_0:Bool) (l0_1:List Int) (l0_2:List Int) (a1:Int):Option (List Int × List Int):=if a1 = 0 then (some (l0_1,l0_2)) else (some (l0_2,l0_1))
set_option maxHeartbeats 8000000 in
set_option maxRecDepth 100000 in
theorem impl_Lit_side.calls (a0_0:Bool) (P0_1_:Nat → Prop) (u9000_:Value) (l0_1:List Int) (P0_2_:Nat → Prop) (u9001_:Value) (l0_2:List Int) (a1:Int) (r1:List Int) (r2:List Int) (w0 w:World) (hB:Below w0.heap.size w0 w) (ho0_1:Kd.R (Kd.int .i64) 3 w w0.heap.size P0_1_ u9000_ l0_1) (hp0_1_0_2:∀ k_,P0_1_ k_ → ¬ P0_2_ k_) (ho0_2:Kd.R (Kd.int .i64) 3 w w0.heap.size P0_2_ u9001_ l0_2) (hp0_2_0_1:∀ k_,P0_2_ k_ → ¬ P0_1_ k_) (h:impl_Lit_side.f a0_0 l0_1 l0_2 a1 = some (r1,r2)) :
  Calls Try.prog 125 #[.agg #[.bool a0_0,u9000_,u9001_],.int .i64 a1] w fun e w'=>∃ v0_ v1_:Value,e = .returned (.tuple #[v0_,v1_]) ∧ Kd.R (Kd.int .i64) 3 w' w0.heap.size (fun k_=>((P0_1_ k_ ∨ P0_2_ k_) ∨ w.heap.size ≤ k_) ∧ some k_ ≠ (v1_:Value).ownBlock) v0_ r1 ∧ Kd.R (Kd.int .i64) 3 w' w0.heap.size (fun k_=>((P0_1_ k_ ∨ P0_2_ k_) ∨ w.heap.size ≤ k_) ∧ some k_ ≠ (v0_:Value).ownBlock) v1_ r2 ∧ Below w0.heap.size w0 w' ∧ Kept w w' (fun k_=>P0_1_ k_ ∨ P0_2_ k_):=by
 have hu72:=Try.underlying72
 have HO0_1:=Aside0.mk (show Kd.R (Kd.int .i64) 3 w w0.heap.size (fun k_=>((P0_1_ k_ ∨ P0_2_ k_) ∨ w.heap.size ≤ k_) ∧ some k_ ≠ (u9001_:Value).ownBlock) u9000_ l0_1 from Kd.R_mono ho0_1 (fun k_ hk=>⟨(.inl (.inl hk)),fun e_=>hp0_1_0_2 k_ hk (ho0_2.1 k_ e_.symm)⟩))
 have HO0_2:=Aside0.mk (show Kd.R (Kd.int .i64) 3 w w0.heap.size (fun k_=>((P0_1_ k_ ∨ P0_2_ k_) ∨ w.heap.size ≤ k_) ∧ some k_ ≠ (u9000_:Value).ownBlock) u9001_ l0_2 from Kd.R_mono ho0_2 (fun k_ hk=>⟨(.inl (.inr hk)),fun e_=>hp0_2_0_1 k_ hk (ho0_1.1 k_ e_.symm)⟩))
 have HK:=Aside0.mk (Kept.refl w (fun k_=>P0_1_ k_ ∨ P0_2_ k_))
 have HW0:=Aside0.mk hB.size
 have HB:=Aside0.mk hB
 clear hB
 have H:(if a1 = 0 then (some (l0_1,l0_2)) else (some (l0_2,l0_1))) = some (r1,r2):=h
 clear h
 by_cases c3:a1 = 0
 ·rw [if_pos c3] at H
  have c3b0:(a1 == 0) = true:=beq_iff_eq.mpr c3
  have c3b1:(a1 != 0) = false:=bne_eq_false_iff_eq.mpr c3
  clear c3
  simp only [Option.some.injEq,Prod.mk.injEq] at H
  obtain ⟨rfl,rfl⟩:=H
  obtain ⟨Ao4,co4,eo4⟩:=Kd.R_slice HO0_1.out
  subst eo4
  obtain ⟨Ao5,co5,eo5⟩:=Kd.R_slice HO0_2.out
  subst eo5
  go_enter Try.func125,Try.ntmps125
  go_wp2_with (first|((with_reducible refine gate_dst (N:=2) rfl ?_);refine box_event ?hg (N:=2) ?hd (cs:=#[.bool a0_0,.slice Ao4 l0_1.length co4,.slice Ao5 l0_2.length co5]) (t:=72) ?hr ?_;(case hd=>rfl);(case hg=>rfl);(case hr=>first|(go_simp;done)|(go_simp;rfl));intro gb231 hg w6 hbox hb;have n0_:=Aside0.mk (Kd.R_below (by (with_reducible repeat (first|apply Kd.R_alloc|apply Kd.R_drewN|apply Kd.R_drew));exact HO0_1.out) hb);have n1_:=Aside0.mk (Kd.R_below (by (with_reducible repeat (first|apply Kd.R_alloc|apply Kd.R_drewN|apply Kd.R_drew));exact HO0_2.out) hb);have n2_:=Aside0.mk (Kept.below (S:=(fun k_=>P0_1_ k_ ∨ P0_2_ k_)) (by repeat (first|(with_reducible first|exact HK.out|apply Kept.alloc|apply Kept.drewN|apply Kept.drew)|exact HK.out)) hb);have n3_:=Aside0.mk (below_step (by repeat (first|(with_reducible first|exact HB.out|apply below_alloc|apply pw_below_drewN|apply below_drew1)|exact HB.out)) hb);have n4_:=Aside0.mk (hbox);have n5_:=Aside0.mk ((by rw [hg];exact (by first|exact HK.out.1|exact (show Kept w _ (fun k_=>P0_1_ k_ ∨ P0_2_ k_) from by repeat (first|(with_reducible first|exact HK.out|apply Kept.alloc|apply Kept.drewN|apply Kept.drew)|exact HK.out)).1):w.heap.size ≤ gb231));have n6_:=Aside0.mk ((by rw [hg];exact (below_size (by repeat (first|(with_reducible first|exact HB.out|apply below_alloc|apply pw_below_drewN|apply below_drew1)|exact HB.out))):w0.heap.size ≤ gb231));clear HO0_1;clear HO0_2;clear HK;clear HB;have HO0_1:=n0_;have HO0_2:=n1_;have HK:=n2_;have HB:=n3_;have BK231:=n4_;have GW231:=n5_;have GE231:=n6_;clear n0_ n1_ n2_ n3_ n4_ n5_ n6_;clear hb hbox hg;have hcz7_0:w6.cell? ⟨gb231,0,none⟩ = some (.bool a0_0):=(blk_cell BK231.out 0).trans rfl;have hcz7_1:w6.cell? ⟨gb231,1,none⟩ = some (.slice Ao4 l0_1.length co4):=(blk_cell BK231.out 1).trans rfl;have hcz7_2:w6.cell? ⟨gb231,2,none⟩ = some (.slice Ao5 l0_2.length co5):=(blk_cell BK231.out 2).trans rfl;have hfz7_0:=blk_frozen BK231.out 0;have hfz7_1:=blk_frozen BK231.out 1;have hfz7_2:=blk_frozen BK231.out 2))
  repeat (go_quiet (first|((with_reducible refine gate_dst (N:=2) rfl ?_);refine box_event ?hg (N:=2) ?hd (cs:=#[.bool a0_0,.slice Ao4 l0_1.length co4,.slice Ao5 l0_2.length co5]) (t:=72) ?hr ?_;(case hd=>rfl);(case hg=>rfl);(case hr=>first|(go_simp;done)|(go_simp;rfl));intro gb231 hg w6 hbox hb;have n0_:=Aside0.mk (Kd.R_below (by (with_reducible repeat (first|apply Kd.R_alloc|apply Kd.R_drewN|apply Kd.R_drew));exact HO0_1.out) hb);have n1_:=Aside0.mk (Kd.R_below (by (with_reducible repeat (first|apply Kd.R_alloc|apply Kd.R_drewN|apply Kd.R_drew));exact HO0_2.out) hb);have n2_:=Aside0.mk (Kept.below (S:=(fun k_=>P0_1_ k_ ∨ P0_2_ k_)) (by repeat (first|(with_reducible first|exact HK.out|apply Kept.alloc|apply Kept.drewN|apply Kept.drew)|exact HK.out)) hb);have n3_:=Aside0.mk (below_step (by repeat (first|(with_reducible first|exact HB.out|apply below_alloc|apply pw_below_drewN|apply below_drew1)|exact HB.out)) hb);have n4_:=Aside0.mk (hbox);have n5_:=Aside0.mk ((by rw [hg];exact (by first|exact HK.out.1|exact (show Kept w _ (fun k_=>P0_1_ k_ ∨ P0_2_ k_) from by repeat (first|(with_reducible first|exact HK.out|apply Kept.alloc|apply Kept.drewN|apply Kept.drew)|exact HK.out)).1):w.heap.size ≤ gb231));have n6_:=Aside0.mk ((by rw [hg];exact (below_size (by repeat (first|(with_reducible first|exact HB.out|apply below_alloc|apply pw_below_drewN|apply below_drew1)|exact HB.out))):w0.heap.size ≤ gb231));clear HO0_1;clear HO0_2;clear HK;clear HB;have HO0_1:=n0_;have HO0_2:=n1_;have HK:=n2_;have HB:=n3_;have BK231:=n4_;have GW231:=n5_;have GE231:=n6_;clear n0_ n1_ n2_ n3_ n4_ n5_ n6_;clear hb hbox hg;have hcz7_0:w6.cell? ⟨gb231,0,none⟩ = some (.bool a0_0):=(blk_cell BK231.out 0).trans rfl;have hcz7_1:w6.cell? ⟨gb231,1,none⟩ = some (.slice Ao4 l0_1.length co4):=(blk_cell BK231.out 1).trans rfl;have hcz7_2:w6.cell? ⟨gb231,2,none⟩ = some (.slice Ao5 l0_2.length co5):=(blk_cell BK231.out 2).trans rfl;have hfz7_0:=blk_frozen BK231.out 0;have hfz7_1:=blk_frozen BK231.out 1;have hfz7_2:=blk_frozen BK231.out 2));try go_wp2_with (first|((with_reducible refine gate_dst (N:=2) rfl ?_);refine box_event ?hg (N:=2) ?hd (cs:=#[.bool a0_0,.slice Ao4 l0_1.length co4,.slice Ao5 l0_2.length co5]) (t:=72) ?hr ?_;(case hd=>rfl);(case hg=>rfl);(case hr=>first|(go_simp;done)|(go_simp;rfl));intro gb231 hg w6 hbox hb;have n0_:=Aside0.mk (Kd.R_below (by (with_reducible repeat (first|apply Kd.R_alloc|apply Kd.R_drewN|apply Kd.R_drew));exact HO0_1.out) hb);have n1_:=Aside0.mk (Kd.R_below (by (with_reducible repeat (first|apply Kd.R_alloc|apply Kd.R_drewN|apply Kd.R_drew));exact HO0_2.out) hb);have n2_:=Aside0.mk (Kept.below (S:=(fun k_=>P0_1_ k_ ∨ P0_2_ k_)) (by repeat (first|(with_reducible first|exact HK.out|apply Kept.alloc|apply Kept.drewN|apply Kept.drew)|exact HK.out)) hb);have n3_:=Aside0.mk (below_step (by repeat (first|(with_reducible first|exact HB.out|apply below_alloc|apply pw_below_drewN|apply below_drew1)|exact HB.out)) hb);have n4_:=Aside0.mk (hbox);have n5_:=Aside0.mk ((by rw [hg];exact (by first|exact HK.out.1|exact (show Kept w _ (fun k_=>P0_1_ k_ ∨ P0_2_ k_) from by repeat (first|(with_reducible first|exact HK.out|apply Kept.alloc|apply Kept.drewN|apply Kept.drew)|exact HK.out)).1):w.heap.size ≤ gb231));have n6_:=Aside0.mk ((by rw [hg];exact (below_size (by repeat (first|(with_reducible first|exact HB.out|apply below_alloc|apply pw_below_drewN|apply below_drew1)|exact HB.out))):w0.heap.size ≤ gb231));clear HO0_1;clear HO0_2;clear HK;clear HB;have HO0_1:=n0_;have HO0_2:=n1_;have HK:=n2_;have HB:=n3_;have BK231:=n4_;have GW231:=n5_;have GE231:=n6_;clear n0_ n1_ n2_ n3_ n4_ n5_ n6_;clear hb hbox hg;have hcz7_0:w6.cell? ⟨gb231,0,none⟩ = some (.bool a0_0):=(blk_cell BK231.out 0).trans rfl;have hcz7_1:w6.cell? ⟨gb231,1,none⟩ = some (.slice Ao4 l0_1.length co4):=(blk_cell BK231.out 1).trans rfl;have hcz7_2:w6.cell? ⟨gb231,2,none⟩ = some (.slice Ao5 l0_2.length co5):=(blk_cell BK231.out 2).trans rfl;have hfz7_0:=blk_frozen BK231.out 0;have hfz7_1:=blk_frozen BK231.out 1;have hfz7_2:=blk_frozen BK231.out 2)))
  go_ret2
  exact ⟨_,_,by first|rfl|(simp [errW_none,errW_some] <;> rfl)|(simp [*,errW_none,errW_some] <;> rfl),by (with_reducible repeat (first|apply Kd.R_alloc|apply Kd.R_drewN|apply Kd.R_drew));exact HO0_1.out,by (with_reducible repeat (first|apply Kd.R_alloc|apply Kd.R_drewN|apply Kd.R_drew));exact HO0_2.out,by repeat (first|(with_reducible first|exact HB.out|apply below_alloc|apply pw_below_drewN|apply below_drew1|refine below_set ?_ GE231.out)|exact HB.out),by repeat (first|(with_reducible first|exact HK.out|apply Kept.alloc|apply Kept.drewN|apply Kept.drew|refine Kept.setCell ?_ (.inr GW231.out) _)|exact HK.out)⟩
 ·rw [if_neg c3] at H
  have c3b0:(a1 == 0) = false:=beq_eq_false_iff_ne.mpr c3
  have c3b1:(a1 != 0) = true:=bne_iff_ne.mpr c3
  simp only [Option.some.injEq,Prod.mk.injEq] at H
  obtain ⟨rfl,rfl⟩:=H
  obtain ⟨Ao8,co8,eo8⟩:=Kd.R_slice HO0_1.out
  subst eo8
  obtain ⟨Ao9,co9,eo9⟩:=Kd.R_slice HO0_2.out
  subst eo9
  go_enter Try.func125,Try.ntmps125
  go_wp2_with (first|((with_reducible refine gate_dst (N:=2) rfl ?_);refine box_event ?hg (N:=2) ?hd (cs:=#[.bool a0_0,.slice Ao8 l0_1.length co8,.slice Ao9 l0_2.length co9]) (t:=72) ?hr ?_;(case hd=>rfl);(case hg=>rfl);(case hr=>first|(go_simp;done)|(go_simp;rfl));intro gb231 hg w10 hbox hb;have n0_:=Aside0.mk (Kd.R_below (by (with_reducible repeat (first|apply Kd.R_alloc|apply Kd.R_drewN|apply Kd.R_drew));exact HO0_1.out) hb);have n1_:=Aside0.mk (Kd.R_below (by (with_reducible repeat (first|apply Kd.R_alloc|apply Kd.R_drewN|apply Kd.R_drew));exact HO0_2.out) hb);have n2_:=Aside0.mk (Kept.below (S:=(fun k_=>P0_1_ k_ ∨ P0_2_ k_)) (by repeat (first|(with_reducible first|exact HK.out|apply Kept.alloc|apply Kept.drewN|apply Kept.drew)|exact HK.out)) hb);have n3_:=Aside0.mk (below_step (by repeat (first|(with_reducible first|exact HB.out|apply below_alloc|apply pw_below_drewN|apply below_drew1)|exact HB.out)) hb);have n4_:=Aside0.mk (hbox);have n5_:=Aside0.mk ((by rw [hg];exact (by first|exact HK.out.1|exact (show Kept w _ (fun k_=>P0_1_ k_ ∨ P0_2_ k_) from by repeat (first|(with_reducible first|exact HK.out|apply Kept.alloc|apply Kept.drewN|apply Kept.drew)|exact HK.out)).1):w.heap.size ≤ gb231));have n6_:=Aside0.mk ((by rw [hg];exact (below_size (by repeat (first|(with_reducible first|exact HB.out|apply below_alloc|apply pw_below_drewN|apply below_drew1)|exact HB.out))):w0.heap.size ≤ gb231));clear HO0_1;clear HO0_2;clear HK;clear HB;have HO0_1:=n0_;have HO0_2:=n1_;have HK:=n2_;have HB:=n3_;have BK231:=n4_;have GW231:=n5_;have GE231:=n6_;clear n0_ n1_ n2_ n3_ n4_ n5_ n6_;clear hb hbox hg;have hcz11_0:w10.cell? ⟨gb231,0,none⟩ = some (.bool a0_0):=(blk_cell BK231.out 0).trans rfl;have hcz11_1:w10.cell? ⟨gb231,1,none⟩ = some (.slice Ao8 l0_1.length co8):=(blk_cell BK231.out 1).trans rfl;have hcz11_2:w10.cell? ⟨gb231,2,none⟩ = some (.slice Ao9 l0_2.length co9):=(blk_cell BK231.out 2).trans rfl;have hfz11_0:=blk_frozen BK231.out 0;have hfz11_1:=blk_frozen BK231.out 1;have hfz11_2:=blk_frozen BK231.out 2))
  repeat (go_quiet (first|((with_reducible refine gate_dst (N:=2) rfl ?_);refine box_event ?hg (N:=2) ?hd (cs:=#[.bool a0_0,.slice Ao8 l0_1.length co8,.slice Ao9 l0_2.length co9]) (t:=72) ?hr ?_;(case hd=>rfl);(case hg=>rfl);(case hr=>first|(go_simp;done)|(go_simp;rfl));intro gb231 hg w10 hbox hb;have n0_:=Aside0.mk (Kd.R_below (by (with_reducible repeat (first|apply Kd.R_alloc|apply Kd.R_drewN|apply Kd.R_drew));exact HO0_1.out) hb);have n1_:=Aside0.mk (Kd.R_below (by (with_reducible repeat (first|apply Kd.R_alloc|apply Kd.R_drewN|apply Kd.R_drew));exact HO0_2.out) hb);have n2_:=Aside0.mk (Kept.below (S:=(fun k_=>P0_1_ k_ ∨ P0_2_ k_)) (by repeat (first|(with_reducible first|exact HK.out|apply Kept.alloc|apply Kept.drewN|apply Kept.drew)|exact HK.out)) hb);have n3_:=Aside0.mk (below_step (by repeat (first|(with_reducible first|exact HB.out|apply below_alloc|apply pw_below_drewN|apply below_drew1)|exact HB.out)) hb);have n4_:=Aside0.mk (hbox);have n5_:=Aside0.mk ((by rw [hg];exact (by first|exact HK.out.1|exact (show Kept w _ (fun k_=>P0_1_ k_ ∨ P0_2_ k_) from by repeat (first|(with_reducible first|exact HK.out|apply Kept.alloc|apply Kept.drewN|apply Kept.drew)|exact HK.out)).1):w.heap.size ≤ gb231));have n6_:=Aside0.mk ((by rw [hg];exact (below_size (by repeat (first|(with_reducible first|exact HB.out|apply below_alloc|apply pw_below_drewN|apply below_drew1)|exact HB.out))):w0.heap.size ≤ gb231));clear HO0_1;clear HO0_2;clear HK;clear HB;have HO0_1:=n0_;have HO0_2:=n1_;have HK:=n2_;have HB:=n3_;have BK231:=n4_;have GW231:=n5_;have GE231:=n6_;clear n0_ n1_ n2_ n3_ n4_ n5_ n6_;clear hb hbox hg;have hcz11_0:w10.cell? ⟨gb231,0,none⟩ = some (.bool a0_0):=(blk_cell BK231.out 0).trans rfl;have hcz11_1:w10.cell? ⟨gb231,1,none⟩ = some (.slice Ao8 l0_1.length co8):=(blk_cell BK231.out 1).trans rfl;have hcz11_2:w10.cell? ⟨gb231,2,none⟩ = some (.slice Ao9 l0_2.length co9):=(blk_cell BK231.out 2).trans rfl;have hfz11_0:=blk_frozen BK231.out 0;have hfz11_1:=blk_frozen BK231.out 1;have hfz11_2:=blk_frozen BK231.out 2));try go_wp2_with (first|((with_reducible refine gate_dst (N:=2) rfl ?_);refine box_event ?hg (N:=2) ?hd (cs:=#[.bool a0_0,.slice Ao8 l0_1.length co8,.slice Ao9 l0_2.length co9]) (t:=72) ?hr ?_;(case hd=>rfl);(case hg=>rfl);(case hr=>first|(go_simp;done)|(go_simp;rfl));intro gb231 hg w10 hbox hb;have n0_:=Aside0.mk (Kd.R_below (by (with_reducible repeat (first|apply Kd.R_alloc|apply Kd.R_drewN|apply Kd.R_drew));exact HO0_1.out) hb);have n1_:=Aside0.mk (Kd.R_below (by (with_reducible repeat (first|apply Kd.R_alloc|apply Kd.R_drewN|apply Kd.R_drew));exact HO0_2.out) hb);have n2_:=Aside0.mk (Kept.below (S:=(fun k_=>P0_1_ k_ ∨ P0_2_ k_)) (by repeat (first|(with_reducible first|exact HK.out|apply Kept.alloc|apply Kept.drewN|apply Kept.drew)|exact HK.out)) hb);have n3_:=Aside0.mk (below_step (by repeat (first|(with_reducible first|exact HB.out|apply below_alloc|apply pw_below_drewN|apply below_drew1)|exact HB.out)) hb);have n4_:=Aside0.mk (hbox);have n5_:=Aside0.mk ((by rw [hg];exact (by first|exact HK.out.1|exact (show Kept w _ (fun k_=>P0_1_ k_ ∨ P0_2_ k_) from by repeat (first|(with_reducible first|exact HK.out|apply Kept.alloc|apply Kept.drewN|apply Kept.drew)|exact HK.out)).1):w.heap.size ≤ gb231));have n6_:=Aside0.mk ((by rw [hg];exact (below_size (by repeat (first|(with_reducible first|exact HB.out|apply below_alloc|apply pw_below_drewN|apply below_drew1)|exact HB.out))):w0.heap.size ≤ gb231));clear HO0_1;clear HO0_2;clear HK;clear HB;have HO0_1:=n0_;have HO0_2:=n1_;have HK:=n2_;have HB:=n3_;have BK231:=n4_;have GW231:=n5_;have GE231:=n6_;clear n0_ n1_ n2_ n3_ n4_ n5_ n6_;clear hb hbox hg;have hcz11_0:w10.cell? ⟨gb231,0,none⟩ = some (.bool a0_0):=(blk_cell BK231.out 0).trans rfl;have hcz11_1:w10.cell? ⟨gb231,1,none⟩ = some (.slice Ao8 l0_1.length co8):=(blk_cell BK231.out 1).trans rfl;have hcz11_2:w10.cell? ⟨gb231,2,none⟩ = some (.slice Ao9 l0_2.length co9):=(blk_cell BK231.out 2).trans rfl;have hfz11_0:=blk_frozen BK231.out 0;have hfz11_1:=blk_frozen BK231.out 1;have hfz11_2:=blk_frozen BK231.out 2)))
  go_ret2
  exact ⟨_,_,by first|rfl|(simp [errW_none,errW_some] <;> rfl)|(simp [*,errW_none,errW_some] <;> rfl),by (with_reducible repeat (first|apply Kd.R_alloc|apply Kd.R_drewN|apply Kd.R_drew));exact HO0_2.out,by (with_reducible repeat (first|apply Kd.R_alloc|apply Kd.R_drewN|apply Kd.R_drew));exact HO0_1.out,by repeat (first|(with_reducible first|exact HB.out|apply below_alloc|apply pw_below_drewN|apply below_drew1|refine below_set ?_ GE231.out)|exact HB.out),by repeat (first|(with_reducible first|exact HK.out|apply Kept.alloc|apply Kept.drewN|apply Kept.drew|refine Kept.setCell ?_ (.inr GW231.out) _)|exact HK.out)⟩

/-! ### slices_Clone_int_int_78: function 78, by the kit's own contract -/
open Go.Shelf in
shelf_lay Lays2.n15 Nm2 15 at Try as Try.laysCloneLays2n15
theorem Try.flaysCloneLays2n15:Try.laysCloneLays2n15_ren.f 15 = 78:=by kernel_rfl
theorem Try.tlaysCloneLays2n15:Try.laysCloneLays2n15_ren.t 3 = 3:=by kernel_rfl
def slices_Clone_int_int_78.f (l0:List Int):Option (List Int):=if l0.length ≤ 17592186044416 then some l0 else none
theorem slices_Clone_int_int_78.calls (A0:Option Addr) (c0:Nat) (l0:List Int) (r:List Int) (w:World) (hr0:Kd.C (Kd.int .i64) w A0 l0.length l0) (hc0:l0.length ≤ c0) (h:slices_Clone_int_int_78.f l0 = some r) :
    Calls Try.prog 78 #[.slice A0 l0.length c0] w fun e w'=>∃ v0_:Value,e = .returned (v0_) ∧ Kd.R (Kd.int .i64) 3 w' w.heap.size (fun _=>True) v0_ r ∧ Below w.heap.size w w':=by
  unfold slices_Clone_int_int_78.f at h
  split at h
  · rename_i hn
    obtain rfl:=Option.some.inj h
    have hR:ReadsOf (Value.int .i64) 0 w A0 l0.length l0:=Kd.reads_of_C hr0
    rcases A0 with _|⟨b,off,sp⟩
    · have h0:l0 = []:=by
        rcases Nat.eq_zero_or_pos l0.length with h|h
        · exact List.eq_nil_of_length_eq_zero h
        · obtain ⟨ad,e,_⟩:=hR.2.2 h
          cases e
      subst h0
      have h':=Any.slices_Clone_int_nil Try.laysCloneLays2n15 0 c0 w
      rw [Try.flaysCloneLays2n15] at h'
      exact h'.mono fun e w' ⟨he,hw⟩=>⟨_,he,Kd.R_nil _ _ _ _ _,hw ▸ Below.refl _ _⟩
    · rcases Nat.eq_zero_or_pos l0.length with h0|h0
      · obtain rfl:l0 = []:=List.eq_nil_of_length_eq_zero h0
        have h':=Any.slices_Clone_int_zero Try.laysCloneLays2n15 ⟨b,off,sp⟩ c0 w
        rw [Try.flaysCloneLays2n15,Try.tlaysCloneLays2n15] at h'
        exact h'.mono fun e w' ⟨v,he,ho,_,hb⟩=>⟨v,he,Kd.R_of_own (enc:=(Value.int .i64)) (h1:=fun _=>rfl) ho (fun _ _=>trivial),hb⟩
      · obtain ⟨ad,e,hc⟩:=hR.2.2 h0
        injection e with e
        subst e
        have hsp:sp = none:=by
          have h1:=hc 0 h0
          cases sp with
          | none=>rfl
          | some x=>simp [Addr.add,World.cell?] at h1;split at h1 <;> simp at h1
        subst hsp
        have h':=Any.slices_Clone_int Try.laysCloneLays2n15 b off l0.length c0 l0 w (Nat.le_refl _) (by omega) (fun j hj=>(Addr.add_lit b off j) ▸ hc j hj)
        rw [Try.flaysCloneLays2n15,Try.tlaysCloneLays2n15,List.take_length] at h'
        exact h'.mono fun e w' ⟨v,he,ho,_,hb⟩=>⟨v,he,Kd.R_of_own (enc:=(Value.int .i64)) (h1:=fun _=>rfl) ho (fun _ _=>trivial),hb⟩
  · simp at h

/-! ### slices_Equal_int_int: function 116 -/
def slices_Equal_int_int.l0:Nat → List Int → List Int → Int → Int → Option (Bool)
 | 0,_,_,_,_=>none
 | k + 1,x0,x1,x12,x13=>if x13 < x12 then (if 0 ≤ x13 then (if x13 < (x0.length:Int) then (if x13 < (x1.length:Int) then (if (rd x0 x13) = (rd x1 x13) then (slices_Equal_int_int.l0 k x0 x1 x12 (wrap64 (x13 + 1))) else (some false)) else (none)) else (none)) else (none)) else (some true)
def slices_Equal_int_int.f (k:Nat) (l0:List Int) (l1:List Int):Option (Bool):=if (l0.length:Int) = (l1.length:Int) then (slices_Equal_int_int.l0 k l0 l1 (l0.length:Int) 0) else (some false)
theorem slices_Equal_int_int.mono_l:∀ k,(∀ y0 y1 y2 y3,LeO (slices_Equal_int_int.l0 k y0 y1 y2 y3) (slices_Equal_int_int.l0 (k + 1) y0 y1 y2 y3))
 | 0=>fun _ _ _ _ r h=>by simp [slices_Equal_int_int.l0] at h
 | k + 1=>by
  have ih0:=slices_Equal_int_int.mono_l k
  ·intro y0 y1 y2 y3
   unfold slices_Equal_int_int.l0
   repeat' first
   | (with_reducible exact ih0 _ _ _ _)
   | (with_reducible exact LeO.refl _)
   | (with_reducible exact LeO.none _)
   | (with_reducible refine LeO.ite ?_ ?_)
   | (with_reducible refine LeO.bind ?_ (fun _=>?_))
   | exact ih0 _ _ _ _
   | exact LeO.none _
   | refine LeO.ite ?_ ?_
   | refine LeO.bind ?_ (fun _=>?_)
theorem slices_Equal_int_int.mono:∀ a0 a1 k,LeO (slices_Equal_int_int.f k a0 a1) (slices_Equal_int_int.f (k + 1) a0 a1):=by
 intro a0 a1 k
 have ih0:=slices_Equal_int_int.mono_l k
 unfold slices_Equal_int_int.f
 repeat' first
   | (with_reducible exact ih0 _ _ _ _)
   | (with_reducible exact LeO.refl _)
   | (with_reducible exact LeO.none _)
   | (with_reducible refine LeO.ite ?_ ?_)
   | (with_reducible refine LeO.bind ?_ (fun _=>?_))
   | exact ih0 _ _ _ _
   | exact LeO.none _
   | refine LeO.ite ?_ ?_
   | refine LeO.bind ?_ (fun _=>?_)
set_option maxHeartbeats 8000000 in
set_option maxRecDepth 100000 in
theorem slices_Equal_int_int.calls (k:Nat) (A0:Option Addr) (c0:Nat) (l0:List Int) (A1:Option Addr) (c1:Nat) (l1:List Int) (r:Bool) (w:World) (hr0:Kd.C (Kd.int .i64) w A0 l0.length l0) (hc0:l0.length ≤ c0) (hr1:Kd.C (Kd.int .i64) w A1 l1.length l1) (hc1:l1.length ≤ c1) (h:slices_Equal_int_int.f k l0 l1 = some r) :
  Calls Try.prog 116 #[.slice A0 l0.length c0,.slice A1 l1.length c1] w fun e w'=>e = .returned (.bool r) ∧ Drawn0 w w':=by
 have HR0:=Aside0.mk hr0
 have HC0:=Aside0.mk hc0
 clear hr0 hc0
 have HR1:=Aside0.mk hr1
 have HC1:=Aside0.mk hc1
 clear hr1 hc1
 have H:(if (l0.length:Int) = (l1.length:Int) then (slices_Equal_int_int.l0 k l0 l1 (l0.length:Int) 0) else (some false)) = some r:=h
 clear h
 by_cases c3:(l0.length:Int) = (l1.length:Int)
 ·rw [if_pos c3] at H
  have c3b0:((l0.length:Int) == (l1.length:Int)) = true:=beq_iff_eq.mpr c3
  have c3b1:((l0.length:Int) != (l1.length:Int)) = false:=bne_eq_false_iff_eq.mpr c3
  have c3b2:(l0.length == l1.length) = true:=by first|simpa using c3|(simp at c3 ⊢;omega)
  clear c3
  have H':=Aside0.mk H
  clear H
  go_enter Try.func116,Try.ntmps116
  go_wp2
  repeat (go_quiet (fail);try go_wp2)
  go_loopg [13] k (fun kq v13 w'=>∃ (x13_1:Int),v13 = .int .i64 x13_1 ∧ Aside0 (slices_Equal_int_int.l0 kq l0 l1 (l0.length:Int) x13_1 = some r) ∧ Aside0 (kq ≤ k) ∧ Drawn0 w w')
  case atStart=>exact ⟨(0),(by first|rfl|(simp;done)|(simp [*];done)),H',⟨Nat.le_refl _⟩,by repeat (first|exact Drawn0.refl _|apply Drawn0.step)⟩
  case round =>
   clear H'
   try clear c1
   try clear p2
   try clear c3
   try clear c3b0
   try clear c3b1
   try clear c3b2
   obtain ⟨x13_1,rfl,HA,HK1,⟨m1,rfl⟩⟩:=hrel
   cases gk with
   | zero=>exact absurd HA.out (by simp [slices_Equal_int_int.l0])
   | succ k1 =>
    have H:=HA.out
    clear HA
    simp only [slices_Equal_int_int.l0] at H
    by_cases c4:x13_1 < (l0.length:Int)
    ·rw [if_pos c4] at H
     have c4b0:decide (x13_1 < (l0.length:Int)) = true:=decide_eq_true c4
     clear c4
     by_cases c5:0 ≤ x13_1
     ·rw [if_pos c5] at H
      have c5b0:decide (0 ≤ x13_1) = true:=decide_eq_true c5
      clear c5
      by_cases c6:x13_1 < (l0.length:Int)
      ·rw [if_pos c6] at H
       have c6b0:decide (x13_1 < (l0.length:Int)) = true:=decide_eq_true c6
       clear c6
       by_cases c7:x13_1 < (l1.length:Int)
       ·rw [if_pos c7] at H
        have c7b0:decide (x13_1 < (l1.length:Int)) = true:=decide_eq_true c7
        clear c7
        by_cases c8:(rd l0 x13_1) = (rd l1 x13_1)
        ·rw [if_pos c8] at H
         have c8b0:((rd l0 x13_1) == (rd l1 x13_1)) = true:=beq_iff_eq.mpr c8
         have c8b1:((rd l0 x13_1) != (rd l1 x13_1)) = false:=bne_eq_false_iff_eq.mpr c8
         clear c8
         have H':=Aside0.mk H
         clear H
         have p232:0 ≤ (x13_1:Int):=of_decide_eq_true (by first|(with_reducible assumption)|assumption)
         have q232:x13_1 < (l0.length:Int):=of_decide_eq_true (by first|(with_reducible assumption)|assumption)
         obtain ⟨ad232,e232,hx232_0⟩:=Kd.at_int HR0.out x13_1 p232 q232
         cases e232
         replace p232:=eq_true p232
         replace q232:=eq_true q232
         have p233:0 ≤ (x13_1:Int):=of_decide_eq_true (by first|(with_reducible assumption)|assumption)
         have q233:x13_1 < (l1.length:Int):=of_decide_eq_true (by first|(with_reducible assumption)|assumption)
         obtain ⟨ad233,e233,hx233_0⟩:=Kd.at_int HR1.out x13_1 p233 q233
         cases e233
         replace p233:=eq_true p233
         replace q233:=eq_true q233
         go_wp2
         repeat (go_quiet (fail);try go_wp2)
         go_roundg k1
         case measure=>have:=HK1.out;omega
         case rel=>exact ⟨(wrap64 (x13_1 + 1)),(by first|rfl|(simp;done)|(simp [*];done)),H',⟨by have:=HK1.out;omega⟩,by repeat (first|exact Drawn0.refl _|apply Drawn0.step)⟩
        ·rw [if_neg c8] at H
         have c8b0:((rd l0 x13_1) == (rd l1 x13_1)) = false:=beq_eq_false_iff_ne.mpr c8
         have c8b1:((rd l0 x13_1) != (rd l1 x13_1)) = true:=bne_iff_ne.mpr c8
         obtain rfl:=Option.some.inj H
         have p232:0 ≤ (x13_1:Int):=of_decide_eq_true (by first|(with_reducible assumption)|assumption)
         have q232:x13_1 < (l0.length:Int):=of_decide_eq_true (by first|(with_reducible assumption)|assumption)
         obtain ⟨ad232,e232,hx232_0⟩:=Kd.at_int HR0.out x13_1 p232 q232
         cases e232
         replace p232:=eq_true p232
         replace q232:=eq_true q232
         have p233:0 ≤ (x13_1:Int):=of_decide_eq_true (by first|(with_reducible assumption)|assumption)
         have q233:x13_1 < (l1.length:Int):=of_decide_eq_true (by first|(with_reducible assumption)|assumption)
         obtain ⟨ad233,e233,hx233_0⟩:=Kd.at_int HR1.out x13_1 p233 q233
         cases e233
         replace p233:=eq_true p233
         replace q233:=eq_true q233
         go_wp2
         repeat (go_quiet (fail);try go_wp2)
         go_ret
         exact ⟨by first|rfl|(simp;done)|(simp [*];done),by repeat (first|exact Drawn0.refl _|apply Drawn0.step)⟩
       ·rw [if_neg c7] at H
        exact absurd H (by simp)
      ·rw [if_neg c6] at H
       exact absurd H (by simp)
     ·rw [if_neg c5] at H
      exact absurd H (by simp)
    ·rw [if_neg c4] at H
     have c4b0:decide (x13_1 < (l0.length:Int)) = false:=decide_eq_false c4
     clear c4
     obtain rfl:=Option.some.inj H
     go_wp2
     repeat (go_quiet (fail);try go_wp2)
     go_ret
     exact ⟨by first|rfl|(simp;done)|(simp [*];done),by repeat (first|exact Drawn0.refl _|apply Drawn0.step)⟩
 ·rw [if_neg c3] at H
  have c3b0:((l0.length:Int) == (l1.length:Int)) = false:=beq_eq_false_iff_ne.mpr c3
  have c3b1:((l0.length:Int) != (l1.length:Int)) = true:=bne_iff_ne.mpr c3
  have c3b2:(l0.length == l1.length) = false:=by first|simpa using c3|(simp at c3 ⊢;omega)
  obtain rfl:=Option.some.inj H
  go_enter Try.func116,Try.ntmps116
  go_wp2
  repeat (go_quiet (fail);try go_wp2)
  go_ret
  exact ⟨by first|rfl|(simp;done)|(simp [*];done),by repeat (first|exact Drawn0.refl _|apply Drawn0.step)⟩

/-! ### impl_Sign_end: function 137 -/
def impl_Sign_end.l0:Nat → List Int → Int → Int → List Int → Option (Int)
 | 0,_,_,_,_=>none
 | k + 1,x1,x2,x7,x235000=>if x7 > 0 then (if 0 ≤ x2 then (if x2 < (x1.length:Int) then ((impl_Sign_args.f x235000 (rd x1 x2)).bind fun t236=>(impl_Sign_end.l0 k x1 (wrap64 (x2 + 1)) (wrap64 (x7 + (wrap64 (t236 - 1)))) x235000)) else (none)) else (none)) else (some x2)
def impl_Sign_end.f (k:Nat) (l0_0:List Int) (l1:List Int) (a2:Int):Option (Int):=impl_Sign_end.l0 k l1 a2 1 l0_0
theorem impl_Sign_end.mono_l:∀ k,(∀ y0 y1 y2 y3,LeO (impl_Sign_end.l0 k y0 y1 y2 y3) (impl_Sign_end.l0 (k + 1) y0 y1 y2 y3))
 | 0=>fun _ _ _ _ r h=>by simp [impl_Sign_end.l0] at h
 | k + 1=>by
  have ih0:=impl_Sign_end.mono_l k
  ·intro y0 y1 y2 y3
   unfold impl_Sign_end.l0
   repeat' first
   | (with_reducible exact ih0 _ _ _ _)
   | (with_reducible exact LeO.refl _)
   | (with_reducible exact LeO.none _)
   | (with_reducible refine LeO.ite ?_ ?_)
   | (with_reducible refine LeO.bind ?_ (fun _=>?_))
   | exact ih0 _ _ _ _
   | exact LeO.none _
   | refine LeO.ite ?_ ?_
   | refine LeO.bind ?_ (fun _=>?_)
theorem impl_Sign_end.mono:∀ a0 a1 a2 k,LeO (impl_Sign_end.f k a0 a1 a2) (impl_Sign_end.f (k + 1) a0 a1 a2):=by
 intro a0 a1 a2 k
 have ih0:=impl_Sign_end.mono_l k
 unfold impl_Sign_end.f
 repeat' first
   | (with_reducible exact ih0 _ _ _ _)
   | (with_reducible exact LeO.refl _)
   | (with_reducible exact LeO.none _)
   | (with_reducible refine LeO.ite ?_ ?_)
   | (with_reducible refine LeO.bind ?_ (fun _=>?_))
   | exact ih0 _ _ _ _
   | exact LeO.none _
   | refine LeO.ite ?_ ?_
   | refine LeO.bind ?_ (fun _=>?_)
def impl_Sign_end.T4:Bool × List (List Nat × List Nat):=(true,[([],[]),([],[]),([],[]),([],[]),([2,3],[2,3]),([4],[4]),([1,5],[1,5]),([6],[6]),([0,7],[0,7]),([8,6,0,1,2,3,4,5,6,7,8],[0,8])])
def impl_Sign_end.B4:List Nat:=[0,0,0,0,12,28,62,126,255,511]
theorem impl_Sign_end.tab4:rtab .any (opsOf Try.f137 4) = impl_Sign_end.T4:=by kernel_rfl
theorem impl_Sign_end.bits4:waitsOk impl_Sign_end.T4.2 impl_Sign_end.B4 = true:=by kernel_rfl
set_option maxHeartbeats 8000000 in
set_option maxRecDepth 100000 in
theorem impl_Sign_end.calls (k:Nat) (A0_0:Option Addr) (c0_0:Nat) (l0_0:List Int) (A1:Option Addr) (c1:Nat) (l1:List Int) (a2:Int) (r:Int) (w:World) (hr0_0:Kd.C (Kd.int .i64) w A0_0 l0_0.length l0_0) (hc0_0:l0_0.length ≤ c0_0) (hr1:Kd.C (Kd.int .i64) w A1 l1.length l1) (hc1:l1.length ≤ c1) (h:impl_Sign_end.f k l0_0 l1 a2 = some r) :
  Calls Try.prog 137 #[.agg #[.slice A0_0 l0_0.length c0_0],.slice A1 l1.length c1,.int .i64 a2] w fun e w'=>e = .returned (.int .i64 r) ∧ Below w.heap.size w w':=by
 have hu30:=Try.underlying30
 have HR0_0:=Aside0.mk hr0_0
 have HC0_0:=Aside0.mk hc0_0
 clear hr0_0 hc0_0
 have HR1:=Aside0.mk hr1
 have HC1:=Aside0.mk hc1
 clear hr1 hc1
 have HB:=Aside0.mk (Below.refl w.heap.size w)
 have H:(impl_Sign_end.l0 k l1 a2 1 l0_0) = some r:=h
 clear h
 have H':=Aside0.mk H
 clear H
 go_enter Try.func137,Try.ntmps137
 go_wp2_with (first|((with_reducible refine gate_dst (N:=3) rfl ?_);refine box_event ?hg (N:=3) ?hd (cs:=#[.slice A0_0 l0_0.length c0_0]) (t:=30) ?hr ?_;(case hd=>rfl);(case hg=>rfl);(case hr=>first|(go_simp;done)|(go_simp;rfl));intro gb234 hg w4 hbox hb;have n0_:=Aside0.mk (below_step (by repeat (first|(with_reducible first|exact HB.out|apply below_alloc|apply pw_below_drewN|apply below_drew1)|exact HB.out)) hb);have n1_:=Aside0.mk (hbox);have n2_:=Aside0.mk ((by rw [hg];exact (below_size (by repeat (first|(with_reducible first|exact HB.out|apply below_alloc|apply pw_below_drewN|apply below_drew1)|exact HB.out))):w.heap.size ≤ gb234));have n3_:=Aside0.mk ((by rw [hg];exact (below_size (by repeat (first|(with_reducible first|exact HB.out|apply below_alloc|apply pw_below_drewN|apply below_drew1)|exact HB.out))):w.heap.size ≤ gb234));clear HB;have HB:=n0_;have BK234:=n1_;have GW234:=n2_;have GE234:=n3_;clear n0_ n1_ n2_ n3_;clear hb hbox hg))
 go_loopg [2,7] k (fun kq v2 v7 w'=>∃ (x2_1:Int) (x7_1:Int),v2 = .int .i64 x2_1 ∧ v7 = .int .i64 x7_1 ∧ Aside0 (impl_Sign_end.l0 kq l1 x2_1 x7_1 l0_0 = some r) ∧ Aside0 (kq ≤ k) ∧ Aside0 (w'.heap[gb234]? = some (.cells #[(.slice A0_0 l0_0.length c0_0)] 30 (0,0))) ∧ Aside0 (Below w.heap.size w w'))
 case atStart=>exact ⟨(a2),(1),(by first|rfl|(simp;done)|(simp [*];done)),(by first|rfl|(simp;done)|(simp [*];done)),H',⟨Nat.le_refl _⟩,⟨by (with_reducible repeat (first|refine blk_drewN ?_ _|refine blk_drew ?_|refine blk_alloc ?_ _));exact BK234.out⟩,⟨by repeat (first|(with_reducible first|exact HB.out|apply below_alloc|apply pw_below_drewN|apply below_drew1|refine below_set ?_ GE234.out)|exact HB.out)⟩⟩
 case round =>
  clear H'
  try clear c1
  try clear p2
  obtain ⟨x2_1,x7_1,rfl,rfl,HA,HK1,BK234,HB⟩:=hrel
  cases gk with
  | zero=>exact absurd HA.out (by simp [impl_Sign_end.l0])
  | succ k1 =>
   have H:=HA.out
   clear HA
   simp only [impl_Sign_end.l0] at H
   by_cases c5:x7_1 > 0
   ·rw [if_pos c5] at H
    have c5b0:decide (0 < x7_1) = true:=decide_eq_true c5
    clear c5
    by_cases c6:0 ≤ x2_1
    ·rw [if_pos c6] at H
     have c6b0:decide (0 ≤ x2_1) = true:=decide_eq_true c6
     clear c6
     by_cases c7:x2_1 < (l1.length:Int)
     ·rw [if_pos c7] at H
      have c7b0:decide (x2_1 < (l1.length:Int)) = true:=decide_eq_true c7
      clear c7
      replace H:=Option.bind_eq_some_iff.mp H
      obtain ⟨t236,A80,H⟩:=H
      replace H:(impl_Sign_end.l0 k1 l1 (wrap64 (x2_1 + 1)) (wrap64 (x7_1 + (wrap64 (t236 - 1)))) l0_0) = some r:=H
      have A8:=Aside0.mk A80
      clear A80
      have H':=Aside0.mk H
      clear H
      try go_wp2
      have n0_:=Aside0.mk (blk_drew BK234.out)
      have n1_:=Aside0.mk (below_drew1 HB.out)
      clear BK234
      clear HB
      have BK234:=n0_
      have HB:=n1_
      clear n0_ n1_
      have p235:0 ≤ (x2_1:Int):=of_decide_eq_true (by first|(with_reducible assumption)|assumption)
      have q235:x2_1 < (l1.length:Int):=of_decide_eq_true (by first|(with_reducible assumption)|assumption)
      obtain ⟨ad235,e235,hx235_0⟩:=Kd.at_int HR1.out x2_1 p235 q235
      have hw235_0:=hx235_0
      cases e235
      replace hx235_0:=(HB.out.cell (World.block_lt_of_cell? w _ hx235_0)).trans hx235_0
      replace p235:=eq_true p235
      replace q235:=eq_true q235
      refine start_ (n:=10) (S:=fun w'=>w'.cell? ⟨gb234,0,none⟩ = some (.slice A0_0 l0_0.length c0_0) ∧ w'.cell? (ad235.add (x2_1).toNat) = some (.int .i64 (rd l1 x2_1))) (ds:=[]) #[false,false,false,false,false,false,false,false,false,false] (by kernel_rfl) rfl rfl ⟨(blk_cell BK234.out 0).trans rfl,((HB.out.cell (World.block_lt_of_cell? w _ hw235_0)).trans hw235_0)⟩ (fun hHeld=>?_);refine with_tabW impl_Sign_end.tab4 impl_Sign_end.bits4 (fun HT_ HW_=>?_)
      generalize wr.drew = w9 at BK234 HB hx235_0 hHeld ⊢
      refine pure_ (i:=0) (N:=some 12) (v:=?_) (a':=?_) #[true,false,false,false,false,false,false,false,false,false] rfl rfl (any_of HT_.out (by kernel_rfl)) (fun _ _ _ h=>h) (Or.inl ⟨by rfl,?_⟩) ?_ ?_
      rotate_left
      ·intro w'
       go_simp
       with_reducible rfl
      rotate_left
      ·simp only [Act.put,List.setIfInBounds_toArray,List.set_cons_zero,List.set_cons_succ,i64_w,i32_w]
       rfl
      refine pure_ (i:=2) (N:=some 14) (v:=?_) (a':=?_) #[true,false,true,false,false,false,false,false,false,false] rfl rfl (any_of HT_.out (by kernel_rfl)) (fun _ _ _ h=>h) (Or.inl ⟨by rfl,?_⟩) ?_ ?_
      rotate_left
      ·intro w'
       go_simp
       with_reducible rfl
      rotate_left
      ·simp only [Act.put,List.setIfInBounds_toArray,List.set_cons_zero,List.set_cons_succ,i64_w,i32_w]
       rfl
      refine pure_ (i:=3) (N:=some 15) (v:=?_) (a':=?_) #[true,false,true,true,false,false,false,false,false,false] rfl rfl (any_of HT_.out (by kernel_rfl)) (fun _ _ _ h=>h) (Or.inl ⟨by rfl,?_⟩) ?_ ?_
      rotate_left
      ·intro w'
       go_simp
       with_reducible rfl
      rotate_left
      ·simp only [Act.put,List.setIfInBounds_toArray,List.set_cons_zero,List.set_cons_succ,i64_w,i32_w]
       rfl
      refine pure_ (i:=4) (N:=some 16) (v:=?_) (a':=?_) #[true,false,true,true,true,false,false,false,false,false] rfl rfl (any_of HT_.out (by kernel_rfl)) (fun _ _ _ h=>h) (Or.inl ⟨by rfl,?_⟩) ?_ ?_
      rotate_left
      ·intro w'
       go_simp
       with_reducible rfl
      rotate_left
      ·simp only [Act.put,List.setIfInBounds_toArray,List.set_cons_zero,List.set_cons_succ,i64_w,i32_w]
       rfl
      refine take_ (i:=1) (N:=some 13) (v:=?_) (a':=?_) #[true,true,true,true,true,false,false,false,false,false] rfl rfl (take_ofW HT_.out HW_.out (by kernel_rfl)) (fun _ _ _ h=>h) (Or.inl ⟨by rfl,?_⟩) hHeld ?_ ?_
      rotate_left
      ·rintro w' ⟨s0,s1⟩
       go_simp
       with_reducible rfl
      rotate_left
      ·simp only [Act.put,List.setIfInBounds_toArray,List.set_cons_zero,List.set_cons_succ,i64_w,i32_w]
       rfl
      refine take_ (i:=5) (N:=some 17) (v:=?_) (a':=?_) #[true,true,true,true,true,true,false,false,false,false] rfl rfl (take_ofW HT_.out HW_.out (by kernel_rfl)) (fun _ _ _ h=>h) (Or.inl ⟨by rfl,?_⟩) hHeld ?_ ?_
      rotate_left
      ·rintro w' ⟨s0,s1⟩
       go_simp
       with_reducible rfl
      rotate_left
      ·simp only [Act.put,List.setIfInBounds_toArray,List.set_cons_zero,List.set_cons_succ,i64_w,i32_w]
       rfl
      refine one_ (i:=6) (N:=some 18) #[true,true,true,true,true,true,true,false,false,false] rfl rfl (one_of HT_.out (by kernel_rfl)) (by decide) (fun K hK=>?_)
      refine goes_ Try.func134 (by kernel_rfl) rfl #[.agg #[.slice A0_0 l0_0.length c0_0],.int .i64 (rd l1 x2_1)] (by rfl) rfl rfl (by (try simp only [List.map_toArray,List.map_cons,List.map_nil]);first|done|rfl|(simp only [List.length_drop,List.length_take];rfl)) ?_
      with_reducible refine (impl_Sign_args.calls _ _ l0_0 (rd l1 x2_1) t236 _ ?side1 ?side2 A8.out).mono ?_
      (case side1=>repeat (first|exact (Kd.C_below HR0_0.out HB.out)|(with_reducible refine Kd.C_alloc ?_ _)|(with_reducible refine Kd.C_drewN ?_ _)|(with_reducible refine Kd.C_drew ?_)))
      (case side2=>exact HC0_0.out)
      rintro e w10 ⟨rfl,hb⟩
      refine ⟨_,rfl,?_⟩
      have n0_:=Aside0.mk (blk_below (g:=gb234) (o:=.cells #[.slice A0_0 l0_0.length c0_0] 30 (0,0)) (by (with_reducible repeat (first|refine blk_drewN ?_ _|refine blk_drew ?_|refine blk_alloc ?_ _));exact BK234.out) hb)
      have n1_:=Aside0.mk (below_step (by repeat (first|(with_reducible first|exact HB.out|apply below_alloc|apply pw_below_drewN|apply below_drew1|refine below_set ?_ GE234.out)|exact HB.out)) hb)
      clear BK234
      clear HB
      have BK234:=n0_
      have HB:=n1_
      clear n0_ n1_
      (try clear hb)
      (try clear hb2)
      (try clear hk)
      (try clear hi)
      refine hK.out _ _ ⟨(blk_cell BK234.out 0).trans rfl,((HB.out.cell (World.block_lt_of_cell? w _ hw235_0)).trans hw235_0)⟩ (fun hHeld=>?_)
      clear hK K
      refine norm_ (a':=?_) ?_ ?_
      rotate_left
      ·show Act.put _ (some 18) _ = _
       simp only [Act.put,List.setIfInBounds_toArray,List.set_cons_zero,List.set_cons_succ,i64_w,i32_w]
       rfl
      refine pure_ (i:=7) (N:=some 19) (v:=?_) (a':=?_) #[true,true,true,true,true,true,true,true,false,false] rfl rfl (any_of HT_.out (by kernel_rfl)) (fun _ _ _ h=>h) (Or.inl ⟨by rfl,?_⟩) ?_ ?_
      rotate_left
      ·intro w'
       go_simp
       with_reducible rfl
      rotate_left
      ·simp only [Act.put,List.setIfInBounds_toArray,List.set_cons_zero,List.set_cons_succ,i64_w,i32_w]
       rfl
      refine pure_ (i:=8) (N:=some 20) (v:=?_) (a':=?_) #[true,true,true,true,true,true,true,true,true,false] rfl rfl (any_of HT_.out (by kernel_rfl)) (fun _ _ _ h=>h) (Or.inl ⟨by rfl,?_⟩) ?_ ?_
      rotate_left
      ·intro w'
       go_simp
       with_reducible rfl
      rotate_left
      ·simp only [Act.put,List.setIfInBounds_toArray,List.set_cons_zero,List.set_cons_succ,i64_w,i32_w]
       rfl
      refine pure_ (i:=9) (N:=some 7) (v:=?_) (a':=?_) #[true,true,true,true,true,true,true,true,true,true] rfl rfl (any_of HT_.out (by kernel_rfl)) (fun _ _ _ h=>h) (Or.inl ⟨by rfl,?_⟩) ?_ ?_
      rotate_left
      ·intro w'
       go_simp
       with_reducible rfl
      rotate_left
      ·simp only [Act.put,List.setIfInBounds_toArray,List.set_cons_zero,List.set_cons_succ,i64_w,i32_w]
       rfl
      refine done_ (done_of HT_.out (by kernel_rfl)) ?_
      try go_wp2
      go_roundg k1
      case measure=>have:=HK1.out;omega
      case rel=>exact ⟨(wrap64 (x2_1 + 1)),(wrap64 (x7_1 + (wrap64 (t236 - 1)))),(by first|rfl|(simp;done)|(simp [*];done)),(by first|rfl|(simp;done)|(simp [*];done)),H',⟨by have:=HK1.out;omega⟩,⟨by (with_reducible repeat (first|refine blk_drewN ?_ _|refine blk_drew ?_|refine blk_alloc ?_ _));exact BK234.out⟩,⟨by repeat (first|(with_reducible first|exact HB.out|apply below_alloc|apply pw_below_drewN|apply below_drew1|refine below_set ?_ GE234.out)|exact HB.out)⟩⟩
     ·rw [if_neg c7] at H
      exact absurd H (by simp)
    ·rw [if_neg c6] at H
     exact absurd H (by simp)
   ·rw [if_neg c5] at H
    have c5b0:decide (0 < x7_1) = false:=decide_eq_false c5
    clear c5
    obtain rfl:=Option.some.inj H
    go_wp2
    go_ret
    exact ⟨by first|rfl|(simp [errW_none,errW_some] <;> rfl)|(simp [*,errW_none,errW_some] <;> rfl),by repeat (first|(with_reducible first|exact HB.out|apply below_alloc|apply pw_below_drewN|apply below_drew1|refine below_set ?_ GE234.out)|exact HB.out)⟩

/-! ### impl_isItself: function 127 -/
def impl_isItself.f (l0:List Int) (a1:Int):Option (Bool):=if (l0.length:Int) = 1 then (if 0 < (l0.length:Int) then (some ((rd l0 0) == (wrap64 ((-1) - a1)))) else (none)) else (some false)
set_option maxHeartbeats 8000000 in
set_option maxRecDepth 100000 in
theorem impl_isItself.calls (A0:Option Addr) (c0:Nat) (l0:List Int) (a1:Int) (r:Bool) (w:World) (hr0:Kd.C (Kd.int .i64) w A0 l0.length l0) (hc0:l0.length ≤ c0) (h:impl_isItself.f l0 a1 = some r) :
  Calls Try.prog 127 #[.slice A0 l0.length c0,.int .i64 a1] w fun e w'=>e = .returned (.bool r) ∧ Drawn0 w w':=by
 have HR0:=Aside0.mk hr0
 have HC0:=Aside0.mk hc0
 clear hr0 hc0
 have H:(if (l0.length:Int) = 1 then (if 0 < (l0.length:Int) then (some ((rd l0 0) == (wrap64 ((-1) - a1)))) else (none)) else (some false)) = some r:=h
 clear h
 by_cases c3:(l0.length:Int) = 1
 ·rw [if_pos c3] at H
  have c3b0:((l0.length:Int) == 1) = true:=beq_iff_eq.mpr c3
  have c3b1:((l0.length:Int) != 1) = false:=bne_eq_false_iff_eq.mpr c3
  clear c3
  by_cases c4:0 < (l0.length:Int)
  ·rw [if_pos c4] at H
   have c4b0:decide (0 < (l0.length:Int)) = true:=decide_eq_true c4
   have c4b1:decide (0 < l0.length) = true:=decide_eq_true (by omega)
   clear c4
   obtain rfl:=Option.some.inj H
   have p237:0 ≤ (0:Int):=(by omega)
   have q237:0 < (l0.length:Int):=of_decide_eq_true (by first|(with_reducible assumption)|assumption)
   obtain ⟨ad237,e237,hx237_0⟩:=Kd.at_int HR0.out 0 p237 q237
   cases e237
   have qi237:(0 < l0.length) = True:=eq_true (by omega)
   (try rw [show ((0:Int)).toNat = 0 from rfl] at hx237_0)
   (try rw [Addr.add_zero'] at hx237_0)
   replace p237:=eq_true p237
   replace q237:=eq_true q237
   go_enter Try.func127,Try.ntmps127
   go_wp2
   go_ret
   exact ⟨by first|rfl|(simp;done)|(simp [*];done),by repeat (first|exact Drawn0.refl _|apply Drawn0.step)⟩
  ·rw [if_neg c4] at H
   exact absurd H (by simp)
 ·rw [if_neg c3] at H
  have c3b0:((l0.length:Int) == 1) = false:=beq_eq_false_iff_ne.mpr c3
  have c3b1:((l0.length:Int) != 1) = true:=bne_iff_ne.mpr c3
  obtain rfl:=Option.some.inj H
  go_enter Try.func127,Try.ntmps127
  go_wp2
  go_ret
  exact ⟨by first|rfl|(simp;done)|(simp [*];done),by repeat (first|exact Drawn0.refl _|apply Drawn0.step)⟩

end Go.Proofs.Ytlgnanbnicmdaaa.QFnExactSubsumes
