-- Written by this session's own program (wip/x/xprint.py, over the kit's printer); Lean checks it.
import Derived.Test.YtlgnanbnicmdaabQFnExactNormalClausex0
import Derived.Test.YtlgnanbnicmdaabQFnExactNormalClausex3
namespace Go.Proofs.Ytlgnanbnicmdaab.QFnExactNormalClause
open Go.RowKit Go.Proofs.YtlgnanbnicmdaabW.PrintWords Go.Proofs.YtlgnanbnicmdaabW.PrintLast Go.Proofs.YtlgnanbnicmdaabW.PrintMore
attribute [local go_sem] max2_int min2_int max_two min_two max_three min_three max_four min_four   -- for this text's walks alone
set_option linter.unusedVariables false
set_option linter.unusedSimpArgs false

/-! ### spec_l1Part: function 70 -/
def spec_l1Part.f (k:Nat) (l0_0:List Int) (l1:List Int) (a2:Int):Option (List Int):=(spec_l1End.f k l0_0 l1 a2).bind fun t190=>(if 0 ≤ a2 then (if a2 ≤ t190 then (if t190 ≤ (l1.length:Int) then ((spec_l1Own.f ((l1.take (t190:Int).toNat).drop (a2:Int).toNat)).bind fun t192=>(some t192)) else (none)) else (none)) else (none))
theorem spec_l1Part.mono:∀ a0 a1 a2 k,LeO (spec_l1Part.f k a0 a1 a2) (spec_l1Part.f (k + 1) a0 a1 a2):=by
 intro a0 a1 a2 k
 unfold spec_l1Part.f
 have m0:=@spec_l1End.mono
 exact mO
set_option maxHeartbeats 8000000 in
set_option maxRecDepth 100000 in
theorem spec_l1Part.calls (k:Nat) (A0_0:Option Addr) (c0_0:Nat) (l0_0:List Int) (A1:Option Addr) (c1:Nat) (l1:List Int) (a2:Int) (r:List Int) (w:World) (hr0_0:Kd.C (Kd.int .i64) w A0_0 l0_0.length l0_0) (hc0_0:l0_0.length ≤ c0_0) (hr1:Kd.C (Kd.int .i64) w A1 l1.length l1) (hc1:l1.length ≤ c1) (h:spec_l1Part.f k l0_0 l1 a2 = some r) :
  Calls Try.prog 70 #[.agg #[.slice A0_0 l0_0.length c0_0],.slice A1 l1.length c1,.int .i64 a2] w fun e w'=>∃ v0_:Value,e = .returned (v0_) ∧ Kd.R (Kd.int .i64) 3 w' w.heap.size (fun _=>True) v0_ r ∧ Below w.heap.size w w':=by
 have hu30:=Try.underlying30
 have HR0_0:=Aside0.mk hr0_0
 have HC0_0:=Aside0.mk hc0_0
 clear hr0_0 hc0_0
 have HR1:=Aside0.mk hr1
 have HC1:=Aside0.mk hc1
 clear hr1 hc1
 have HB:=Aside0.mk (Below.refl w.heap.size w)
 have H:((spec_l1End.f k l0_0 l1 a2).bind fun t190=>(if 0 ≤ a2 then (if a2 ≤ t190 then (if t190 ≤ (l1.length:Int) then ((spec_l1Own.f ((l1.take (t190:Int).toNat).drop (a2:Int).toNat)).bind fun t192=>(some t192)) else (none)) else (none)) else (none))) = some r:=h
 clear h
 replace H:=Option.bind_eq_some_iff.mp H
 obtain ⟨t190,A40,H⟩:=H
 replace H:(if 0 ≤ a2 then (if a2 ≤ t190 then (if t190 ≤ (l1.length:Int) then ((spec_l1Own.f ((l1.take (t190:Int).toNat).drop (a2:Int).toNat)).bind fun t192=>(some t192)) else (none)) else (none)) else (none)) = some r:=H
 have A4:=Aside0.mk A40
 clear A40
 by_cases c5:0 ≤ a2
 ·rw [if_pos c5] at H
  have c5b0:=eq_true c5
  have c5b1:=decide_eq_true c5
  clear c5
  by_cases c6:a2 ≤ t190
  ·rw [if_pos c6] at H
   have c6b0:=eq_true c6
   have c6b1:=decide_eq_true c6
   clear c6
   by_cases c7:t190 ≤ (l1.length:Int)
   ·rw [if_pos c7] at H
    have c7b0:=eq_true c7
    have c7b1:=decide_eq_true c7
    clear c7
    replace H:=Option.bind_eq_some_iff.mp H
    obtain ⟨t192,A80,H⟩:=H
    replace H:(some t192) = some r:=H
    have A8:=Aside0.mk A80
    clear A80
    obtain rfl:=Option.some.inj H
    go_enter Try.func70,Try.ntmps70
    go_wp2_with (first|((with_reducible refine gate_dst (N:=3) rfl ?_);refine box_event ?hg (N:=3) ?hd (cs:=#[.slice A0_0 l0_0.length c0_0]) (t:=30) ?hr ?_;(case hd=>rfl);(case hg=>rfl);(case hr=>first|(go_simp;done)|(go_simp;rfl));intro gb189 hg w9 hbox hb;have BK189:=Aside0.mk (hbox);have GW189:=Aside0.mk ((hZ:w.heap.size ≤ gb189));have GE189:=Aside0.mk ((hZ:w.heap.size ≤ gb189));replace HB:=Aside0.mk (below_step bH hb);clear hb hbox hg;have hcz10_0:w9.cell? ⟨gb189,0,none⟩ = some (.slice A0_0 l0_0.length c0_0):=(blk_cell BK189.out 0).trans rfl;have hfz10_0:=blk_frozen BK189.out 0)|((with_reducible refine gate_callee (f:=102) rfl ?_);refine goesL_ (some 12) rfl rfl Try.func102 (by kernel_rfl) rfl #[.agg #[.slice A0_0 l0_0.length c0_0],.slice A1 l1.length c1,.int .i64 a2] rfl Ya ?_;(with_reducible refine (spec_l1End.calls k _ _ l0_0 _ _ l1 a2 t190 _ ?side1 ?side2 ?side3 ?side4 A4.out).mono ?_);(case side1=>exact sC HR0_0);(case side2=>exact HC0_0.out);(case side3=>exact sC HR1);(case side4=>exact HC1.out);rintro e w11 ⟨rfl,hb⟩;refine ⟨_,rfl,?_⟩;replace BK189:=Aside0.mk (blk_below (bB BK189) hb);replace HB:=Aside0.mk (below_step bH hb);(try clear hb);(try clear hb2);(try clear hk);(try clear hi);obtain ⟨i012,hi012,_,hsz12,_⟩:=info_parts info3;obtain ⟨A12,hcut12,hA12,hC12⟩:=print_mid_of (P:=Try.prog) (Value.int .i64) 0 22 3 .i64 .i64 Try.underlying22 hi012 hsz12 A1 c1 l1 a2 t190 (oD) (by first|omega|exact oD) (oD) HC1.out;have HR191:=Aside0.mk (Kd.C_of_reads (h1:=fun _=>rfl) (hA12 _ (Kd.reads_of_C HR1.out)));have HC191:=Aside0.mk hC12;clear hA12 hC12 hi012 hsz12)|((with_reducible refine gate_callee (f:=82) rfl ?_);refine goesL_ (some 14) rfl rfl Try.func82 (by kernel_rfl) rfl #[.slice A12 ((l1.take (t190:Int).toNat).drop (a2:Int).toNat).length (c1 - a2.toNat)] rfl (by (try simp only [List.map_toArray,List.map_cons,List.map_nil]);first|done|(rw [show ((l1.take (t190:Int).toNat).drop (a2:Int).toNat).length = (t190.toNat - a2.toNat) from (by rw [List.length_drop,List.length_take];have h_:(t190:Int) ≤ (l1.length:Int):=oD;omega)] <;> rfl)|rfl|(simp only [List.length_drop,List.length_take];rfl)) ?_;(with_reducible refine (spec_l1Own.calls _ _ ((l1.take (t190:Int).toNat).drop (a2:Int).toNat) t192 _ ?side1 ?side2 A8.out).mono ?_);(case side1=>exact sC HR191);(case side2=>exact HC191.out);rintro e w13 ⟨v193,rfl,ho0,hb⟩;refine ⟨_,rfl,?_⟩;have HO194:=Aside0.mk (Kd.R_lower ho0 (below_size bH));replace BK189:=Aside0.mk (blk_below (bB BK189) hb);replace HB:=Aside0.mk (below_step bH hb);(try clear hb);(try clear hb2);(try clear hk);(try clear hi);(try clear ho0)))
    go_ret
    exact ⟨_,by first|rfl|(simp [errW_none,errW_some] <;> rfl)|(simp [*,errW_none,errW_some] <;> rfl),rR HO194,bH⟩
   ·rw [if_neg c7] at H
    exact absurd H (by simp)
  ·rw [if_neg c6] at H
   exact absurd H (by simp)
 ·rw [if_neg c5] at H
  exact absurd H (by simp)

/-! ### spec_l6Sides: function 71 -/
def spec_l6Sides.f (a0_0:Bool) (l0_1:List Int) (l0_2:List Int) (a1:Int):Option (List Int × List Int):=if a1 = 0 then (some (l0_1,l0_2)) else (some (l0_2,l0_1))
set_option maxHeartbeats 8000000 in
set_option maxRecDepth 100000 in
theorem spec_l6Sides.calls (a0_0:Bool) (P0_1_:Nat → Prop) (u9000_:Value) (l0_1:List Int) (P0_2_:Nat → Prop) (u9001_:Value) (l0_2:List Int) (a1:Int) (r1:List Int) (r2:List Int) (w0 w:World) (hB:Below w0.heap.size w0 w) (ho0_1:Kd.R (Kd.int .i64) 3 w w0.heap.size P0_1_ u9000_ l0_1) (hp0_1_0_2:∀ k_,P0_1_ k_ → ¬ P0_2_ k_) (ho0_2:Kd.R (Kd.int .i64) 3 w w0.heap.size P0_2_ u9001_ l0_2) (hp0_2_0_1:∀ k_,P0_2_ k_ → ¬ P0_1_ k_) (h:spec_l6Sides.f a0_0 l0_1 l0_2 a1 = some (r1,r2)) :
  Calls Try.prog 71 #[.agg #[.bool a0_0,u9000_,u9001_],.int .i64 a1] w fun e w'=>∃ v0_ v1_:Value,e = .returned (.tuple #[v0_,v1_]) ∧ Kd.R (Kd.int .i64) 3 w' w0.heap.size (fun k_=>((P0_1_ k_ ∨ P0_2_ k_) ∨ w.heap.size ≤ k_) ∧ some k_ ≠ (v1_:Value).ownBlock) v0_ r1 ∧ Kd.R (Kd.int .i64) 3 w' w0.heap.size (fun k_=>((P0_1_ k_ ∨ P0_2_ k_) ∨ w.heap.size ≤ k_) ∧ some k_ ≠ (v0_:Value).ownBlock) v1_ r2 ∧ Below w0.heap.size w0 w' ∧ Kept w w' (fun k_=>P0_1_ k_ ∨ P0_2_ k_):=by
 have hu65:=Try.underlying65
 have HO0_1:=Aside0.mk (show Kd.R (Kd.int .i64) 3 w w0.heap.size (fun k_=>((P0_1_ k_ ∨ P0_2_ k_) ∨ w.heap.size ≤ k_) ∧ some k_ ≠ (u9001_:Value).ownBlock) u9000_ l0_1 from Kd.R_mono ho0_1 (fun k_ hk=>⟨(.inl (.inl hk)),fun e_=>hp0_1_0_2 k_ hk (ho0_2.1 k_ e_.symm)⟩))
 have HO0_2:=Aside0.mk (show Kd.R (Kd.int .i64) 3 w w0.heap.size (fun k_=>((P0_1_ k_ ∨ P0_2_ k_) ∨ w.heap.size ≤ k_) ∧ some k_ ≠ (u9000_:Value).ownBlock) u9001_ l0_2 from Kd.R_mono ho0_2 (fun k_ hk=>⟨(.inl (.inr hk)),fun e_=>hp0_2_0_1 k_ hk (ho0_1.1 k_ e_.symm)⟩))
 have HK:=Aside0.mk (Kept.refl w (fun k_=>P0_1_ k_ ∨ P0_2_ k_))
 have HW0:=Aside0.mk hB.size
 have HB:=Aside0.mk hB
 clear hB
 have H:(if a1 = 0 then (some (l0_1,l0_2)) else (some (l0_2,l0_1))) = some (r1,r2):=h
 clear h
 by_cases c3:a1 = 0
 ·rw [if_pos c3] at H
  have c3b0:(a1 == 0) = true:=beq_iff_eq.mpr c3
  have c3b1:(a1 != 0) = false:=bne_eq_false_iff_eq.mpr c3
  clear c3
  simp only [Option.some.injEq,Prod.mk.injEq] at H
  obtain ⟨rfl,rfl⟩:=H
  obtain ⟨Ao4,co4,eo4⟩:=Kd.R_slice HO0_1.out
  subst eo4
  obtain ⟨Ao5,co5,eo5⟩:=Kd.R_slice HO0_2.out
  subst eo5
  go_enter Try.func71,Try.ntmps71
  go_wp2_with (first|((with_reducible refine gate_dst (N:=2) rfl ?_);refine box_event ?hg (N:=2) ?hd (cs:=#[.bool a0_0,.slice Ao4 l0_1.length co4,.slice Ao5 l0_2.length co5]) (t:=65) ?hr ?_;(case hd=>rfl);(case hg=>rfl);(case hr=>first|(go_simp;done)|(go_simp;rfl));intro gb195 hg w6 hbox hb;replace HO0_1:=Aside0.mk (Kd.R_below (rR HO0_1) hb);replace HO0_2:=Aside0.mk (Kd.R_below (rR HO0_2) hb);have BK195:=Aside0.mk (hbox);have GW195:=Aside0.mk ((by rw [hg];exact Yd:w.heap.size ≤ gb195));replace HK:=Aside0.mk (Kept.below (S:=(fun k_=>P0_1_ k_ ∨ P0_2_ k_)) kH hb);have GE195:=Aside0.mk ((hZ:w0.heap.size ≤ gb195));replace HB:=Aside0.mk (below_step bH hb);clear hb hbox hg;have hcz7_0:w6.cell? ⟨gb195,0,none⟩ = some (.bool a0_0):=(blk_cell BK195.out 0).trans rfl;have hcz7_1:w6.cell? ⟨gb195,1,none⟩ = some (.slice Ao4 l0_1.length co4):=(blk_cell BK195.out 1).trans rfl;have hcz7_2:w6.cell? ⟨gb195,2,none⟩ = some (.slice Ao5 l0_2.length co5):=(blk_cell BK195.out 2).trans rfl;have hfz7_0:=blk_frozen BK195.out 0;have hfz7_1:=blk_frozen BK195.out 1;have hfz7_2:=blk_frozen BK195.out 2))
  repeat (go_quiet (first|((with_reducible refine gate_dst (N:=2) rfl ?_);refine box_event ?hg (N:=2) ?hd (cs:=#[.bool a0_0,.slice Ao4 l0_1.length co4,.slice Ao5 l0_2.length co5]) (t:=65) ?hr ?_;(case hd=>rfl);(case hg=>rfl);(case hr=>first|(go_simp;done)|(go_simp;rfl));intro gb195 hg w6 hbox hb;replace HO0_1:=Aside0.mk (Kd.R_below (rR HO0_1) hb);replace HO0_2:=Aside0.mk (Kd.R_below (rR HO0_2) hb);have BK195:=Aside0.mk (hbox);have GW195:=Aside0.mk ((by rw [hg];exact Yd:w.heap.size ≤ gb195));replace HK:=Aside0.mk (Kept.below (S:=(fun k_=>P0_1_ k_ ∨ P0_2_ k_)) kH hb);have GE195:=Aside0.mk ((hZ:w0.heap.size ≤ gb195));replace HB:=Aside0.mk (below_step bH hb);clear hb hbox hg;have hcz7_0:w6.cell? ⟨gb195,0,none⟩ = some (.bool a0_0):=(blk_cell BK195.out 0).trans rfl;have hcz7_1:w6.cell? ⟨gb195,1,none⟩ = some (.slice Ao4 l0_1.length co4):=(blk_cell BK195.out 1).trans rfl;have hcz7_2:w6.cell? ⟨gb195,2,none⟩ = some (.slice Ao5 l0_2.length co5):=(blk_cell BK195.out 2).trans rfl;have hfz7_0:=blk_frozen BK195.out 0;have hfz7_1:=blk_frozen BK195.out 1;have hfz7_2:=blk_frozen BK195.out 2));try go_wp2_with (first|((with_reducible refine gate_dst (N:=2) rfl ?_);refine box_event ?hg (N:=2) ?hd (cs:=#[.bool a0_0,.slice Ao4 l0_1.length co4,.slice Ao5 l0_2.length co5]) (t:=65) ?hr ?_;(case hd=>rfl);(case hg=>rfl);(case hr=>first|(go_simp;done)|(go_simp;rfl));intro gb195 hg w6 hbox hb;replace HO0_1:=Aside0.mk (Kd.R_below (rR HO0_1) hb);replace HO0_2:=Aside0.mk (Kd.R_below (rR HO0_2) hb);have BK195:=Aside0.mk (hbox);have GW195:=Aside0.mk ((by rw [hg];exact Yd:w.heap.size ≤ gb195));replace HK:=Aside0.mk (Kept.below (S:=(fun k_=>P0_1_ k_ ∨ P0_2_ k_)) kH hb);have GE195:=Aside0.mk ((hZ:w0.heap.size ≤ gb195));replace HB:=Aside0.mk (below_step bH hb);clear hb hbox hg;have hcz7_0:w6.cell? ⟨gb195,0,none⟩ = some (.bool a0_0):=(blk_cell BK195.out 0).trans rfl;have hcz7_1:w6.cell? ⟨gb195,1,none⟩ = some (.slice Ao4 l0_1.length co4):=(blk_cell BK195.out 1).trans rfl;have hcz7_2:w6.cell? ⟨gb195,2,none⟩ = some (.slice Ao5 l0_2.length co5):=(blk_cell BK195.out 2).trans rfl;have hfz7_0:=blk_frozen BK195.out 0;have hfz7_1:=blk_frozen BK195.out 1;have hfz7_2:=blk_frozen BK195.out 2)))
  go_ret2
  exact ⟨_,_,by first|rfl|(simp [errW_none,errW_some] <;> rfl)|(simp [*,errW_none,errW_some] <;> rfl),rR HO0_1,rR HO0_2,bH,by repeat (first|(with_reducible first|exact HK.out|apply Kept.alloc|apply Kept.drewN|apply Kept.drew|refine Kept.setCell ?_ (.inr GW195.out) _)|exact HK.out)⟩
 ·rw [if_neg c3] at H
  have c3b0:(a1 == 0) = false:=beq_eq_false_iff_ne.mpr c3
  have c3b1:(a1 != 0) = true:=bne_iff_ne.mpr c3
  simp only [Option.some.injEq,Prod.mk.injEq] at H
  obtain ⟨rfl,rfl⟩:=H
  obtain ⟨Ao8,co8,eo8⟩:=Kd.R_slice HO0_1.out
  subst eo8
  obtain ⟨Ao9,co9,eo9⟩:=Kd.R_slice HO0_2.out
  subst eo9
  go_enter Try.func71,Try.ntmps71
  go_wp2_with (first|((with_reducible refine gate_dst (N:=2) rfl ?_);refine box_event ?hg (N:=2) ?hd (cs:=#[.bool a0_0,.slice Ao8 l0_1.length co8,.slice Ao9 l0_2.length co9]) (t:=65) ?hr ?_;(case hd=>rfl);(case hg=>rfl);(case hr=>first|(go_simp;done)|(go_simp;rfl));intro gb195 hg w10 hbox hb;replace HO0_1:=Aside0.mk (Kd.R_below (rR HO0_1) hb);replace HO0_2:=Aside0.mk (Kd.R_below (rR HO0_2) hb);have BK195:=Aside0.mk (hbox);have GW195:=Aside0.mk ((by rw [hg];exact Yd:w.heap.size ≤ gb195));replace HK:=Aside0.mk (Kept.below (S:=(fun k_=>P0_1_ k_ ∨ P0_2_ k_)) kH hb);have GE195:=Aside0.mk ((hZ:w0.heap.size ≤ gb195));replace HB:=Aside0.mk (below_step bH hb);clear hb hbox hg;have hcz11_0:w10.cell? ⟨gb195,0,none⟩ = some (.bool a0_0):=(blk_cell BK195.out 0).trans rfl;have hcz11_1:w10.cell? ⟨gb195,1,none⟩ = some (.slice Ao8 l0_1.length co8):=(blk_cell BK195.out 1).trans rfl;have hcz11_2:w10.cell? ⟨gb195,2,none⟩ = some (.slice Ao9 l0_2.length co9):=(blk_cell BK195.out 2).trans rfl;have hfz11_0:=blk_frozen BK195.out 0;have hfz11_1:=blk_frozen BK195.out 1;have hfz11_2:=blk_frozen BK195.out 2))
  repeat (go_quiet (first|((with_reducible refine gate_dst (N:=2) rfl ?_);refine box_event ?hg (N:=2) ?hd (cs:=#[.bool a0_0,.slice Ao8 l0_1.length co8,.slice Ao9 l0_2.length co9]) (t:=65) ?hr ?_;(case hd=>rfl);(case hg=>rfl);(case hr=>first|(go_simp;done)|(go_simp;rfl));intro gb195 hg w10 hbox hb;replace HO0_1:=Aside0.mk (Kd.R_below (rR HO0_1) hb);replace HO0_2:=Aside0.mk (Kd.R_below (rR HO0_2) hb);have BK195:=Aside0.mk (hbox);have GW195:=Aside0.mk ((by rw [hg];exact Yd:w.heap.size ≤ gb195));replace HK:=Aside0.mk (Kept.below (S:=(fun k_=>P0_1_ k_ ∨ P0_2_ k_)) kH hb);have GE195:=Aside0.mk ((hZ:w0.heap.size ≤ gb195));replace HB:=Aside0.mk (below_step bH hb);clear hb hbox hg;have hcz11_0:w10.cell? ⟨gb195,0,none⟩ = some (.bool a0_0):=(blk_cell BK195.out 0).trans rfl;have hcz11_1:w10.cell? ⟨gb195,1,none⟩ = some (.slice Ao8 l0_1.length co8):=(blk_cell BK195.out 1).trans rfl;have hcz11_2:w10.cell? ⟨gb195,2,none⟩ = some (.slice Ao9 l0_2.length co9):=(blk_cell BK195.out 2).trans rfl;have hfz11_0:=blk_frozen BK195.out 0;have hfz11_1:=blk_frozen BK195.out 1;have hfz11_2:=blk_frozen BK195.out 2));try go_wp2_with (first|((with_reducible refine gate_dst (N:=2) rfl ?_);refine box_event ?hg (N:=2) ?hd (cs:=#[.bool a0_0,.slice Ao8 l0_1.length co8,.slice Ao9 l0_2.length co9]) (t:=65) ?hr ?_;(case hd=>rfl);(case hg=>rfl);(case hr=>first|(go_simp;done)|(go_simp;rfl));intro gb195 hg w10 hbox hb;replace HO0_1:=Aside0.mk (Kd.R_below (rR HO0_1) hb);replace HO0_2:=Aside0.mk (Kd.R_below (rR HO0_2) hb);have BK195:=Aside0.mk (hbox);have GW195:=Aside0.mk ((by rw [hg];exact Yd:w.heap.size ≤ gb195));replace HK:=Aside0.mk (Kept.below (S:=(fun k_=>P0_1_ k_ ∨ P0_2_ k_)) kH hb);have GE195:=Aside0.mk ((hZ:w0.heap.size ≤ gb195));replace HB:=Aside0.mk (below_step bH hb);clear hb hbox hg;have hcz11_0:w10.cell? ⟨gb195,0,none⟩ = some (.bool a0_0):=(blk_cell BK195.out 0).trans rfl;have hcz11_1:w10.cell? ⟨gb195,1,none⟩ = some (.slice Ao8 l0_1.length co8):=(blk_cell BK195.out 1).trans rfl;have hcz11_2:w10.cell? ⟨gb195,2,none⟩ = some (.slice Ao9 l0_2.length co9):=(blk_cell BK195.out 2).trans rfl;have hfz11_0:=blk_frozen BK195.out 0;have hfz11_1:=blk_frozen BK195.out 1;have hfz11_2:=blk_frozen BK195.out 2)))
  go_ret2
  exact ⟨_,_,by first|rfl|(simp [errW_none,errW_some] <;> rfl)|(simp [*,errW_none,errW_some] <;> rfl),rR HO0_2,rR HO0_1,bH,by repeat (first|(with_reducible first|exact HK.out|apply Kept.alloc|apply Kept.drewN|apply Kept.drew|refine Kept.setCell ?_ (.inr GW195.out) _)|exact HK.out)⟩

/-! ### spec_l1Same: function 127 -/
def spec_l1Same.l0:Nat → List Int → List Int → Int → Int → Option (Bool)
 | 0,_,_,_,_=>none
 | k + 1,x0,x1,x12,x13=>if x13 < x12 then (if 0 ≤ x13 then (if x13 < (x0.length:Int) then (if x13 < (x1.length:Int) then (if (rd x0 x13) = (rd x1 x13) then (spec_l1Same.l0 k x0 x1 x12 (wrap64 (x13 + 1))) else (some false)) else (none)) else (none)) else (none)) else (some true)
def spec_l1Same.f (k:Nat) (l0:List Int) (l1:List Int):Option (Bool):=if (l0.length:Int) = (l1.length:Int) then (spec_l1Same.l0 k l0 l1 (l0.length:Int) 0) else (some false)
theorem spec_l1Same.mono_l:∀ k,(∀ y0 y1 y2 y3,LeO (spec_l1Same.l0 k y0 y1 y2 y3) (spec_l1Same.l0 (k + 1) y0 y1 y2 y3))
 | 0=>fun _ _ _ _ r h=>by simp [spec_l1Same.l0] at h
 | k + 1=>by
  have ih0:=spec_l1Same.mono_l k
  ·intro y0 y1 y2 y3
   unfold spec_l1Same.l0
   exact mO
theorem spec_l1Same.mono:∀ a0 a1 k,LeO (spec_l1Same.f k a0 a1) (spec_l1Same.f (k + 1) a0 a1):=by
 intro a0 a1 k
 have ih0:=spec_l1Same.mono_l k
 unfold spec_l1Same.f
 exact mO
set_option maxHeartbeats 8000000 in
set_option maxRecDepth 100000 in
theorem spec_l1Same.calls (k:Nat) (A0:Option Addr) (c0:Nat) (l0:List Int) (A1:Option Addr) (c1:Nat) (l1:List Int) (r:Bool) (w:World) (hr0:Kd.C (Kd.int .i64) w A0 l0.length l0) (hc0:l0.length ≤ c0) (hr1:Kd.C (Kd.int .i64) w A1 l1.length l1) (hc1:l1.length ≤ c1) (h:spec_l1Same.f k l0 l1 = some r) :
  Calls Try.prog 127 #[.slice A0 l0.length c0,.slice A1 l1.length c1] w fun e w'=>e = .returned (.bool r) ∧ Drawn0 w w':=by
 have HR0:=Aside0.mk hr0
 have HC0:=Aside0.mk hc0
 clear hr0 hc0
 have HR1:=Aside0.mk hr1
 have HC1:=Aside0.mk hc1
 clear hr1 hc1
 have H:(if (l0.length:Int) = (l1.length:Int) then (spec_l1Same.l0 k l0 l1 (l0.length:Int) 0) else (some false)) = some r:=h
 clear h
 by_cases c3:(l0.length:Int) = (l1.length:Int)
 ·rw [if_pos c3] at H
  have c3b0:((l0.length:Int) == (l1.length:Int)) = true:=beq_iff_eq.mpr c3
  have c3b1:((l0.length:Int) != (l1.length:Int)) = false:=bne_eq_false_iff_eq.mpr c3
  have c3b2:(l0.length == l1.length) = true:=by first|simpa using c3|(simp at c3 ⊢;omega)
  clear c3
  have H':=Aside0.mk H
  clear H
  go_enter Try.func127,Try.ntmps127
  go_wp2
  repeat (go_quiet (fail);try go_wp2)
  go_loopg [13] k (fun kq v13 w'=>∃ (x13_1:Int),v13 = .int .i64 x13_1 ∧ Aside0 (spec_l1Same.l0 kq l0 l1 (l0.length:Int) x13_1 = some r) ∧ Aside0 (kq ≤ k) ∧ Drawn0 w w')
  case atStart=>exact ⟨(0),Yb,H',⟨Nat.le_refl _⟩,by repeat (first|exact Drawn0.refl _|apply Drawn0.step)⟩
  case round =>
   clear H'
   try clear c1
   try clear p2
   try clear c3
   try clear c3b0
   try clear c3b1
   try clear c3b2
   obtain ⟨x13_1,rfl,HA,HK1,⟨m1,rfl⟩⟩:=hrel
   cases gk with
   | zero=>exact absurd HA.out (by simp [spec_l1Same.l0])
   | succ k1 =>
    have H:=HA.out
    clear HA
    simp only [spec_l1Same.l0] at H
    by_cases c4:x13_1 < (l0.length:Int)
    ·rw [if_pos c4] at H
     have c4b0:=decide_eq_true c4
     clear c4
     by_cases c5:0 ≤ x13_1
     ·rw [if_pos c5] at H
      have c5b0:=decide_eq_true c5
      clear c5
      by_cases c6:x13_1 < (l0.length:Int)
      ·rw [if_pos c6] at H
       have c6b0:=decide_eq_true c6
       clear c6
       by_cases c7:x13_1 < (l1.length:Int)
       ·rw [if_pos c7] at H
        have c7b0:=decide_eq_true c7
        clear c7
        by_cases c8:(rd l0 x13_1) = (rd l1 x13_1)
        ·rw [if_pos c8] at H
         have c8b0:((rd l0 x13_1) == (rd l1 x13_1)) = true:=beq_iff_eq.mpr c8
         have c8b1:((rd l0 x13_1) != (rd l1 x13_1)) = false:=bne_eq_false_iff_eq.mpr c8
         clear c8
         have H':=Aside0.mk H
         clear H
         have p196:0 ≤ (x13_1:Int):=oD
         have q196:x13_1 < (l0.length:Int):=oD
         obtain ⟨ad196,e196,hx196_0⟩:=Kd.at_int HR0.out x13_1 p196 q196
         cases e196
         replace p196:=eq_true p196
         replace q196:=eq_true q196
         have p197:0 ≤ (x13_1:Int):=oD
         have q197:x13_1 < (l1.length:Int):=oD
         obtain ⟨ad197,e197,hx197_0⟩:=Kd.at_int HR1.out x13_1 p197 q197
         cases e197
         replace p197:=eq_true p197
         replace q197:=eq_true q197
         go_wp2
         repeat (go_quiet (fail);try go_wp2)
         go_roundg k1
         case measure=>have:=HK1.out;omega
         case rel=>exact ⟨(wrap64 (x13_1 + 1)),Yb,H',⟨by have:=HK1.out;omega⟩,by repeat (first|exact Drawn0.refl _|apply Drawn0.step)⟩
        ·rw [if_neg c8] at H
         have c8b0:((rd l0 x13_1) == (rd l1 x13_1)) = false:=beq_eq_false_iff_ne.mpr c8
         have c8b1:((rd l0 x13_1) != (rd l1 x13_1)) = true:=bne_iff_ne.mpr c8
         obtain rfl:=Option.some.inj H
         have p196:0 ≤ (x13_1:Int):=oD
         have q196:x13_1 < (l0.length:Int):=oD
         obtain ⟨ad196,e196,hx196_0⟩:=Kd.at_int HR0.out x13_1 p196 q196
         cases e196
         replace p196:=eq_true p196
         replace q196:=eq_true q196
         have p197:0 ≤ (x13_1:Int):=oD
         have q197:x13_1 < (l1.length:Int):=oD
         obtain ⟨ad197,e197,hx197_0⟩:=Kd.at_int HR1.out x13_1 p197 q197
         cases e197
         replace p197:=eq_true p197
         replace q197:=eq_true q197
         go_wp2
         repeat (go_quiet (fail);try go_wp2)
         go_ret
         exact ⟨by first|rfl|(simp;done)|(simp [*];done),by repeat (first|exact Drawn0.refl _|apply Drawn0.step)⟩
       ·rw [if_neg c7] at H
        exact absurd H (by simp)
      ·rw [if_neg c6] at H
       exact absurd H (by simp)
     ·rw [if_neg c5] at H
      exact absurd H (by simp)
    ·rw [if_neg c4] at H
     have c4b0:decide (x13_1 < (l0.length:Int)) = false:=decide_eq_false c4
     clear c4
     obtain rfl:=Option.some.inj H
     go_wp2
     repeat (go_quiet (fail);try go_wp2)
     go_ret
     exact ⟨by first|rfl|(simp;done)|(simp [*];done),by repeat (first|exact Drawn0.refl _|apply Drawn0.step)⟩
 ·rw [if_neg c3] at H
  have c3b0:((l0.length:Int) == (l1.length:Int)) = false:=beq_eq_false_iff_ne.mpr c3
  have c3b1:((l0.length:Int) != (l1.length:Int)) = true:=bne_iff_ne.mpr c3
  have c3b2:(l0.length == l1.length) = false:=by first|simpa using c3|(simp at c3 ⊢;omega)
  obtain rfl:=Option.some.inj H
  go_enter Try.func127,Try.ntmps127
  go_wp2
  repeat (go_quiet (fail);try go_wp2)
  go_ret
  exact ⟨by first|rfl|(simp;done)|(simp [*];done),by repeat (first|exact Drawn0.refl _|apply Drawn0.step)⟩

/-! ### spec_l2Apply: function 104 -/
def spec_l2Apply.l0:Nat → List (List Int) → List Int → List Int → Int → Int → Option (List Int)
 | 0,_,_,_,_,_=>none
 | k + 1,x0,x5,x8,x9,x10=>if x10 < x9 then (if 0 ≤ x10 then (if x10 < (x8.length:Int) then (if (rd x8 x10) < 0 then (if 0 ≤ (wrap64 ((-1) - (rd x8 x10))) then (if (wrap64 ((-1) - (rd x8 x10))) < (x0.length:Int) then (if ((rd_L2 x0 (wrap64 ((-1) - (rd x8 x10)))).length:Int) > 0 then (if x5.length + (rd_L2 x0 (wrap64 ((-1) - (rd x8 x10)))).length < 17592186044416 then (spec_l2Apply.l0 k x0 (x5 ++ (rd_L2 x0 (wrap64 ((-1) - (rd x8 x10))))) x8 x9 (wrap64 (x10 + 1))) else (none)) else (if x5.length < 17592186044416 then (spec_l2Apply.l0 k x0 (x5 ++ [rd x8 x10]) x8 x9 (wrap64 (x10 + 1))) else (none))) else (none)) else (none)) else (if x5.length < 17592186044416 then (spec_l2Apply.l0 k x0 (x5 ++ [rd x8 x10]) x8 x9 (wrap64 (x10 + 1))) else (none))) else (none)) else (none)) else (some x5)
def spec_l2Apply.f (k:Nat) (l0:List (List Int)) (l1:List Int):Option (List Int):=spec_l2Apply.l0 k l0 ([]:List Int) l1 (l1.length:Int) 0
theorem spec_l2Apply.mono_l:∀ k,(∀ y0 y1 y2 y3 y4,LeO (spec_l2Apply.l0 k y0 y1 y2 y3 y4) (spec_l2Apply.l0 (k + 1) y0 y1 y2 y3 y4))
 | 0=>fun _ _ _ _ _ r h=>by simp [spec_l2Apply.l0] at h
 | k + 1=>by
  have ih0:=spec_l2Apply.mono_l k
  ·intro y0 y1 y2 y3 y4
   unfold spec_l2Apply.l0
   exact mO
theorem spec_l2Apply.mono:∀ a0 a1 k,LeO (spec_l2Apply.f k a0 a1) (spec_l2Apply.f (k + 1) a0 a1):=by
 intro a0 a1 k
 have ih0:=spec_l2Apply.mono_l k
 unfold spec_l2Apply.f
 exact mO
set_option maxHeartbeats 8000000 in
set_option maxRecDepth 100000 in
theorem spec_l2Apply.calls (k:Nat) (A0:Option Addr) (c0:Nat) (l0:List (List Int)) (A1:Option Addr) (c1:Nat) (l1:List Int) (r:List Int) (w:World) (hr0:Kd.C (Kd.slice 3 (Kd.int .i64)) w A0 l0.length l0) (hc0:l0.length ≤ c0) (hr1:Kd.C (Kd.int .i64) w A1 l1.length l1) (hc1:l1.length ≤ c1) (h:spec_l2Apply.f k l0 l1 = some r) :
  Calls Try.prog 104 #[.slice A0 l0.length c0,.slice A1 l1.length c1] w fun e w'=>∃ v0_:Value,e = .returned (v0_) ∧ Kd.R (Kd.int .i64) 3 w' w.heap.size (fun _=>True) v0_ r ∧ Below w.heap.size w w':=by
 have HR0:=Aside0.mk hr0
 have HC0:=Aside0.mk hc0
 clear hr0 hc0
 have HR1:=Aside0.mk hr1
 have HC1:=Aside0.mk hc1
 clear hr1 hc1
 have HB:=Aside0.mk (Below.refl w.heap.size w)
 have H:(spec_l2Apply.l0 k l0 ([]:List Int) l1 (l1.length:Int) 0) = some r:=h
 clear h
 have H':=Aside0.mk H
 clear H
 go_enter Try.func104,Try.ntmps104
 go_wp2
 go_loopg [5,10] k (fun kq v5 v10 w'=>∃ (x5_1:List Int) (x10_1:Int),v10 = .int .i64 x10_1 ∧ Aside0 (spec_l2Apply.l0 kq l0 x5_1 l1 (l1.length:Int) x10_1 = some r) ∧ Aside0 (kq ≤ k) ∧ Aside0 (Kd.R (Kd.int .i64) 3 w' w.heap.size (fun _=>True) v5 x5_1) ∧ Aside0 (Below w.heap.size w w'))
 case atStart=>exact ⟨(([]:List Int)),(0),Yb,H',⟨Nat.le_refl _⟩,⟨by first|exact Kd.R_nil _ _ _ _ _|exact Kd.N_nil _ _ _ _ _|exact Kd.V_nil _ _ _ _ _|exact Kd.Q_nil _ _ _ _ _|exact Kd.S_nil _ _ _ _ _⟩,⟨bH⟩⟩
 case round =>
  clear H'
  try clear c1
  try clear p2
  obtain ⟨x5_1,x10_1,rfl,HA,HK1,HO_5,HB⟩:=hrel
  cases gk with
  | zero=>exact absurd HA.out (by simp [spec_l2Apply.l0])
  | succ k1 =>
   have H:=HA.out
   clear HA
   simp only [spec_l2Apply.l0] at H
   by_cases c3:x10_1 < (l1.length:Int)
   ·rw [if_pos c3] at H
    have c3b0:=decide_eq_true c3
    clear c3
    by_cases c4:0 ≤ x10_1
    ·rw [if_pos c4] at H
     have c4b0:=decide_eq_true c4
     clear c4
     by_cases c5:x10_1 < (l1.length:Int)
     ·rw [if_pos c5] at H
      have c5b0:=decide_eq_true c5
      clear c5
      by_cases c6:(rd l1 x10_1) < 0
      ·rw [if_pos c6] at H
       have c6b0:=decide_eq_true c6
       clear c6
       obtain ⟨ji7,hji7⟩:∃ j_:Int,(wrap64 ((-1) - (rd l1 x10_1))) = j_:=⟨_,rfl⟩
       replace H:(if 0 ≤ (ji7) then (if (ji7) < (l0.length:Int) then (if ((rd_L2 l0 (ji7)).length:Int) > 0 then (if x5_1.length + (rd_L2 l0 (ji7)).length < 17592186044416 then (spec_l2Apply.l0 k1 l0 (x5_1 ++ (rd_L2 l0 (ji7))) l1 (l1.length:Int) (wrap64 (x10_1 + 1))) else (none)) else (if x5_1.length < 17592186044416 then (spec_l2Apply.l0 k1 l0 (x5_1 ++ [rd l1 x10_1]) l1 (l1.length:Int) (wrap64 (x10_1 + 1))) else (none))) else (none)) else (none)) = some r:=by first|(rw [hji7] at H;exact H)|(simp only [hji7] at H ⊢;exact H)
       have hji7w:(IntKind.i64.wrap ((-1) - (rd l1 x10_1))) = ji7:=(i64_w _).trans hji7
       by_cases c8:0 ≤ (ji7)
       ·rw [if_pos c8] at H
        have c8b0:=decide_eq_true c8
        clear c8
        by_cases c9:(ji7) < (l0.length:Int)
        ·rw [if_pos c9] at H
         have c9b0:=decide_eq_true c9
         clear c9
         by_cases c10:((rd_L2 l0 (ji7)).length:Int) > 0
         ·rw [if_pos c10] at H
          have c10b0:decide (0 < ((rd_L2 l0 (ji7)).length:Int)) = true:=decide_eq_true c10
          have c10b1:decide (0 < (rd_L2 l0 (ji7)).length) = true:=decide_eq_true (by omega)
          clear c10
          by_cases c11:x5_1.length + (rd_L2 l0 (ji7)).length < 17592186044416
          ·rw [if_pos c11] at H
           have LMc11:=Aside0.mk c11
           clear c11
           obtain ⟨y201,hy201⟩:∃ y_:List Int,y_ = (x5_1 ++ (rd_L2 l0 (ji7))):=⟨_,rfl⟩
           replace H:(spec_l2Apply.l0 k1 l0 y201 l1 (l1.length:Int) (wrap64 (x10_1 + 1))) = some r:=by first|(rw [hy201];with_reducible exact H)|(have H2_:=(Option.bind_some _ _).symm.trans H;rw [hy201];with_reducible exact H2_)|(have H2_:=(Option.bind_some _ _).symm.trans H;with_reducible exact H2_)|with_reducible exact H|(rw [hy201];exact H)|exact H
           have Ny201:=Aside0.mk hy201
           clear hy201
           have H':=Aside0.mk H
           clear H
           have p198:0 ≤ (x10_1:Int):=oD
           have q198:x10_1 < (l1.length:Int):=oD
           obtain ⟨ad198,e198,hx198_0⟩:=Kd.at_int HR1.out x10_1 p198 q198
           cases e198
           replace hx198_0:=(HB.out.cell (World.block_lt_of_cell? w _ hx198_0)).trans hx198_0
           replace p198:=eq_true p198
           replace q198:=eq_true q198
           have p199:0 ≤ ((ji7):Int):=oD
           have q199:(ji7) < (l0.length:Int):=oD
           obtain ⟨ad199,A199_0,c199_0,e199,hx199_0,hl199_0,hi199_0⟩:=at_L2 HR0.out (ji7) p199 q199
           cases e199
           replace hx199_0:=(HB.out.cell (World.block_lt_of_cell? w _ hx199_0)).trans hx199_0
           have HR199_0:=Aside0.mk hi199_0
           have HC199_0:=Aside0.mk hl199_0
           clear hi199_0 hl199_0
           replace p199:=eq_true p199
           replace q199:=eq_true q199
           have p200:0 ≤ ((ji7):Int):=oD
           have q200:(ji7) < (l0.length:Int):=oD
           obtain ⟨ad200,A200_0,c200_0,e200,hx200_0,hl200_0,hi200_0⟩:=at_L2 HR0.out (ji7) p200 q200
           obtain rfl:ad199 = ad200:=(by injection e200)
           replace hx200_0:=(HB.out.cell (World.block_lt_of_cell? w _ hx200_0)).trans hx200_0
           have HR200_0:=Aside0.mk hi200_0
           have HC200_0:=Aside0.mk hl200_0
           clear hi200_0 hl200_0
           replace p200:=eq_true p200
           replace q200:=eq_true q200
           have ea_:=Option.some.inj (hx199_0.symm.trans hx200_0)
           injection ea_ with ea_ en_ ec_
           subst ea_
           subst ec_
           clear en_
           go_wp2_with (first|((with_reducible refine gate_builtin (b:=.append) (xs:=#[.tmp 25,.tmp 30]) rfl ?_);(try (refine gate_guard (by rfl) ?_;dsimp only));at_builtin;refine Kd.R_append_rows (Kd.int .i64) (w0:=w) w.heap.size rfl (.tmp 25) (.tmp 30) 22 3 (.int .i64 0) 8 rfl Try.underlying22 info3 rfl (by decide) (by first|decide|omega) u5 x5_1 (rd_L2 l0 (ji7)) _ _ _ (fun _=>True) (fun _=>False) rfl rfl ?aO ?aR (fun _ _ h=>h) (fun _ h=>h.elim) ?aF ?aB ?aS ?aL ?_;(case aR=>exact sC HR200_0);(case aB=>exact bH);(case aF=>exact (fun _ _=>trivial));(case aO=>exact (rR HO_5));(case aS=>exact (below_size bH));(case aL=>have:=LMc11.out;omega);intro v202 w12 ho hb hg hat;rw [← Ny201.out] at ho;have n0_:=Aside0.mk (hb);have n1_:=Aside0.mk (ho);clear HB;clear HO_5;have HB:=n0_;have HO203:=n1_;clear n0_ n1_;clear ho hb hg hat))
           go_roundg k1
           case measure=>have:=HK1.out;omega
           case rel=>exact ⟨(y201),(wrap64 (x10_1 + 1)),Yb,H',⟨by have:=HK1.out;omega⟩,⟨rR HO203⟩,⟨bH⟩⟩
          ·rw [if_neg c11] at H
           exact absurd H (by simp)
         ·rw [if_neg c10] at H
          have c10b0:decide (0 < ((rd_L2 l0 (ji7)).length:Int)) = false:=decide_eq_false c10
          have c10b1:decide (0 < (rd_L2 l0 (ji7)).length) = false:=decide_eq_false (by omega)
          clear c10
          by_cases c13:x5_1.length < 17592186044416
          ·rw [if_pos c13] at H
           have LMc13:=Aside0.mk c13
           clear c13
           obtain ⟨y204,hy204⟩:∃ y_:List Int,y_ = (x5_1 ++ [rd l1 x10_1]):=⟨_,rfl⟩
           replace H:(spec_l2Apply.l0 k1 l0 y204 l1 (l1.length:Int) (wrap64 (x10_1 + 1))) = some r:=by first|(rw [hy204];with_reducible exact H)|(have H2_:=(Option.bind_some _ _).symm.trans H;rw [hy204];with_reducible exact H2_)|(have H2_:=(Option.bind_some _ _).symm.trans H;with_reducible exact H2_)|with_reducible exact H|(rw [hy204];exact H)|exact H
           have Ny204:=Aside0.mk hy204
           clear hy204
           have H':=Aside0.mk H
           clear H
           have p198:0 ≤ (x10_1:Int):=oD
           have q198:x10_1 < (l1.length:Int):=oD
           obtain ⟨ad198,e198,hx198_0⟩:=Kd.at_int HR1.out x10_1 p198 q198
           cases e198
           replace hx198_0:=(HB.out.cell (World.block_lt_of_cell? w _ hx198_0)).trans hx198_0
           replace p198:=eq_true p198
           replace q198:=eq_true q198
           have p199:0 ≤ ((ji7):Int):=oD
           have q199:(ji7) < (l0.length:Int):=oD
           obtain ⟨ad199,A199_0,c199_0,e199,hx199_0,hl199_0,hi199_0⟩:=at_L2 HR0.out (ji7) p199 q199
           cases e199
           replace hx199_0:=(HB.out.cell (World.block_lt_of_cell? w _ hx199_0)).trans hx199_0
           have HR199_0:=Aside0.mk hi199_0
           have HC199_0:=Aside0.mk hl199_0
           clear hi199_0 hl199_0
           replace p199:=eq_true p199
           replace q199:=eq_true q199
           go_wp2_with (first|((with_reducible refine gate_builtin (b:=.append) (xs:=#[.tmp 32,.tmp 34]) rfl ?_);(try (refine gate_guard (by rfl) ?_;dsimp only));at_builtin;refine Kd.R_append (Kd.int .i64) (w0:=w) w.heap.size rfl (.tmp 32) (.tmp 34) 22 3 (.int .i64 0) 8 rfl Try.underlying22 info3 rfl (by decide) (by first|decide|omega) u5 x5_1 (rd l1 x10_1) [.int .i64 (rd l1 x10_1)] (fun _=>True) (fun _=>False) rfl rfl ?aP (fun _ hk=>hk.elim) ?aF ?aO ?aB ?aS ?aL ?_;(case aP=>exact rfl);(case aB=>exact bH);(case aF=>exact (fun _ _=>trivial));(case aO=>exact (rR HO_5));(case aS=>exact (below_size bH));(case aL=>have:=LMc13.out;omega);intro v205 w14 ho hb hg hat;rw [← Ny204.out] at ho;have n0_:=Aside0.mk (hb);have n1_:=Aside0.mk (ho);clear HB;clear HO_5;have HB:=n0_;have HO206:=n1_;clear n0_ n1_;clear ho hb hg hat))
           go_roundg k1
           case measure=>have:=HK1.out;omega
           case rel=>exact ⟨(y204),(wrap64 (x10_1 + 1)),Yb,H',⟨by have:=HK1.out;omega⟩,⟨rR HO206⟩,⟨bH⟩⟩
          ·rw [if_neg c13] at H
           exact absurd H (by simp)
        ·rw [if_neg c9] at H
         exact absurd H (by simp)
       ·rw [if_neg c8] at H
        exact absurd H (by simp)
      ·rw [if_neg c6] at H
       have c6b0:decide ((rd l1 x10_1) < 0) = false:=decide_eq_false c6
       clear c6
       by_cases c15:x5_1.length < 17592186044416
       ·rw [if_pos c15] at H
        have LMc15:=Aside0.mk c15
        clear c15
        obtain ⟨y207,hy207⟩:∃ y_:List Int,y_ = (x5_1 ++ [rd l1 x10_1]):=⟨_,rfl⟩
        replace H:(spec_l2Apply.l0 k1 l0 y207 l1 (l1.length:Int) (wrap64 (x10_1 + 1))) = some r:=by first|(rw [hy207];with_reducible exact H)|(have H2_:=(Option.bind_some _ _).symm.trans H;rw [hy207];with_reducible exact H2_)|(have H2_:=(Option.bind_some _ _).symm.trans H;with_reducible exact H2_)|with_reducible exact H|(rw [hy207];exact H)|exact H
        have Ny207:=Aside0.mk hy207
        clear hy207
        have H':=Aside0.mk H
        clear H
        have p198:0 ≤ (x10_1:Int):=oD
        have q198:x10_1 < (l1.length:Int):=oD
        obtain ⟨ad198,e198,hx198_0⟩:=Kd.at_int HR1.out x10_1 p198 q198
        cases e198
        replace hx198_0:=(HB.out.cell (World.block_lt_of_cell? w _ hx198_0)).trans hx198_0
        replace p198:=eq_true p198
        replace q198:=eq_true q198
        go_wp2_with (first|((with_reducible refine gate_builtin (b:=.append) (xs:=#[.tmp 32,.tmp 34]) rfl ?_);(try (refine gate_guard (by rfl) ?_;dsimp only));at_builtin;refine Kd.R_append (Kd.int .i64) (w0:=w) w.heap.size rfl (.tmp 32) (.tmp 34) 22 3 (.int .i64 0) 8 rfl Try.underlying22 info3 rfl (by decide) (by first|decide|omega) u5 x5_1 (rd l1 x10_1) [.int .i64 (rd l1 x10_1)] (fun _=>True) (fun _=>False) rfl rfl ?aP (fun _ hk=>hk.elim) ?aF ?aO ?aB ?aS ?aL ?_;(case aP=>exact rfl);(case aB=>exact bH);(case aF=>exact (fun _ _=>trivial));(case aO=>exact (rR HO_5));(case aS=>exact (below_size bH));(case aL=>have:=LMc15.out;omega);intro v208 w16 ho hb hg hat;rw [← Ny207.out] at ho;have n0_:=Aside0.mk (hb);have n1_:=Aside0.mk (ho);clear HB;clear HO_5;have HB:=n0_;have HO209:=n1_;clear n0_ n1_;clear ho hb hg hat))
        go_roundg k1
        case measure=>have:=HK1.out;omega
        case rel=>exact ⟨(y207),(wrap64 (x10_1 + 1)),Yb,H',⟨by have:=HK1.out;omega⟩,⟨rR HO209⟩,⟨bH⟩⟩
       ·rw [if_neg c15] at H
        exact absurd H (by simp)
     ·rw [if_neg c5] at H
      exact absurd H (by simp)
    ·rw [if_neg c4] at H
     exact absurd H (by simp)
   ·rw [if_neg c3] at H
    have c3b0:decide (x10_1 < (l1.length:Int)) = false:=decide_eq_false c3
    clear c3
    obtain rfl:=Option.some.inj H
    go_wp2
    go_ret
    exact ⟨_,by first|rfl|(simp [errW_none,errW_some] <;> rfl)|(simp [*,errW_none,errW_some] <;> rfl),rR HO_5,bH⟩

/-! ### spec_l1Put: function 56 -/
def spec_l1Put.l0:Nat → List Int → Int → Int → Option (List Int)
 | 0,_,_,_=>none
 | k + 1,x0,x1,x5=>if x5 < (x0.length:Int) then (if 0 ≤ x5 then (if (rd x0 x5) < x1 then (spec_l1Put.l0 k x0 x1 (wrap64 (x5 + 1))) else (if (rd x0 x5) = x1 then (some x0) else ((some (([]:List Int):List Int)).bind fun y212=>(if x5 ≤ (x0.length:Int) then ((some (x0.take (x5:Int).toNat:List Int)).bind fun y215=>(if y212.length + y215.length < 17592186044416 then ((some (y212 ++ y215:List Int)).bind fun y219=>(if y219.length < 17592186044416 then ((some (y219 ++ [x1]:List Int)).bind fun y222=>((some (x0.drop (x5:Int).toNat:List Int)).bind fun y225=>(if y222.length + y225.length < 17592186044416 then (some (y222 ++ y225)) else (none)))) else (none))) else (none))) else (none))))) else (none)) else ((some (([]:List Int):List Int)).bind fun y232=>(if 0 ≤ x5 then (if x5 ≤ (x0.length:Int) then ((some (x0.take (x5:Int).toNat:List Int)).bind fun y235=>(if y232.length + y235.length < 17592186044416 then ((some (y232 ++ y235:List Int)).bind fun y239=>(if y239.length < 17592186044416 then ((some (y239 ++ [x1]:List Int)).bind fun y242=>((some (x0.drop (x5:Int).toNat:List Int)).bind fun y245=>(if y242.length + y245.length < 17592186044416 then (some (y242 ++ y245)) else (none)))) else (none))) else (none))) else (none)) else (none)))
def spec_l1Put.f (k:Nat) (l0:List Int) (a1:Int):Option (List Int):=spec_l1Put.l0 k l0 a1 0
theorem spec_l1Put.mono_l:∀ k,(∀ y0 y1 y2,LeO (spec_l1Put.l0 k y0 y1 y2) (spec_l1Put.l0 (k + 1) y0 y1 y2))
 | 0=>fun _ _ _ r h=>by simp [spec_l1Put.l0] at h
 | k + 1=>by
  have ih0:=spec_l1Put.mono_l k
  ·intro y0 y1 y2
   unfold spec_l1Put.l0
   exact mO
theorem spec_l1Put.mono:∀ a0 a1 k,LeO (spec_l1Put.f k a0 a1) (spec_l1Put.f (k + 1) a0 a1):=by
 intro a0 a1 k
 have ih0:=spec_l1Put.mono_l k
 unfold spec_l1Put.f
 exact mO
set_option maxHeartbeats 8000000 in
set_option maxRecDepth 100000 in
theorem spec_l1Put.calls (k:Nat) (P0_:Nat → Prop) (u9000_:Value) (l0:List Int) (a1:Int) (r:List Int) (w0 w:World) (hB:Below w0.heap.size w0 w) (ho0:Kd.R (Kd.int .i64) 3 w w0.heap.size P0_ u9000_ l0) (h:spec_l1Put.f k l0 a1 = some r) :
  Calls Try.prog 56 #[u9000_,.int .i64 a1] w fun e w'=>∃ v0_:Value,e = .returned (v0_) ∧ Kd.R (Kd.int .i64) 3 w' w0.heap.size (fun k_=>(P0_ k_ ∨ w.heap.size ≤ k_)) v0_ r ∧ Below w0.heap.size w0 w' ∧ Kept w w' (fun k_=>P0_ k_):=by
 have HO0:=Aside0.mk (show Kd.R (Kd.int .i64) 3 w w0.heap.size (fun k_=>(P0_ k_ ∨ w.heap.size ≤ k_)) u9000_ l0 from Kd.R_mono ho0 (fun k_ hk=>(.inl hk)))
 have HK:=Aside0.mk (Kept.refl w (fun k_=>P0_ k_))
 have HW0:=Aside0.mk hB.size
 have HB:=Aside0.mk hB
 clear hB
 have H:(spec_l1Put.l0 k l0 a1 0) = some r:=h
 clear h
 have H':=Aside0.mk H
 clear H
 go_enter Try.func56,Try.ntmps56
 go_wp2
 go_loopg [5] k (fun kq v5 w'=>∃ (x5_1:Int),v5 = .int .i64 x5_1 ∧ Aside0 (spec_l1Put.l0 kq l0 a1 x5_1 = some r) ∧ Aside0 (kq ≤ k) ∧ Aside0 (Kd.R (Kd.int .i64) 3 w' w0.heap.size (fun k_=>(P0_ k_ ∨ w.heap.size ≤ k_)) u9000_ l0) ∧ Aside0 (Kept w w' (fun k_=>P0_ k_)) ∧ Aside0 (Below w0.heap.size w0 w'))
 case atStart=>exact ⟨(0),Yb,H',⟨Nat.le_refl _⟩,⟨rR HO0⟩,⟨kH⟩,⟨bH⟩⟩
 case round =>
  clear H'
  try clear p2
  obtain ⟨x5_1,rfl,HA,HK1,HO_0,HK,HB⟩:=hrel
  cases gk with
  | zero=>exact absurd HA.out (by simp [spec_l1Put.l0])
  | succ k1 =>
   have H:=HA.out
   clear HA
   simp only [spec_l1Put.l0] at H
   by_cases c3:x5_1 < (l0.length:Int)
   ·rw [if_pos c3] at H
    have c3b0:=decide_eq_true c3
    clear c3
    by_cases c4:0 ≤ x5_1
    ·rw [if_pos c4] at H
     have c4b0:=decide_eq_true c4
     clear c4
     by_cases c5:(rd l0 x5_1) < a1
     ·rw [if_pos c5] at H
      have c5b0:=decide_eq_true c5
      clear c5
      have H':=Aside0.mk H
      clear H
      obtain ⟨Ao6,co6,eo6⟩:=Kd.R_slice HO_0.out
      subst eo6
      have p210:0 ≤ (x5_1:Int):=oD
      have q210:x5_1 < (l0.length:Int):=oD
      obtain ⟨ad210,e210,hx210_0⟩:=Kd.at_int (Kd.R_reads' HO_0.out).2.2 x5_1 p210 q210
      cases e210
      replace p210:=eq_true p210
      replace q210:=eq_true q210
      go_wp2
      go_roundg k1
      case measure=>have:=HK1.out;omega
      case rel=>exact ⟨(wrap64 (x5_1 + 1)),Yb,H',⟨by have:=HK1.out;omega⟩,⟨rR HO_0⟩,⟨kH⟩,⟨bH⟩⟩
     ·rw [if_neg c5] at H
      have c5b0:decide ((rd l0 x5_1) < a1) = false:=decide_eq_false c5
      clear c5
      by_cases c7:(rd l0 x5_1) = a1
      ·rw [if_pos c7] at H
       have c7b0:((rd l0 x5_1) == a1) = true:=beq_iff_eq.mpr c7
       have c7b1:((rd l0 x5_1) != a1) = false:=bne_eq_false_iff_eq.mpr c7
       clear c7
       obtain rfl:=Option.some.inj H
       obtain ⟨Ao8,co8,eo8⟩:=Kd.R_slice HO_0.out
       subst eo8
       have p210:0 ≤ (x5_1:Int):=oD
       have q210:x5_1 < (l0.length:Int):=oD
       obtain ⟨ad210,e210,hx210_0⟩:=Kd.at_int (Kd.R_reads' HO_0.out).2.2 x5_1 p210 q210
       cases e210
       replace p210:=eq_true p210
       replace q210:=eq_true q210
       have p211:0 ≤ (x5_1:Int):=oD
       have q211:x5_1 < (l0.length:Int):=oD
       obtain ⟨ad211,e211,hx211_0⟩:=Kd.at_int (Kd.R_reads' HO_0.out).2.2 x5_1 p211 q211
       obtain rfl:ad210 = ad211:=(by injection e211)
       replace p211:=eq_true p211
       replace q211:=eq_true q211
       go_wp2
       go_ret
       exact ⟨_,by first|rfl|(simp [errW_none,errW_some] <;> rfl)|(simp [*,errW_none,errW_some] <;> rfl),rR HO_0,bH,kH⟩
      ·rw [if_neg c7] at H
       have c7b0:((rd l0 x5_1) == a1) = false:=beq_eq_false_iff_ne.mpr c7
       have c7b1:((rd l0 x5_1) != a1) = true:=bne_iff_ne.mpr c7
       obtain ⟨y212,hy212⟩:∃ y_:List Int,y_ = (([]:List Int)):=⟨_,rfl⟩
       replace H:(if x5_1 ≤ (l0.length:Int) then ((some (l0.take (x5_1:Int).toNat:List Int)).bind fun y215=>(if y212.length + y215.length < 17592186044416 then ((some (y212 ++ y215:List Int)).bind fun y219=>(if y219.length < 17592186044416 then ((some (y219 ++ [a1]:List Int)).bind fun y222=>((some (l0.drop (x5_1:Int).toNat:List Int)).bind fun y225=>(if y222.length + y225.length < 17592186044416 then (some (y222 ++ y225)) else (none)))) else (none))) else (none))) else (none)) = some r:=by first|(rw [hy212];with_reducible exact H)|(have H2_:=(Option.bind_some _ _).symm.trans H;rw [hy212];with_reducible exact H2_)|(have H2_:=(Option.bind_some _ _).symm.trans H;with_reducible exact H2_)|with_reducible exact H|(rw [hy212];exact H)|exact H
       have Ny212:=Aside0.mk hy212
       clear hy212
       have c9b0:=eq_true (oD:0 ≤ x5_1)
       by_cases c10:x5_1 ≤ (l0.length:Int)
       ·rw [if_pos c10] at H
        have c10b0:=eq_true c10
        have c10b1:=decide_eq_true c10
        clear c10
        obtain ⟨y215,hy215⟩:∃ y_:List Int,y_ = (l0.take (x5_1:Int).toNat):=⟨_,rfl⟩
        replace H:(if y212.length + y215.length < 17592186044416 then ((some (y212 ++ y215:List Int)).bind fun y219=>(if y219.length < 17592186044416 then ((some (y219 ++ [a1]:List Int)).bind fun y222=>((some (l0.drop (x5_1:Int).toNat:List Int)).bind fun y225=>(if y222.length + y225.length < 17592186044416 then (some (y222 ++ y225)) else (none)))) else (none))) else (none)) = some r:=by first|(rw [hy215];with_reducible exact H)|(have H2_:=(Option.bind_some _ _).symm.trans H;rw [hy215];with_reducible exact H2_)|(have H2_:=(Option.bind_some _ _).symm.trans H;with_reducible exact H2_)|with_reducible exact H|(rw [hy215];exact H)|exact H
        have Ny215:=Aside0.mk hy215
        clear hy215
        by_cases c11:y212.length + y215.length < 17592186044416
        ·rw [if_pos c11] at H
         have LMc11:=Aside0.mk c11
         clear c11
         obtain ⟨y219,hy219⟩:∃ y_:List Int,y_ = (y212 ++ y215):=⟨_,rfl⟩
         replace H:(if y219.length < 17592186044416 then ((some (y219 ++ [a1]:List Int)).bind fun y222=>((some (l0.drop (x5_1:Int).toNat:List Int)).bind fun y225=>(if y222.length + y225.length < 17592186044416 then (some (y222 ++ y225)) else (none)))) else (none)) = some r:=by first|(rw [hy219];with_reducible exact H)|(have H2_:=(Option.bind_some _ _).symm.trans H;rw [hy219];with_reducible exact H2_)|(have H2_:=(Option.bind_some _ _).symm.trans H;with_reducible exact H2_)|with_reducible exact H|(rw [hy219];exact H)|exact H
         have Ny219:=Aside0.mk hy219
         clear hy219
         by_cases c12:y219.length < 17592186044416
         ·rw [if_pos c12] at H
          have LMc12:=Aside0.mk c12
          clear c12
          obtain ⟨y222,hy222⟩:∃ y_:List Int,y_ = (y219 ++ [a1]):=⟨_,rfl⟩
          replace H:((some (l0.drop (x5_1:Int).toNat:List Int)).bind fun y225=>(if y222.length + y225.length < 17592186044416 then (some (y222 ++ y225)) else (none))) = some r:=by first|(rw [hy222];with_reducible exact H)|(have H2_:=(Option.bind_some _ _).symm.trans H;rw [hy222];with_reducible exact H2_)|(have H2_:=(Option.bind_some _ _).symm.trans H;with_reducible exact H2_)|with_reducible exact H|(rw [hy222];exact H)|exact H
          have Ny222:=Aside0.mk hy222
          clear hy222
          have c13b0:=eq_true (oD:0 ≤ x5_1)
          have c14b0:=eq_true (oD:x5_1 ≤ (l0.length:Int))
          obtain ⟨y225,hy225⟩:∃ y_:List Int,y_ = (l0.drop (x5_1:Int).toNat):=⟨_,rfl⟩
          replace H:(if y222.length + y225.length < 17592186044416 then (some (y222 ++ y225)) else (none)) = some r:=by first|(rw [hy225];with_reducible exact H)|(have H2_:=(Option.bind_some _ _).symm.trans H;rw [hy225];with_reducible exact H2_)|(have H2_:=(Option.bind_some _ _).symm.trans H;with_reducible exact H2_)|with_reducible exact H|(rw [hy225];exact H)|exact H
          have Ny225:=Aside0.mk hy225
          clear hy225
          by_cases c15:y222.length + y225.length < 17592186044416
          ·rw [if_pos c15] at H
           have LMc15:=Aside0.mk c15
           clear c15
           obtain ⟨y229,hy229⟩:∃ y_:List Int,y_ = (y222 ++ y225):=⟨_,rfl⟩
           replace H:(some y229) = some r:=by first|(rw [hy229];with_reducible exact H)|(have H2_:=(Option.bind_some _ _).symm.trans H;rw [hy229];with_reducible exact H2_)|(have H2_:=(Option.bind_some _ _).symm.trans H;with_reducible exact H2_)|with_reducible exact H|(rw [hy229];exact H)|exact H
           have Ny229:=Aside0.mk hy229
           clear hy229
           obtain rfl:=Option.some.inj H
           obtain ⟨Ao16,co16,eo16⟩:=Kd.R_slice HO_0.out
           subst eo16
           have p210:0 ≤ (x5_1:Int):=oD
           have q210:x5_1 < (l0.length:Int):=oD
           obtain ⟨ad210,e210,hx210_0⟩:=Kd.at_int (Kd.R_reads' HO_0.out).2.2 x5_1 p210 q210
           cases e210
           replace p210:=eq_true p210
           replace q210:=eq_true q210
           have p211:0 ≤ (x5_1:Int):=oD
           have q211:x5_1 < (l0.length:Int):=oD
           obtain ⟨ad211,e211,hx211_0⟩:=Kd.at_int (Kd.R_reads' HO_0.out).2.2 x5_1 p211 q211
           obtain rfl:ad210 = ad211:=(by injection e211)
           replace p211:=eq_true p211
           replace q211:=eq_true q211
           go_wp2_with (first|((with_reducible refine gate_dst (N:=34) rfl ?_);refine Kd.R_lit (Kd.int .i64) _ 3 ?hg (N:=34) ?hd (xs:=([]:List Int)) (inner:=[]) (ok:=fun _=>True) (okp:=fun _=>True) ?hr ?hp (fun _ hk=>hk) trivial (Below.refl _ _) (Nat.le_refl _) (by simp) ?_;(case hd=>rfl);(case hg=>rfl);(case hr=>first|(go_simp;done)|(go_simp;rfl));(case hp=>exact (Reps.none _ _));intro v213 w17 ho18 hb hg_ hnew_;clear hg_ hnew_;(first|rw [← Ny212.out] at ho18|(simp only [Int.reduceToNat] at ho18;rw [← Ny212.out] at ho18));have HO214:=Aside0.mk (Kd.R_lower (Kd.R_new' (Kd.R_newM (M:=fun k_=>(P0_ k_ ∨ w.heap.size ≤ k_)) ho18 Yg (fun k_ h_=>.inr h_)) (Kd.R_lt (rR HO_0))) (below_size bH));replace HO_0:=Aside0.mk (Kd.R_elder' (rR HO_0) (Kd.R_base ho18) hb);replace HK:=Aside0.mk (Kept.below (S:=(fun k_=>P0_ k_)) kH hb);replace HB:=Aside0.mk (below_step bH hb);clear hb ho18;have q19:(x5_1:Int) ≤ ((l0.length:Int):Int):=oD;obtain ⟨i019,hi019,_,hsz19,_⟩:=info_parts info3;have hroom19:l0.length ≤ co16:=(Kd.R_reads' HO_0.out).2.1;have hC19:Kd.C (Kd.int .i64) _ (some ad210) l0.length l0:=(Kd.R_reads' HO_0.out).2.2;have hcut19:=cut_to (P:=Try.prog) 22 3 .i64 Try.underlying22 hi019 (some ad210) l0.length co16 x5_1 (oD) q19 hroom19;have hr19:=Kd.C_take (m:=(x5_1:Int).toNat) hC19 (by omega);have hy19:y215.length = (x5_1:Int).toNat:=(by rw [Ny215.out,List.length_take];omega);rw [← Ny215.out] at hr19;rw [← hy19] at hcut19;have HR218:=Aside0.mk hr19;have HC218:=Aside0.mk (show y215.length ≤ co16 from by omega);clear hr19 hC19 hroom19 hi019 hsz19;have KY19:=Aside0.mk hy19;clear hy19;have KL19:=Aside0.mk (show (x5_1:Int).toNat ≤ l0.length from by omega);replace q19:=eq_true q19)|((with_reducible refine gate_builtin (b:=.append) (xs:=#[.tmp 34,.tmp 37]) rfl ?_);at_builtin;refine Kd.R_append_rows (Kd.int .i64) (w0:=w0) w0.heap.size rfl (.tmp 34) (.tmp 37) 22 3 (.int .i64 0) 8 rfl Try.underlying22 info3 rfl (by decide) (by first|decide|omega) v213 y212 y215 _ _ _ (fun k_=>(P0_ k_ ∨ w.heap.size ≤ k_) ∧ some k_ ≠ (.slice (some ad210) l0.length co16:Value).ownBlock) (fun _=>False) rfl rfl ?aO ?aR (fun _ _ h=>h) (fun _ h=>h.elim) ?aF ?aB ?aS ?aL ?_;(case aR=>repeat (first|exact (by repeat (first|(with_reducible exact HR218.out)|(with_reducible refine Kd.C_alloc ?_ _)|(with_reducible refine Kd.C_drewN ?_ _)|(with_reducible refine Kd.C_drew ?_)|exact HR218.out))|(with_reducible refine Kd.C_alloc ?_ _)|(with_reducible refine Kd.C_drewN ?_ _)|(with_reducible refine Kd.C_drew ?_)));(case aB=>exact bH);(case aF=>exact (fun k_ hk=>⟨(.inr (Nat.le_trans Yg hk)),Kd.fresh' (Kd.R_lt (rR HO_0)) k_ hk⟩));(case aO=>exact (by (with_reducible repeat (first|apply Kd.R_alloc|apply Kd.R_drewN|apply Kd.R_drew));exact Kd.R_mono HO214.out (fun _ hk=>⟨hk.1.1,hk.2⟩)));(case aS=>exact (below_size bH));(case aL=>have:=LMc11.out;omega);intro v220 w20 ho hb hg hat;rw [← Ny219.out] at ho;have n0_:=Aside0.mk (Kd.R_after (ok:=(fun k_=>(P0_ k_ ∨ w.heap.size ≤ k_))) (rR HO_0) hg hat);have n1_:=Aside0.mk (hb);have n2_:=Aside0.mk (Kept.of_grown (S:=(fun k_=>P0_ k_)) hg kH (fun k_ e_=>(HO214.out.1 k_ e_).1.1));have n3_:=Aside0.mk ((show Kd.C (Kd.int .i64) w20 (some ad210) y215.length y215 from by rw [Ny215.out];exact Kd.C_take (m:=(x5_1:Int).toNat) ((Kd.R_reads' (Kd.R_after (ok:=(fun k_=>(P0_ k_ ∨ w.heap.size ≤ k_))) (rR HO_0) hg hat)).2.2) KL19.out));have n4_:=Aside0.mk (ho);clear HO_0;clear HB;clear HK;clear HR218;clear HO214;have HO_0:=n0_;have HB:=n1_;have HK:=n2_;have HR218:=n3_;have HO221:=n4_;clear n0_ n1_ n2_ n3_ n4_;clear ho hb hg hat)|((with_reducible refine gate_builtin (b:=.append) (xs:=#[.tmp 39,.tmp 41]) rfl ?_);at_builtin;refine Kd.R_append (Kd.int .i64) (w0:=w0) w0.heap.size rfl (.tmp 39) (.tmp 41) 22 3 (.int .i64 0) 8 rfl Try.underlying22 info3 rfl (by decide) (by first|decide|omega) v220 y219 a1 [.int .i64 a1] (fun k_=>(P0_ k_ ∨ w.heap.size ≤ k_) ∧ some k_ ≠ (.slice (some ad210) l0.length co16:Value).ownBlock) (fun _=>False) rfl rfl ?aP (fun _ hk=>hk.elim) ?aF ?aO ?aB ?aS ?aL ?_;(case aP=>exact rfl);(case aB=>exact bH);(case aF=>exact (fun k_ hk=>⟨(.inr (Nat.le_trans Yg hk)),Kd.fresh' (Kd.R_lt (rR HO_0)) k_ hk⟩));(case aO=>exact (rR HO221));(case aS=>exact (below_size bH));(case aL=>have:=LMc12.out;omega);intro v223 w21 ho hb hg hat;rw [← Ny222.out] at ho;have n0_:=Aside0.mk (Kd.R_after (ok:=(fun k_=>(P0_ k_ ∨ w.heap.size ≤ k_))) (rR HO_0) hg hat);have n1_:=Aside0.mk (hb);have n2_:=Aside0.mk (Kept.of_grown (S:=(fun k_=>P0_ k_)) hg kH (fun k_ e_=>(HO221.out.1 k_ e_).1));have n3_:=Aside0.mk ((show Kd.C (Kd.int .i64) w21 (some ad210) y215.length y215 from by rw [Ny215.out];exact Kd.C_take (m:=(x5_1:Int).toNat) ((Kd.R_reads' (Kd.R_after (ok:=(fun k_=>(P0_ k_ ∨ w.heap.size ≤ k_))) (rR HO_0) hg hat)).2.2) KL19.out));have n4_:=Aside0.mk (ho);clear HO_0;clear HB;clear HK;clear HR218;clear HO221;have HO_0:=n0_;have HB:=n1_;have HK:=n2_;have HR218:=n3_;have HO224:=n4_;clear n0_ n1_ n2_ n3_ n4_;clear ho hb hg hat;have q22:(x5_1:Int) ≤ ((l0.length:Int):Int):=oD;obtain ⟨i022,hi022,_,hsz22,_⟩:=info_parts info3;have hroom22:l0.length ≤ co16:=(Kd.R_reads' HO_0.out).2.1;have hC22:Kd.C (Kd.int .i64) _ (some ad210) l0.length l0:=(Kd.R_reads' HO_0.out).2.2;have q022:(0:Int) ≤ (x5_1:Int):=oD;have hcut22:=cut_from (P:=Try.prog) 22 3 .i64 Try.underlying22 hi022 1 hsz22 (some ad210) l0.length co16 x5_1 q022 q22;have hr22:=Kd.C_drop (m:=(x5_1:Int).toNat) (c:=co16) hC22 (by omega) hroom22;obtain ⟨A22,hA22⟩:∃ A1_,A1_ = (if co16 = (x5_1:Int).toNat then (some ad210) else ((some ad210):Option Addr).map (·.add ((x5_1:Int).toNat * 1))):=⟨_,rfl⟩;obtain ⟨c22,hc22⟩:∃ c1_,c1_ = co16 - (x5_1:Int).toNat:=⟨_,rfl⟩;have hy22:y225.length = l0.length - (x5_1:Int).toNat:=(by rw [Ny225.out,List.length_drop] <;> omega);rw [show (l0).drop (x5_1:Int).toNat = y225 from Ny225.out.symm] at hr22;replace hr22:Kd.C (Kd.int .i64) _ A22 y225.length y225:=(by rw [hA22];exact hr22);rw [← hy22,← hA22,← hc22] at hcut22;have HR228:=Aside0.mk hr22;have HC228:=Aside0.mk (show y225.length ≤ c22 from by rw [hy22,hc22];exact Nat.sub_le_sub_right hroom22 _);clear hr22 hC22 hroom22 hi022 hsz22 hc22;have KY22:=Aside0.mk hy22;have KA22:=Aside0.mk hA22;clear hy22 hA22;have KL22:=Aside0.mk (show (x5_1:Int).toNat ≤ l0.length from by omega);replace q22:=eq_true q22)|((with_reducible refine gate_builtin (b:=.append) (xs:=#[.tmp 43,.tmp 46]) rfl ?_);at_builtin;refine Kd.R_append_rows (Kd.int .i64) (w0:=w0) w0.heap.size rfl (.tmp 43) (.tmp 46) 22 3 (.int .i64 0) 8 rfl Try.underlying22 info3 rfl (by decide) (by first|decide|omega) v223 y222 y225 _ _ _ (fun k_=>(P0_ k_ ∨ w.heap.size ≤ k_) ∧ some k_ ≠ (.slice (some ad210) l0.length co16:Value).ownBlock) (fun _=>False) rfl rfl ?aO ?aR (fun _ _ h=>h) (fun _ h=>h.elim) ?aF ?aB ?aS ?aL ?_;(case aR=>repeat (first|exact (by repeat (first|(with_reducible exact HR228.out)|(with_reducible refine Kd.C_alloc ?_ _)|(with_reducible refine Kd.C_drewN ?_ _)|(with_reducible refine Kd.C_drew ?_)|exact HR228.out))|(with_reducible refine Kd.C_alloc ?_ _)|(with_reducible refine Kd.C_drewN ?_ _)|(with_reducible refine Kd.C_drew ?_)));(case aB=>exact bH);(case aF=>exact (fun k_ hk=>⟨(.inr (Nat.le_trans Yg hk)),Kd.fresh' (Kd.R_lt (rR HO_0)) k_ hk⟩));(case aO=>exact (rR HO224));(case aS=>exact (below_size bH));(case aL=>have:=LMc15.out;omega);intro v230 w23 ho hb hg hat;rw [← Ny229.out] at ho;have n0_:=Aside0.mk (Kd.R_after (ok:=(fun k_=>(P0_ k_ ∨ w.heap.size ≤ k_))) (rR HO_0) hg hat);have n1_:=Aside0.mk (hb);have n2_:=Aside0.mk (Kept.of_grown (S:=(fun k_=>P0_ k_)) hg kH (fun k_ e_=>(HO224.out.1 k_ e_).1));have n3_:=Aside0.mk ((show Kd.C (Kd.int .i64) w23 (some ad210) y215.length y215 from by rw [Ny215.out];exact Kd.C_take (m:=(x5_1:Int).toNat) ((Kd.R_reads' (Kd.R_after (ok:=(fun k_=>(P0_ k_ ∨ w.heap.size ≤ k_))) (rR HO_0) hg hat)).2.2) KL19.out));have n4_:=Aside0.mk ((show Kd.C (Kd.int .i64) w23 A22 y225.length y225 from by rw [Ny225.out,KA22.out];exact Kd.C_drop (m:=(x5_1:Int).toNat) (c:=co16) ((Kd.R_reads' (Kd.R_after (ok:=(fun k_=>(P0_ k_ ∨ w.heap.size ≤ k_))) (rR HO_0) hg hat)).2.2) KL22.out ((Kd.R_reads' (Kd.R_after (ok:=(fun k_=>(P0_ k_ ∨ w.heap.size ≤ k_))) (rR HO_0) hg hat)).2.1)));have n5_:=Aside0.mk (ho);clear HO_0;clear HB;clear HK;clear HR218;clear HR228;clear HO224;have HO_0:=n0_;have HB:=n1_;have HK:=n2_;have HR218:=n3_;have HR228:=n4_;have HO231:=n5_;clear n0_ n1_ n2_ n3_ n4_ n5_;clear ho hb hg hat))
           go_ret
           exact ⟨_,by first|rfl|(simp [errW_none,errW_some] <;> rfl)|(simp [*,errW_none,errW_some] <;> rfl),by (with_reducible repeat (first|apply Kd.R_alloc|apply Kd.R_drewN|apply Kd.R_drew));exact Kd.R_mono HO231.out (fun _ hk=>hk.1),bH,kH⟩
          ·rw [if_neg c15] at H
           exact absurd H (by simp)
         ·rw [if_neg c12] at H
          exact absurd H (by simp)
        ·rw [if_neg c11] at H
         exact absurd H (by simp)
       ·rw [if_neg c10] at H
        exact absurd H (by simp)
    ·rw [if_neg c4] at H
     exact absurd H (by simp)
   ·rw [if_neg c3] at H
    have c3b0:decide (x5_1 < (l0.length:Int)) = false:=decide_eq_false c3
    clear c3
    obtain ⟨y232,hy232⟩:∃ y_:List Int,y_ = (([]:List Int)):=⟨_,rfl⟩
    replace H:(if 0 ≤ x5_1 then (if x5_1 ≤ (l0.length:Int) then ((some (l0.take (x5_1:Int).toNat:List Int)).bind fun y235=>(if y232.length + y235.length < 17592186044416 then ((some (y232 ++ y235:List Int)).bind fun y239=>(if y239.length < 17592186044416 then ((some (y239 ++ [a1]:List Int)).bind fun y242=>((some (l0.drop (x5_1:Int).toNat:List Int)).bind fun y245=>(if y242.length + y245.length < 17592186044416 then (some (y242 ++ y245)) else (none)))) else (none))) else (none))) else (none)) else (none)) = some r:=by first|(rw [hy232];with_reducible exact H)|(have H2_:=(Option.bind_some _ _).symm.trans H;rw [hy232];with_reducible exact H2_)|(have H2_:=(Option.bind_some _ _).symm.trans H;with_reducible exact H2_)|with_reducible exact H|(rw [hy232];exact H)|exact H
    have Ny232:=Aside0.mk hy232
    clear hy232
    by_cases c24:0 ≤ x5_1
    ·rw [if_pos c24] at H
     have c24b0:=eq_true c24
     have c24b1:=decide_eq_true c24
     clear c24
     by_cases c25:x5_1 ≤ (l0.length:Int)
     ·rw [if_pos c25] at H
      have c25b0:=eq_true c25
      have c25b1:=decide_eq_true c25
      clear c25
      obtain ⟨y235,hy235⟩:∃ y_:List Int,y_ = (l0.take (x5_1:Int).toNat):=⟨_,rfl⟩
      replace H:(if y232.length + y235.length < 17592186044416 then ((some (y232 ++ y235:List Int)).bind fun y239=>(if y239.length < 17592186044416 then ((some (y239 ++ [a1]:List Int)).bind fun y242=>((some (l0.drop (x5_1:Int).toNat:List Int)).bind fun y245=>(if y242.length + y245.length < 17592186044416 then (some (y242 ++ y245)) else (none)))) else (none))) else (none)) = some r:=by first|(rw [hy235];with_reducible exact H)|(have H2_:=(Option.bind_some _ _).symm.trans H;rw [hy235];with_reducible exact H2_)|(have H2_:=(Option.bind_some _ _).symm.trans H;with_reducible exact H2_)|with_reducible exact H|(rw [hy235];exact H)|exact H
      have Ny235:=Aside0.mk hy235
      clear hy235
      by_cases c26:y232.length + y235.length < 17592186044416
      ·rw [if_pos c26] at H
       have LMc26:=Aside0.mk c26
       clear c26
       obtain ⟨y239,hy239⟩:∃ y_:List Int,y_ = (y232 ++ y235):=⟨_,rfl⟩
       replace H:(if y239.length < 17592186044416 then ((some (y239 ++ [a1]:List Int)).bind fun y242=>((some (l0.drop (x5_1:Int).toNat:List Int)).bind fun y245=>(if y242.length + y245.length < 17592186044416 then (some (y242 ++ y245)) else (none)))) else (none)) = some r:=by first|(rw [hy239];with_reducible exact H)|(have H2_:=(Option.bind_some _ _).symm.trans H;rw [hy239];with_reducible exact H2_)|(have H2_:=(Option.bind_some _ _).symm.trans H;with_reducible exact H2_)|with_reducible exact H|(rw [hy239];exact H)|exact H
       have Ny239:=Aside0.mk hy239
       clear hy239
       by_cases c27:y239.length < 17592186044416
       ·rw [if_pos c27] at H
        have LMc27:=Aside0.mk c27
        clear c27
        obtain ⟨y242,hy242⟩:∃ y_:List Int,y_ = (y239 ++ [a1]):=⟨_,rfl⟩
        replace H:((some (l0.drop (x5_1:Int).toNat:List Int)).bind fun y245=>(if y242.length + y245.length < 17592186044416 then (some (y242 ++ y245)) else (none))) = some r:=by first|(rw [hy242];with_reducible exact H)|(have H2_:=(Option.bind_some _ _).symm.trans H;rw [hy242];with_reducible exact H2_)|(have H2_:=(Option.bind_some _ _).symm.trans H;with_reducible exact H2_)|with_reducible exact H|(rw [hy242];exact H)|exact H
        have Ny242:=Aside0.mk hy242
        clear hy242
        have c28b0:=eq_true (oD:0 ≤ x5_1)
        have c29b0:=eq_true (oD:x5_1 ≤ (l0.length:Int))
        obtain ⟨y245,hy245⟩:∃ y_:List Int,y_ = (l0.drop (x5_1:Int).toNat):=⟨_,rfl⟩
        replace H:(if y242.length + y245.length < 17592186044416 then (some (y242 ++ y245)) else (none)) = some r:=by first|(rw [hy245];with_reducible exact H)|(have H2_:=(Option.bind_some _ _).symm.trans H;rw [hy245];with_reducible exact H2_)|(have H2_:=(Option.bind_some _ _).symm.trans H;with_reducible exact H2_)|with_reducible exact H|(rw [hy245];exact H)|exact H
        have Ny245:=Aside0.mk hy245
        clear hy245
        by_cases c30:y242.length + y245.length < 17592186044416
        ·rw [if_pos c30] at H
         have LMc30:=Aside0.mk c30
         clear c30
         obtain ⟨y249,hy249⟩:∃ y_:List Int,y_ = (y242 ++ y245):=⟨_,rfl⟩
         replace H:(some y249) = some r:=by first|(rw [hy249];with_reducible exact H)|(have H2_:=(Option.bind_some _ _).symm.trans H;rw [hy249];with_reducible exact H2_)|(have H2_:=(Option.bind_some _ _).symm.trans H;with_reducible exact H2_)|with_reducible exact H|(rw [hy249];exact H)|exact H
         have Ny249:=Aside0.mk hy249
         clear hy249
         obtain rfl:=Option.some.inj H
         obtain ⟨Ao31,co31,eo31⟩:=Kd.R_slice HO_0.out
         subst eo31
         go_wp2_with (first|((with_reducible refine gate_dst (N:=34) rfl ?_);refine Kd.R_lit (Kd.int .i64) _ 3 ?hg (N:=34) ?hd (xs:=([]:List Int)) (inner:=[]) (ok:=fun _=>True) (okp:=fun _=>True) ?hr ?hp (fun _ hk=>hk) trivial (Below.refl _ _) (Nat.le_refl _) (by simp) ?_;(case hd=>rfl);(case hg=>rfl);(case hr=>first|(go_simp;done)|(go_simp;rfl));(case hp=>exact (Reps.none _ _));intro v233 w32 ho33 hb hg_ hnew_;clear hg_ hnew_;(first|rw [← Ny232.out] at ho33|(simp only [Int.reduceToNat] at ho33;rw [← Ny232.out] at ho33));have HO234:=Aside0.mk (Kd.R_lower (Kd.R_new' (Kd.R_newM (M:=fun k_=>(P0_ k_ ∨ w.heap.size ≤ k_)) ho33 Yg (fun k_ h_=>.inr h_)) (Kd.R_lt (rR HO_0))) (below_size bH));replace HO_0:=Aside0.mk (Kd.R_elder' (rR HO_0) (Kd.R_base ho33) hb);replace HK:=Aside0.mk (Kept.below (S:=(fun k_=>P0_ k_)) kH hb);replace HB:=Aside0.mk (below_step bH hb);clear hb ho33;have q34:(x5_1:Int) ≤ ((l0.length:Int):Int):=oD;obtain ⟨i034,hi034,_,hsz34,_⟩:=info_parts info3;have hroom34:l0.length ≤ co31:=(Kd.R_reads' HO_0.out).2.1;have hC34:Kd.C (Kd.int .i64) _ Ao31 l0.length l0:=(Kd.R_reads' HO_0.out).2.2;have hcut34:=cut_to (P:=Try.prog) 22 3 .i64 Try.underlying22 hi034 Ao31 l0.length co31 x5_1 (oD) q34 hroom34;have hr34:=Kd.C_take (m:=(x5_1:Int).toNat) hC34 (by omega);have hy34:y235.length = (x5_1:Int).toNat:=(by rw [Ny235.out,List.length_take];omega);rw [← Ny235.out] at hr34;rw [← hy34] at hcut34;have HR238:=Aside0.mk hr34;have HC238:=Aside0.mk (show y235.length ≤ co31 from by omega);clear hr34 hC34 hroom34 hi034 hsz34;have KY34:=Aside0.mk hy34;clear hy34;have KL34:=Aside0.mk (show (x5_1:Int).toNat ≤ l0.length from by omega);replace q34:=eq_true q34)|((with_reducible refine gate_builtin (b:=.append) (xs:=#[.tmp 34,.tmp 37]) rfl ?_);at_builtin;refine Kd.R_append_rows (Kd.int .i64) (w0:=w0) w0.heap.size rfl (.tmp 34) (.tmp 37) 22 3 (.int .i64 0) 8 rfl Try.underlying22 info3 rfl (by decide) (by first|decide|omega) v233 y232 y235 _ _ _ (fun k_=>(P0_ k_ ∨ w.heap.size ≤ k_) ∧ some k_ ≠ (.slice Ao31 l0.length co31:Value).ownBlock) (fun _=>False) rfl rfl ?aO ?aR (fun _ _ h=>h) (fun _ h=>h.elim) ?aF ?aB ?aS ?aL ?_;(case aR=>repeat (first|exact (by repeat (first|(with_reducible exact HR238.out)|(with_reducible refine Kd.C_alloc ?_ _)|(with_reducible refine Kd.C_drewN ?_ _)|(with_reducible refine Kd.C_drew ?_)|exact HR238.out))|(with_reducible refine Kd.C_alloc ?_ _)|(with_reducible refine Kd.C_drewN ?_ _)|(with_reducible refine Kd.C_drew ?_)));(case aB=>exact bH);(case aF=>exact (fun k_ hk=>⟨(.inr (Nat.le_trans Yg hk)),Kd.fresh' (Kd.R_lt (rR HO_0)) k_ hk⟩));(case aO=>exact (by (with_reducible repeat (first|apply Kd.R_alloc|apply Kd.R_drewN|apply Kd.R_drew));exact Kd.R_mono HO234.out (fun _ hk=>⟨hk.1.1,hk.2⟩)));(case aS=>exact (below_size bH));(case aL=>have:=LMc26.out;omega);intro v240 w35 ho hb hg hat;rw [← Ny239.out] at ho;have n0_:=Aside0.mk (Kd.R_after (ok:=(fun k_=>(P0_ k_ ∨ w.heap.size ≤ k_))) (rR HO_0) hg hat);have n1_:=Aside0.mk (hb);have n2_:=Aside0.mk (Kept.of_grown (S:=(fun k_=>P0_ k_)) hg kH (fun k_ e_=>(HO234.out.1 k_ e_).1.1));have n3_:=Aside0.mk ((show Kd.C (Kd.int .i64) w35 Ao31 y235.length y235 from by rw [Ny235.out];exact Kd.C_take (m:=(x5_1:Int).toNat) ((Kd.R_reads' (Kd.R_after (ok:=(fun k_=>(P0_ k_ ∨ w.heap.size ≤ k_))) (rR HO_0) hg hat)).2.2) KL34.out));have n4_:=Aside0.mk (ho);clear HO_0;clear HB;clear HK;clear HR238;clear HO234;have HO_0:=n0_;have HB:=n1_;have HK:=n2_;have HR238:=n3_;have HO241:=n4_;clear n0_ n1_ n2_ n3_ n4_;clear ho hb hg hat)|((with_reducible refine gate_builtin (b:=.append) (xs:=#[.tmp 39,.tmp 41]) rfl ?_);at_builtin;refine Kd.R_append (Kd.int .i64) (w0:=w0) w0.heap.size rfl (.tmp 39) (.tmp 41) 22 3 (.int .i64 0) 8 rfl Try.underlying22 info3 rfl (by decide) (by first|decide|omega) v240 y239 a1 [.int .i64 a1] (fun k_=>(P0_ k_ ∨ w.heap.size ≤ k_) ∧ some k_ ≠ (.slice Ao31 l0.length co31:Value).ownBlock) (fun _=>False) rfl rfl ?aP (fun _ hk=>hk.elim) ?aF ?aO ?aB ?aS ?aL ?_;(case aP=>exact rfl);(case aB=>exact bH);(case aF=>exact (fun k_ hk=>⟨(.inr (Nat.le_trans Yg hk)),Kd.fresh' (Kd.R_lt (rR HO_0)) k_ hk⟩));(case aO=>exact (rR HO241));(case aS=>exact (below_size bH));(case aL=>have:=LMc27.out;omega);intro v243 w36 ho hb hg hat;rw [← Ny242.out] at ho;have n0_:=Aside0.mk (Kd.R_after (ok:=(fun k_=>(P0_ k_ ∨ w.heap.size ≤ k_))) (rR HO_0) hg hat);have n1_:=Aside0.mk (hb);have n2_:=Aside0.mk (Kept.of_grown (S:=(fun k_=>P0_ k_)) hg kH (fun k_ e_=>(HO241.out.1 k_ e_).1));have n3_:=Aside0.mk ((show Kd.C (Kd.int .i64) w36 Ao31 y235.length y235 from by rw [Ny235.out];exact Kd.C_take (m:=(x5_1:Int).toNat) ((Kd.R_reads' (Kd.R_after (ok:=(fun k_=>(P0_ k_ ∨ w.heap.size ≤ k_))) (rR HO_0) hg hat)).2.2) KL34.out));have n4_:=Aside0.mk (ho);clear HO_0;clear HB;clear HK;clear HR238;clear HO241;have HO_0:=n0_;have HB:=n1_;have HK:=n2_;have HR238:=n3_;have HO244:=n4_;clear n0_ n1_ n2_ n3_ n4_;clear ho hb hg hat;have q37:(x5_1:Int) ≤ ((l0.length:Int):Int):=oD;obtain ⟨i037,hi037,_,hsz37,_⟩:=info_parts info3;have hroom37:l0.length ≤ co31:=(Kd.R_reads' HO_0.out).2.1;have hC37:Kd.C (Kd.int .i64) _ Ao31 l0.length l0:=(Kd.R_reads' HO_0.out).2.2;have q037:(0:Int) ≤ (x5_1:Int):=oD;have hcut37:=cut_from (P:=Try.prog) 22 3 .i64 Try.underlying22 hi037 1 hsz37 Ao31 l0.length co31 x5_1 q037 q37;have hr37:=Kd.C_drop (m:=(x5_1:Int).toNat) (c:=co31) hC37 (by omega) hroom37;obtain ⟨A37,hA37⟩:∃ A1_,A1_ = (if co31 = (x5_1:Int).toNat then Ao31 else (Ao31:Option Addr).map (·.add ((x5_1:Int).toNat * 1))):=⟨_,rfl⟩;obtain ⟨c37,hc37⟩:∃ c1_,c1_ = co31 - (x5_1:Int).toNat:=⟨_,rfl⟩;have hy37:y245.length = l0.length - (x5_1:Int).toNat:=(by rw [Ny245.out,List.length_drop] <;> omega);rw [show (l0).drop (x5_1:Int).toNat = y245 from Ny245.out.symm] at hr37;replace hr37:Kd.C (Kd.int .i64) _ A37 y245.length y245:=(by rw [hA37];exact hr37);rw [← hy37,← hA37,← hc37] at hcut37;have HR248:=Aside0.mk hr37;have HC248:=Aside0.mk (show y245.length ≤ c37 from by rw [hy37,hc37];exact Nat.sub_le_sub_right hroom37 _);clear hr37 hC37 hroom37 hi037 hsz37 hc37;have KY37:=Aside0.mk hy37;have KA37:=Aside0.mk hA37;clear hy37 hA37;have KL37:=Aside0.mk (show (x5_1:Int).toNat ≤ l0.length from by omega);replace q37:=eq_true q37)|((with_reducible refine gate_builtin (b:=.append) (xs:=#[.tmp 43,.tmp 46]) rfl ?_);at_builtin;refine Kd.R_append_rows (Kd.int .i64) (w0:=w0) w0.heap.size rfl (.tmp 43) (.tmp 46) 22 3 (.int .i64 0) 8 rfl Try.underlying22 info3 rfl (by decide) (by first|decide|omega) v243 y242 y245 _ _ _ (fun k_=>(P0_ k_ ∨ w.heap.size ≤ k_) ∧ some k_ ≠ (.slice Ao31 l0.length co31:Value).ownBlock) (fun _=>False) rfl rfl ?aO ?aR (fun _ _ h=>h) (fun _ h=>h.elim) ?aF ?aB ?aS ?aL ?_;(case aR=>repeat (first|exact (by repeat (first|(with_reducible exact HR248.out)|(with_reducible refine Kd.C_alloc ?_ _)|(with_reducible refine Kd.C_drewN ?_ _)|(with_reducible refine Kd.C_drew ?_)|exact HR248.out))|(with_reducible refine Kd.C_alloc ?_ _)|(with_reducible refine Kd.C_drewN ?_ _)|(with_reducible refine Kd.C_drew ?_)));(case aB=>exact bH);(case aF=>exact (fun k_ hk=>⟨(.inr (Nat.le_trans Yg hk)),Kd.fresh' (Kd.R_lt (rR HO_0)) k_ hk⟩));(case aO=>exact (rR HO244));(case aS=>exact (below_size bH));(case aL=>have:=LMc30.out;omega);intro v250 w38 ho hb hg hat;rw [← Ny249.out] at ho;have n0_:=Aside0.mk (Kd.R_after (ok:=(fun k_=>(P0_ k_ ∨ w.heap.size ≤ k_))) (rR HO_0) hg hat);have n1_:=Aside0.mk (hb);have n2_:=Aside0.mk (Kept.of_grown (S:=(fun k_=>P0_ k_)) hg kH (fun k_ e_=>(HO244.out.1 k_ e_).1));have n3_:=Aside0.mk ((show Kd.C (Kd.int .i64) w38 Ao31 y235.length y235 from by rw [Ny235.out];exact Kd.C_take (m:=(x5_1:Int).toNat) ((Kd.R_reads' (Kd.R_after (ok:=(fun k_=>(P0_ k_ ∨ w.heap.size ≤ k_))) (rR HO_0) hg hat)).2.2) KL34.out));have n4_:=Aside0.mk ((show Kd.C (Kd.int .i64) w38 A37 y245.length y245 from by rw [Ny245.out,KA37.out];exact Kd.C_drop (m:=(x5_1:Int).toNat) (c:=co31) ((Kd.R_reads' (Kd.R_after (ok:=(fun k_=>(P0_ k_ ∨ w.heap.size ≤ k_))) (rR HO_0) hg hat)).2.2) KL37.out ((Kd.R_reads' (Kd.R_after (ok:=(fun k_=>(P0_ k_ ∨ w.heap.size ≤ k_))) (rR HO_0) hg hat)).2.1)));have n5_:=Aside0.mk (ho);clear HO_0;clear HB;clear HK;clear HR238;clear HR248;clear HO244;have HO_0:=n0_;have HB:=n1_;have HK:=n2_;have HR238:=n3_;have HR248:=n4_;have HO251:=n5_;clear n0_ n1_ n2_ n3_ n4_ n5_;clear ho hb hg hat))
         go_ret
         exact ⟨_,by first|rfl|(simp [errW_none,errW_some] <;> rfl)|(simp [*,errW_none,errW_some] <;> rfl),by (with_reducible repeat (first|apply Kd.R_alloc|apply Kd.R_drewN|apply Kd.R_drew));exact Kd.R_mono HO251.out (fun _ hk=>hk.1),bH,kH⟩
        ·rw [if_neg c30] at H
         exact absurd H (by simp)
       ·rw [if_neg c27] at H
        exact absurd H (by simp)
      ·rw [if_neg c26] at H
       exact absurd H (by simp)
     ·rw [if_neg c25] at H
      exact absurd H (by simp)
    ·rw [if_neg c24] at H
     exact absurd H (by simp)

/-! ### spec_l1Vars: function 105 -/
def spec_l1Vars.l0:Nat → List Int → List Int → Int → Int → Option (List Int)
 | 0,_,_,_,_=>none
 | k + 1,x3,x6,x7,x8=>if x8 < x7 then (if 0 ≤ x8 then (if x8 < (x6.length:Int) then (if (rd x6 x8) < 0 then ((spec_l1Put.f k x3 (wrap64 ((-1) - (rd x6 x8)))).bind fun t253=>(spec_l1Vars.l0 k t253 x6 x7 (wrap64 (x8 + 1)))) else (spec_l1Vars.l0 k x3 x6 x7 (wrap64 (x8 + 1)))) else (none)) else (none)) else (some x3)
def spec_l1Vars.f (k:Nat) (l0:List Int):Option (List Int):=spec_l1Vars.l0 k ([]:List Int) l0 (l0.length:Int) 0
theorem spec_l1Vars.mono_l:∀ k,(∀ y0 y1 y2 y3,LeO (spec_l1Vars.l0 k y0 y1 y2 y3) (spec_l1Vars.l0 (k + 1) y0 y1 y2 y3))
 | 0=>fun _ _ _ _ r h=>by simp [spec_l1Vars.l0] at h
 | k + 1=>by
  have ih0:=spec_l1Vars.mono_l k
  ·intro y0 y1 y2 y3
   unfold spec_l1Vars.l0
   have m0:=@spec_l1Put.mono
   exact mO
theorem spec_l1Vars.mono:∀ a0 k,LeO (spec_l1Vars.f k a0) (spec_l1Vars.f (k + 1) a0):=by
 intro a0 k
 have ih0:=spec_l1Vars.mono_l k
 unfold spec_l1Vars.f
 have m0:=@spec_l1Put.mono
 exact mO
set_option maxHeartbeats 8000000 in
set_option maxRecDepth 100000 in
theorem spec_l1Vars.calls (k:Nat) (A0:Option Addr) (c0:Nat) (l0:List Int) (r:List Int) (w:World) (hr0:Kd.C (Kd.int .i64) w A0 l0.length l0) (hc0:l0.length ≤ c0) (h:spec_l1Vars.f k l0 = some r) :
  Calls Try.prog 105 #[.slice A0 l0.length c0] w fun e w'=>∃ v0_:Value,e = .returned (v0_) ∧ Kd.R (Kd.int .i64) 3 w' w.heap.size (fun _=>True) v0_ r ∧ Below w.heap.size w w':=by
 have HR0:=Aside0.mk hr0
 have HC0:=Aside0.mk hc0
 clear hr0 hc0
 have HB:=Aside0.mk (Below.refl w.heap.size w)
 have H:(spec_l1Vars.l0 k ([]:List Int) l0 (l0.length:Int) 0) = some r:=h
 clear h
 have H':=Aside0.mk H
 clear H
 go_enter Try.func105,Try.ntmps105
 go_wp2
 go_loopg [3,8] k (fun kq v3 v8 w'=>∃ (x3_1:List Int) (x8_1:Int),v8 = .int .i64 x8_1 ∧ Aside0 (spec_l1Vars.l0 kq x3_1 l0 (l0.length:Int) x8_1 = some r) ∧ Aside0 (kq ≤ k) ∧ Aside0 (Kd.R (Kd.int .i64) 3 w' w.heap.size (fun _=>True) v3 x3_1) ∧ Aside0 (Below w.heap.size w w'))
 case atStart=>exact ⟨(([]:List Int)),(0),Yb,H',⟨Nat.le_refl _⟩,⟨by first|exact Kd.R_nil _ _ _ _ _|exact Kd.N_nil _ _ _ _ _|exact Kd.V_nil _ _ _ _ _|exact Kd.Q_nil _ _ _ _ _|exact Kd.S_nil _ _ _ _ _⟩,⟨bH⟩⟩
 case round =>
  clear H'
  try clear c1
  obtain ⟨x3_1,x8_1,rfl,HA,HK1,HO_3,HB⟩:=hrel
  cases gk with
  | zero=>exact absurd HA.out (by simp [spec_l1Vars.l0])
  | succ k1 =>
   have H:=HA.out
   clear HA
   simp only [spec_l1Vars.l0] at H
   by_cases c2:x8_1 < (l0.length:Int)
   ·rw [if_pos c2] at H
    have c2b0:=decide_eq_true c2
    clear c2
    by_cases c3:0 ≤ x8_1
    ·rw [if_pos c3] at H
     have c3b0:=decide_eq_true c3
     clear c3
     by_cases c4:x8_1 < (l0.length:Int)
     ·rw [if_pos c4] at H
      have c4b0:=decide_eq_true c4
      clear c4
      by_cases c5:(rd l0 x8_1) < 0
      ·rw [if_pos c5] at H
       have c5b0:=decide_eq_true c5
       clear c5
       replace H:=Option.bind_eq_some_iff.mp H
       obtain ⟨t253,A60,H⟩:=H
       replace H:(spec_l1Vars.l0 k1 t253 l0 (l0.length:Int) (wrap64 (x8_1 + 1))) = some r:=H
       have A6:=Aside0.mk A60
       clear A60
       have H':=Aside0.mk H
       clear H
       have p252:0 ≤ (x8_1:Int):=oD
       have q252:x8_1 < (l0.length:Int):=oD
       obtain ⟨ad252,e252,hx252_0⟩:=Kd.at_int HR0.out x8_1 p252 q252
       cases e252
       replace hx252_0:=(HB.out.cell (World.block_lt_of_cell? w _ hx252_0)).trans hx252_0
       replace p252:=eq_true p252
       replace q252:=eq_true q252
       obtain ⟨Ao7,co7,eo7⟩:=Kd.R_slice HO_3.out
       subst eo7
       go_wp2_with (first|((with_reducible refine gate_callee (f:=56) rfl ?_);refine goesL_ (some 17) rfl rfl Try.func56 (by kernel_rfl) rfl #[.slice Ao7 x3_1.length co7,.int .i64 (wrap64 ((-1) - (rd l0 x8_1)))] rfl Ya ?_;(with_reducible refine (spec_l1Put.calls k1 (fun k_=>some k_ = (.slice Ao7 x3_1.length co7:Value).ownBlock) (.slice Ao7 x3_1.length co7) x3_1 (wrap64 ((-1) - (rd l0 x8_1))) t253 w _ ?side1 ?side2 A6.out).mono ?_);(case side1=>repeat (first|(with_reducible first|exact HB.out|apply below_alloc|apply pw_below_drewN|apply below_drew1)|exact HB.out));(case side2=>exact Kd.R_tight rfl HO_3.out);rintro e w8 ⟨v254,rfl,ho0,hb,hkp⟩;refine ⟨_,rfl,?_⟩;have n0_:=Aside0.mk (Kd.R_mono (ok':=fun k_=>True) ho0 (fun k_ hk_=>trivial));have n1_:=Aside0.mk (hb);clear HB;clear HO_3;have HO255:=n0_;have HB:=n1_;clear n0_ n1_;(try clear hb);(try clear hkp);(try clear ho0)))
       go_roundg k1
       case measure=>have:=HK1.out;omega
       case rel=>exact ⟨(t253),(wrap64 (x8_1 + 1)),Yb,H',⟨by have:=HK1.out;omega⟩,⟨rR HO255⟩,⟨bH⟩⟩
      ·rw [if_neg c5] at H
       have c5b0:decide ((rd l0 x8_1) < 0) = false:=decide_eq_false c5
       clear c5
       have H':=Aside0.mk H
       clear H
       have p252:0 ≤ (x8_1:Int):=oD
       have q252:x8_1 < (l0.length:Int):=oD
       obtain ⟨ad252,e252,hx252_0⟩:=Kd.at_int HR0.out x8_1 p252 q252
       cases e252
       replace hx252_0:=(HB.out.cell (World.block_lt_of_cell? w _ hx252_0)).trans hx252_0
       replace p252:=eq_true p252
       replace q252:=eq_true q252
       go_wp2
       go_roundg k1
       case measure=>have:=HK1.out;omega
       case rel=>exact ⟨(x3_1),(wrap64 (x8_1 + 1)),Yb,H',⟨by have:=HK1.out;omega⟩,⟨rR HO_3⟩,⟨bH⟩⟩
     ·rw [if_neg c4] at H
      exact absurd H (by simp)
    ·rw [if_neg c3] at H
     exact absurd H (by simp)
   ·rw [if_neg c2] at H
    have c2b0:decide (x8_1 < (l0.length:Int)) = false:=decide_eq_false c2
    clear c2
    obtain rfl:=Option.some.inj H
    go_wp2
    go_ret
    exact ⟨_,by first|rfl|(simp [errW_none,errW_some] <;> rfl)|(simp [*,errW_none,errW_some] <;> rfl),rR HO_3,bH⟩

end Go.Proofs.Ytlgnanbnicmdaab.QFnExactNormalClause
