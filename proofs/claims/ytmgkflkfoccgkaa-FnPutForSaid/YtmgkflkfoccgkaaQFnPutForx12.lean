-- Written by this session's own program (wip/x/xprint.py, over the kit's printer); Lean checks it.
import Derived.Test.YtmgkflkfoccgkaaQFnPutForx0
import Derived.Test.YtmgkflkfoccgkaaQFnPutForx11
namespace Go.Proofs.Ytmgkflkfoccgkaa.QFnPutFor
open Go.RowKit Go.Proofs.YtmgkflkfoccgkaaW.PrintWords Go.Proofs.YtmgkflkfoccgkaaW.PrintLast Go.Proofs.YtmgkflkfoccgkaaW.PrintMore
attribute [local go_sem] max2_int min2_int max_two min_two max_three min_three max_four min_four   -- for this text's walks alone
set_option linter.unusedVariables false
set_option linter.unusedSimpArgs false

/-! ### spec_l1Args: function 86 -/
def spec_l1Args.l0:Nat → List Int → List Int → Int → Int → List Int → Option (List Int)
 | 0,_,_,_,_,_=>none
 | k + 1,x1,x7,x8,x9,x376000=>if x9 > 0 then (if x7.length < 17592186044416 then ((spec_l1End.f k x376000 x1 x8).bind fun t382=>(spec_l1Args.l0 k x1 (x7 ++ [x8]) t382 (wrap64 (x9 - 1)) x376000)) else (none)) else (some x7)
def spec_l1Args.f (k:Nat) (l0_0:List Int) (l1:List Int) (a2:Int):Option (List Int):=if 0 ≤ a2 then (if a2 < (l1.length:Int) then (if (rd l1 a2) < 0 then (some ([]:List Int)) else (if 0 ≤ (rd l1 a2) then (if (rd l1 a2) < (l0_0.length:Int) then (spec_l1Args.l0 k l1 ([]:List Int) (wrap64 (a2 + 1)) (rd l0_0 (rd l1 a2)) l0_0) else (none)) else (none))) else (none)) else (none)
theorem spec_l1Args.mono_l:∀ k,(∀ y0 y1 y2 y3 y4,LeO (spec_l1Args.l0 k y0 y1 y2 y3 y4) (spec_l1Args.l0 (k + 1) y0 y1 y2 y3 y4))
 | 0=>fun _ _ _ _ _ r h=>by simp [spec_l1Args.l0] at h
 | k + 1=>by
  have ih0:=spec_l1Args.mono_l k
  ·intro y0 y1 y2 y3 y4
   unfold spec_l1Args.l0
   have m0:=@spec_l1End.mono
   exact mO
theorem spec_l1Args.mono:∀ a0 a1 a2 k,LeO (spec_l1Args.f k a0 a1 a2) (spec_l1Args.f (k + 1) a0 a1 a2):=by
 intro a0 a1 a2 k
 have ih0:=spec_l1Args.mono_l k
 unfold spec_l1Args.f
 have m0:=@spec_l1End.mono
 exact mO
set_option maxHeartbeats 8000000 in
set_option maxRecDepth 100000 in
theorem spec_l1Args.calls (k:Nat) (A0_0:Option Addr) (c0_0:Nat) (l0_0:List Int) (A1:Option Addr) (c1:Nat) (l1:List Int) (a2:Int) (r:List Int) (w:World) (hr0_0:Kd.C (Kd.int .i64) w A0_0 l0_0.length l0_0) (hc0_0:l0_0.length ≤ c0_0) (hr1:Kd.C (Kd.int .i64) w A1 l1.length l1) (hc1:l1.length ≤ c1) (h:spec_l1Args.f k l0_0 l1 a2 = some r) :
  Calls Try.prog 86 #[.agg #[.slice A0_0 l0_0.length c0_0],.slice A1 l1.length c1,.int .i64 a2] w fun e w'=>∃ v0_:Value,e = .returned (v0_) ∧ Kd.R (Kd.int .i64) 3 w' w.heap.size (fun _=>True) v0_ r ∧ Below w.heap.size w w':=by
 have hu26:=Try.underlying26
 have HR0_0:=Aside0.mk hr0_0
 have HC0_0:=Aside0.mk hc0_0
 clear hr0_0 hc0_0
 have HR1:=Aside0.mk hr1
 have HC1:=Aside0.mk hc1
 clear hr1 hc1
 have HB:=Aside0.mk (Below.refl w.heap.size w)
 have H:(if 0 ≤ a2 then (if a2 < (l1.length:Int) then (if (rd l1 a2) < 0 then (some ([]:List Int)) else (if 0 ≤ (rd l1 a2) then (if (rd l1 a2) < (l0_0.length:Int) then (spec_l1Args.l0 k l1 ([]:List Int) (wrap64 (a2 + 1)) (rd l0_0 (rd l1 a2)) l0_0) else (none)) else (none))) else (none)) else (none)) = some r:=h
 clear h
 by_cases c4:0 ≤ a2
 ·rw [if_pos c4] at H
  have c4b0:=decide_eq_true c4
  clear c4
  by_cases c5:a2 < (l1.length:Int)
  ·rw [if_pos c5] at H
   have c5b0:=decide_eq_true c5
   clear c5
   by_cases c6:(rd l1 a2) < 0
   ·rw [if_pos c6] at H
    have c6b0:=decide_eq_true c6
    clear c6
    obtain rfl:=Option.some.inj H
    go_enter Try.func86,Try.ntmps86
    go_wp2_with (first|((with_reducible refine gate_dst (N:=3) rfl ?_);refine box_event ?hg (N:=3) ?hd (cs:=#[.slice A0_0 l0_0.length c0_0]) (t:=26) ?hr ?_;(case hd=>rfl);(case hg=>rfl);(case hr=>exact Yd);intro gb375 hg w7 hbox hb;have BK375:=Aside0.mk (hbox);have GW375:=Aside0.mk ((hZ:w.heap.size ≤ gb375));have GE375:=Aside0.mk ((hZ:w.heap.size ≤ gb375));replace HB:=Aside0.mk (below_step bH hb);clear hb hbox hg;have p376:0 ≤ (a2:Int):=oD;have q376:a2 < (l1.length:Int):=oD;obtain ⟨ad376,e376,hx376_0⟩:=Kd.at_int HR1.out a2 p376 q376;cases e376;replace hx376_0:=(HB.out.cell (World.block_lt_of_cell? w _ hx376_0)).trans hx376_0;replace p376:=eq_true p376;replace q376:=eq_true q376))
    repeat (go_quiet (first|((with_reducible refine gate_dst (N:=3) rfl ?_);refine box_event ?hg (N:=3) ?hd (cs:=#[.slice A0_0 l0_0.length c0_0]) (t:=26) ?hr ?_;(case hd=>rfl);(case hg=>rfl);(case hr=>exact Yd);intro gb375 hg w7 hbox hb;have BK375:=Aside0.mk (hbox);have GW375:=Aside0.mk ((hZ:w.heap.size ≤ gb375));have GE375:=Aside0.mk ((hZ:w.heap.size ≤ gb375));replace HB:=Aside0.mk (below_step bH hb);clear hb hbox hg;have p376:0 ≤ (a2:Int):=oD;have q376:a2 < (l1.length:Int):=oD;obtain ⟨ad376,e376,hx376_0⟩:=Kd.at_int HR1.out a2 p376 q376;cases e376;replace hx376_0:=(HB.out.cell (World.block_lt_of_cell? w _ hx376_0)).trans hx376_0;replace p376:=eq_true p376;replace q376:=eq_true q376));try go_wp2_with (first|((with_reducible refine gate_dst (N:=3) rfl ?_);refine box_event ?hg (N:=3) ?hd (cs:=#[.slice A0_0 l0_0.length c0_0]) (t:=26) ?hr ?_;(case hd=>rfl);(case hg=>rfl);(case hr=>exact Yd);intro gb375 hg w7 hbox hb;have BK375:=Aside0.mk (hbox);have GW375:=Aside0.mk ((hZ:w.heap.size ≤ gb375));have GE375:=Aside0.mk ((hZ:w.heap.size ≤ gb375));replace HB:=Aside0.mk (below_step bH hb);clear hb hbox hg;have p376:0 ≤ (a2:Int):=oD;have q376:a2 < (l1.length:Int):=oD;obtain ⟨ad376,e376,hx376_0⟩:=Kd.at_int HR1.out a2 p376 q376;cases e376;replace hx376_0:=(HB.out.cell (World.block_lt_of_cell? w _ hx376_0)).trans hx376_0;replace p376:=eq_true p376;replace q376:=eq_true q376)))
    go_ret
    exact ⟨_,Yb,Yg,bH⟩
   ·rw [if_neg c6] at H
    have c6b0:decide ((rd l1 a2) < 0) = false:=decide_eq_false c6
    clear c6
    by_cases c8:0 ≤ (rd l1 a2)
    ·rw [if_pos c8] at H
     have c8b0:=decide_eq_true c8
     clear c8
     by_cases c9:(rd l1 a2) < (l0_0.length:Int)
     ·rw [if_pos c9] at H
      have c9b0:=decide_eq_true c9
      clear c9
      have H':=Aside0.mk H
      clear H
      go_enter Try.func86,Try.ntmps86
      go_wp2_with (first|((with_reducible refine gate_dst (N:=3) rfl ?_);refine box_event ?hg (N:=3) ?hd (cs:=#[.slice A0_0 l0_0.length c0_0]) (t:=26) ?hr ?_;(case hd=>rfl);(case hg=>rfl);(case hr=>exact Yd);intro gb375 hg w10 hbox hb;have BK375:=Aside0.mk (hbox);have GW375:=Aside0.mk ((hZ:w.heap.size ≤ gb375));have GE375:=Aside0.mk ((hZ:w.heap.size ≤ gb375));replace HB:=Aside0.mk (below_step bH hb);clear hb hbox hg;have p376:0 ≤ (a2:Int):=oD;have q376:a2 < (l1.length:Int):=oD;obtain ⟨ad376,e376,hx376_0⟩:=Kd.at_int HR1.out a2 p376 q376;cases e376;replace hx376_0:=(HB.out.cell (World.block_lt_of_cell? w _ hx376_0)).trans hx376_0;replace p376:=eq_true p376;replace q376:=eq_true q376;have hcz11_0:w10.cell? ⟨gb375,0,none⟩ = some (.slice A0_0 l0_0.length c0_0):=(blk_cell BK375.out 0).trans rfl;have hfz11_0:=blk_frozen BK375.out 0;have p377:0 ≤ (a2:Int):=oD;have q377:a2 < (l1.length:Int):=oD;obtain ⟨ad377,e377,hx377_0⟩:=Kd.at_int HR1.out a2 p377 q377;obtain rfl:ad376 = ad377:=(by injection e377);replace hx377_0:=(HB.out.cell (World.block_lt_of_cell? w _ hx377_0)).trans hx377_0;replace p377:=eq_true p377;replace q377:=eq_true q377;have p378:0 ≤ ((rd l1 a2):Int):=oD;have q378:(rd l1 a2) < (l0_0.length:Int):=oD;obtain ⟨ad378,e378,hx378_0⟩:=Kd.at_int HR0_0.out (rd l1 a2) p378 q378;cases e378;replace hx378_0:=(HB.out.cell (World.block_lt_of_cell? w _ hx378_0)).trans hx378_0;replace p378:=eq_true p378;replace q378:=eq_true q378))
      repeat (go_quiet (first|((with_reducible refine gate_dst (N:=3) rfl ?_);refine box_event ?hg (N:=3) ?hd (cs:=#[.slice A0_0 l0_0.length c0_0]) (t:=26) ?hr ?_;(case hd=>rfl);(case hg=>rfl);(case hr=>exact Yd);intro gb375 hg w10 hbox hb;have BK375:=Aside0.mk (hbox);have GW375:=Aside0.mk ((hZ:w.heap.size ≤ gb375));have GE375:=Aside0.mk ((hZ:w.heap.size ≤ gb375));replace HB:=Aside0.mk (below_step bH hb);clear hb hbox hg;have p376:0 ≤ (a2:Int):=oD;have q376:a2 < (l1.length:Int):=oD;obtain ⟨ad376,e376,hx376_0⟩:=Kd.at_int HR1.out a2 p376 q376;cases e376;replace hx376_0:=(HB.out.cell (World.block_lt_of_cell? w _ hx376_0)).trans hx376_0;replace p376:=eq_true p376;replace q376:=eq_true q376;have hcz11_0:w10.cell? ⟨gb375,0,none⟩ = some (.slice A0_0 l0_0.length c0_0):=(blk_cell BK375.out 0).trans rfl;have hfz11_0:=blk_frozen BK375.out 0;have p377:0 ≤ (a2:Int):=oD;have q377:a2 < (l1.length:Int):=oD;obtain ⟨ad377,e377,hx377_0⟩:=Kd.at_int HR1.out a2 p377 q377;obtain rfl:ad376 = ad377:=(by injection e377);replace hx377_0:=(HB.out.cell (World.block_lt_of_cell? w _ hx377_0)).trans hx377_0;replace p377:=eq_true p377;replace q377:=eq_true q377;have p378:0 ≤ ((rd l1 a2):Int):=oD;have q378:(rd l1 a2) < (l0_0.length:Int):=oD;obtain ⟨ad378,e378,hx378_0⟩:=Kd.at_int HR0_0.out (rd l1 a2) p378 q378;cases e378;replace hx378_0:=(HB.out.cell (World.block_lt_of_cell? w _ hx378_0)).trans hx378_0;replace p378:=eq_true p378;replace q378:=eq_true q378));try go_wp2_with (first|((with_reducible refine gate_dst (N:=3) rfl ?_);refine box_event ?hg (N:=3) ?hd (cs:=#[.slice A0_0 l0_0.length c0_0]) (t:=26) ?hr ?_;(case hd=>rfl);(case hg=>rfl);(case hr=>exact Yd);intro gb375 hg w10 hbox hb;have BK375:=Aside0.mk (hbox);have GW375:=Aside0.mk ((hZ:w.heap.size ≤ gb375));have GE375:=Aside0.mk ((hZ:w.heap.size ≤ gb375));replace HB:=Aside0.mk (below_step bH hb);clear hb hbox hg;have p376:0 ≤ (a2:Int):=oD;have q376:a2 < (l1.length:Int):=oD;obtain ⟨ad376,e376,hx376_0⟩:=Kd.at_int HR1.out a2 p376 q376;cases e376;replace hx376_0:=(HB.out.cell (World.block_lt_of_cell? w _ hx376_0)).trans hx376_0;replace p376:=eq_true p376;replace q376:=eq_true q376;have hcz11_0:w10.cell? ⟨gb375,0,none⟩ = some (.slice A0_0 l0_0.length c0_0):=(blk_cell BK375.out 0).trans rfl;have hfz11_0:=blk_frozen BK375.out 0;have p377:0 ≤ (a2:Int):=oD;have q377:a2 < (l1.length:Int):=oD;obtain ⟨ad377,e377,hx377_0⟩:=Kd.at_int HR1.out a2 p377 q377;obtain rfl:ad376 = ad377:=(by injection e377);replace hx377_0:=(HB.out.cell (World.block_lt_of_cell? w _ hx377_0)).trans hx377_0;replace p377:=eq_true p377;replace q377:=eq_true q377;have p378:0 ≤ ((rd l1 a2):Int):=oD;have q378:(rd l1 a2) < (l0_0.length:Int):=oD;obtain ⟨ad378,e378,hx378_0⟩:=Kd.at_int HR0_0.out (rd l1 a2) p378 q378;cases e378;replace hx378_0:=(HB.out.cell (World.block_lt_of_cell? w _ hx378_0)).trans hx378_0;replace p378:=eq_true p378;replace q378:=eq_true q378)))
      go_loopg [7,8,9] k (fun kq v7 v8 v9 w'=>∃ (x7_1:List Int) (x8_1:Int) (x9_1:Int),v8 = .int .i64 x8_1 ∧ v9 = .int .i64 x9_1 ∧ Aside0 (spec_l1Args.l0 kq l1 x7_1 x8_1 x9_1 l0_0 = some r) ∧ Aside0 (kq ≤ k) ∧ Aside0 (Kd.R (Kd.int .i64) 3 w' w.heap.size (fun _=>True) v7 x7_1) ∧ Aside0 (w'.heap[gb375]? = some (.cells #[(.slice (some ad378) l0_0.length c0_0)] 26 (0,0))) ∧ Aside0 (Below w.heap.size w w'))
      case atStart=>exact ⟨(([]:List Int)),(wrap64 (a2 + 1)),(rd l0_0 (rd l1 a2)),Ye,Ye,H',⟨Nat.le_refl _⟩,⟨Yg⟩,⟨by (with_reducible repeat (first|refine blk_drewN ?_ _|refine blk_drew ?_|refine blk_alloc ?_ _));exact BK375.out⟩,⟨bH⟩⟩
      case round =>
       clear H'
       try clear c1
       try clear p2
       try clear p3
       try clear q3
       try clear hx3
       try clear c4
       try clear c4b0
       try clear c5
       try clear c5b0
       try clear c6
       try clear c6b0
       try clear p6
       try clear c8
       try clear c8b0
       try clear c9
       try clear c9b0
       try clear hcz11_0
       try clear hfz11_0
       try clear hx376_0
       try clear hx377_0
       try clear hx378_0
       try clear p376
       try clear p377
       try clear p378
       try clear q376
       try clear q377
       try clear q378
       obtain ⟨x7_1,x8_1,x9_1,rfl,rfl,HA,HK1,HO_7,BK375,HB⟩:=hrel
       cases gk with
       | zero=>exact absurd HA.out (by simp [spec_l1Args.l0])
       | succ k1 =>
        have H:=HA.out
        clear HA
        simp only [spec_l1Args.l0] at H
        by_cases c12:x9_1 > 0
        ·rw [if_pos c12] at H
         have c12b0:decide (0 < x9_1) = true:=decide_eq_true c12
         clear c12
         by_cases c13:x7_1.length < 17592186044416
         ·rw [if_pos c13] at H
          have LMc13:=Aside0.mk c13
          clear c13
          obtain ⟨y379,hy379⟩:∃ y_:List Int,y_ = (x7_1 ++ [x8_1]):=⟨_,rfl⟩
          replace H:((spec_l1End.f k1 l0_0 l1 x8_1).bind fun t382=>(spec_l1Args.l0 k1 l1 y379 t382 (wrap64 (x9_1 - 1)) l0_0)) = some r:=by first|(rw [hy379];with_reducible exact H)|(have H2_:=(Option.bind_some _ _).symm.trans H;rw [hy379];with_reducible exact H2_)|(have H2_:=(Option.bind_some _ _).symm.trans H;with_reducible exact H2_)|with_reducible exact H|(rw [hy379];exact H)|exact H
          have Ny379:=Aside0.mk hy379
          clear hy379
          replace H:=Option.bind_eq_some_iff.mp H
          obtain ⟨t382,A140,H⟩:=H
          replace H:(spec_l1Args.l0 k1 l1 y379 t382 (wrap64 (x9_1 - 1)) l0_0) = some r:=H
          have A14:=Aside0.mk A140
          clear A140
          have H':=Aside0.mk H
          clear H
          go_wp2_with (first|((with_reducible refine gate_builtin (b:=.append) (xs:=#[.tmp 29,.tmp 31]) rfl ?_);at_builtin;refine Kd.R_append (Kd.int .i64) (w0:=w) w.heap.size rfl (.tmp 29) (.tmp 31) 24 3 (.int .i64 0) 8 rfl Try.underlying24 info3 rfl (by decide) Zc u7 x7_1 x8_1 [.int .i64 x8_1] (fun _=>True) (fun _=>False) rfl rfl ?aP (fun _ hk=>hk.elim) ?aF ?aO ?aB ?aS ?aL ?_;(case aP=>exact rfl);(case aB=>exact bH);(case aF=>exact YW);(case aO=>exact (rR HO_7));(case aS=>exact (below_size bH));(case aL=>have:=LMc13.out;omega);intro v380 w15 ho hb hg hat;rw [← Ny379.out] at ho;have n0_:=Aside0.mk (blk_grown (bB BK375) hg (Kd.R_ne HO_7.out BK375.out (by decide)));have n1_:=Aside0.mk (hb);have n2_:=Aside0.mk (ho);clear BK375;clear HB;clear HO_7;have BK375:=n0_;have HB:=n1_;have HO381:=n2_;clear n0_ n1_ n2_;clear ho hb hg hat;have hcz16_0:w15.cell? ⟨gb375,0,none⟩ = some (.slice (some ad378) l0_0.length c0_0):=(blk_cell BK375.out 0).trans rfl;have hfz16_0:=blk_frozen BK375.out 0)|(go_at_call 84;(with_reducible refine (spec_l1End.calls k1 _ _ l0_0 _ _ l1 x8_1 t382 _ ?side1 ?side2 ?side3 ?side4 A14.out).mono ?_);(case side1=>exact Yv);(case side2=>exact Yu);(case side3=>exact sC HR1);(case side4=>exact HC1.out);rintro e w17 ⟨rfl,hb⟩;replace HO381:=Aside0.mk (Kd.R_below (rR HO381) hb);replace BK375:=Aside0.mk (blk_below (bB BK375) hb);replace HB:=Aside0.mk (below_step bH hb);(try clear hb);(try clear hb2);(try clear hk);(try clear hi)))
          repeat (go_quiet (first|((with_reducible refine gate_builtin (b:=.append) (xs:=#[.tmp 29,.tmp 31]) rfl ?_);at_builtin;refine Kd.R_append (Kd.int .i64) (w0:=w) w.heap.size rfl (.tmp 29) (.tmp 31) 24 3 (.int .i64 0) 8 rfl Try.underlying24 info3 rfl (by decide) Zc u7 x7_1 x8_1 [.int .i64 x8_1] (fun _=>True) (fun _=>False) rfl rfl ?aP (fun _ hk=>hk.elim) ?aF ?aO ?aB ?aS ?aL ?_;(case aP=>exact rfl);(case aB=>exact bH);(case aF=>exact YW);(case aO=>exact (rR HO_7));(case aS=>exact (below_size bH));(case aL=>have:=LMc13.out;omega);intro v380 w15 ho hb hg hat;rw [← Ny379.out] at ho;have n0_:=Aside0.mk (blk_grown (bB BK375) hg (Kd.R_ne HO_7.out BK375.out (by decide)));have n1_:=Aside0.mk (hb);have n2_:=Aside0.mk (ho);clear BK375;clear HB;clear HO_7;have BK375:=n0_;have HB:=n1_;have HO381:=n2_;clear n0_ n1_ n2_;clear ho hb hg hat;have hcz16_0:w15.cell? ⟨gb375,0,none⟩ = some (.slice (some ad378) l0_0.length c0_0):=(blk_cell BK375.out 0).trans rfl;have hfz16_0:=blk_frozen BK375.out 0)|(go_at_call 84;(with_reducible refine (spec_l1End.calls k1 _ _ l0_0 _ _ l1 x8_1 t382 _ ?side1 ?side2 ?side3 ?side4 A14.out).mono ?_);(case side1=>exact Yv);(case side2=>exact Yu);(case side3=>exact sC HR1);(case side4=>exact HC1.out);rintro e w17 ⟨rfl,hb⟩;replace HO381:=Aside0.mk (Kd.R_below (rR HO381) hb);replace BK375:=Aside0.mk (blk_below (bB BK375) hb);replace HB:=Aside0.mk (below_step bH hb);(try clear hb);(try clear hb2);(try clear hk);(try clear hi)));try go_wp2_with (first|((with_reducible refine gate_builtin (b:=.append) (xs:=#[.tmp 29,.tmp 31]) rfl ?_);at_builtin;refine Kd.R_append (Kd.int .i64) (w0:=w) w.heap.size rfl (.tmp 29) (.tmp 31) 24 3 (.int .i64 0) 8 rfl Try.underlying24 info3 rfl (by decide) Zc u7 x7_1 x8_1 [.int .i64 x8_1] (fun _=>True) (fun _=>False) rfl rfl ?aP (fun _ hk=>hk.elim) ?aF ?aO ?aB ?aS ?aL ?_;(case aP=>exact rfl);(case aB=>exact bH);(case aF=>exact YW);(case aO=>exact (rR HO_7));(case aS=>exact (below_size bH));(case aL=>have:=LMc13.out;omega);intro v380 w15 ho hb hg hat;rw [← Ny379.out] at ho;have n0_:=Aside0.mk (blk_grown (bB BK375) hg (Kd.R_ne HO_7.out BK375.out (by decide)));have n1_:=Aside0.mk (hb);have n2_:=Aside0.mk (ho);clear BK375;clear HB;clear HO_7;have BK375:=n0_;have HB:=n1_;have HO381:=n2_;clear n0_ n1_ n2_;clear ho hb hg hat;have hcz16_0:w15.cell? ⟨gb375,0,none⟩ = some (.slice (some ad378) l0_0.length c0_0):=(blk_cell BK375.out 0).trans rfl;have hfz16_0:=blk_frozen BK375.out 0)|(go_at_call 84;(with_reducible refine (spec_l1End.calls k1 _ _ l0_0 _ _ l1 x8_1 t382 _ ?side1 ?side2 ?side3 ?side4 A14.out).mono ?_);(case side1=>exact Yv);(case side2=>exact Yu);(case side3=>exact sC HR1);(case side4=>exact HC1.out);rintro e w17 ⟨rfl,hb⟩;replace HO381:=Aside0.mk (Kd.R_below (rR HO381) hb);replace BK375:=Aside0.mk (blk_below (bB BK375) hb);replace HB:=Aside0.mk (below_step bH hb);(try clear hb);(try clear hb2);(try clear hk);(try clear hi))))
          go_roundg k1
          case measure=>have:=HK1.out;omega
          case rel=>exact ⟨(y379),(t382),(wrap64 (x9_1 - 1)),Ye,Ye,H',⟨Ze⟩,⟨rR HO381⟩,⟨by (with_reducible repeat (first|refine blk_drewN ?_ _|refine blk_drew ?_|refine blk_alloc ?_ _));exact BK375.out⟩,⟨bH⟩⟩
         ·rw [if_neg c13] at H
          exact absurd H (by simp)
        ·rw [if_neg c12] at H
         have c12b0:decide (0 < x9_1) = false:=decide_eq_false c12
         clear c12
         obtain rfl:=Option.some.inj H
         go_wp2
         repeat (go_quiet (fail);try go_wp2)
         go_ret
         exact ⟨_,Yb,rR HO_7,bH⟩
     ·rw [if_neg c9] at H
      exact absurd H (by simp)
    ·rw [if_neg c8] at H
     exact absurd H (by simp)
  ·rw [if_neg c5] at H
   exact absurd H (by simp)
 ·rw [if_neg c4] at H
  exact absurd H (by simp)

/-! ### spec_l5Eval: function 48 -/
mutual
def spec_l5Eval.l0:Nat → List Int → Int → List Int → Int → List Int → Int → Int → List Int → Int → List (List Int) → Option (Int)
 | 0,_,_,_,_,_,_,_,_,_,_=>none
 | k + 1,x2,x3,x4,x11,x30,x31,x32,x384000,x385000,x385001=>if x32 < x31 then (if 0 ≤ x32 then (if x32 < (x30.length:Int) then ((spec_l5Eval.f k x384000 x385000 x385001 x2 (rd x30 x32) x4).bind fun t392=>(spec_l5Eval.l0 k x2 x3 x4 (wrap64 ((wrap64 (x11 * x385000)) + t392)) x30 x31 (wrap64 (x32 + 1)) x384000 x385000 x385001)) else (none)) else (none)) else (if 0 ≤ x3 then (if x3 < (x2.length:Int) then (if 0 ≤ (rd x2 x3) then (if (rd x2 x3) < (x385001.length:Int) then (if 0 ≤ x11 then (if x11 < ((rd_L2 x385001 (rd x2 x3)).length:Int) then (some (rd (rd_L2 x385001 (rd x2 x3)) x11)) else (none)) else (none)) else (none)) else (none)) else (none)) else (none))
def spec_l5Eval.f:Nat → List Int → Int → List (List Int) → List Int → Int → List Int → Option (Int)
 | 0,_,_,_,_,_,_=>none
 | k + 1,l0_0,a1_0,l1_1,l2,a3,l4=>if 0 ≤ a3 then (if a3 < (l2.length:Int) then (if (rd l2 a3) < 0 then (if 0 ≤ (wrap64 ((-1) - (rd l2 a3))) then (if (wrap64 ((-1) - (rd l2 a3))) < (l4.length:Int) then (some (rd l4 (wrap64 ((-1) - (rd l2 a3))))) else (none)) else (none)) else ((spec_l1Args.f k l0_0 l2 a3).bind fun t388=>(spec_l5Eval.l0 k l2 a3 l4 0 t388 (t388.length:Int) 0 l0_0 a1_0 l1_1))) else (none)) else (none)
end
theorem spec_l5Eval.mono_l:∀ k,(∀ y0 y1 y2 y3 y4 y5,LeO (spec_l5Eval.f k y0 y1 y2 y3 y4 y5) (spec_l5Eval.f (k + 1) y0 y1 y2 y3 y4 y5)) ∧ (∀ y0 y1 y2 y3 y4 y5 y6 y7 y8 y9,LeO (spec_l5Eval.l0 k y0 y1 y2 y3 y4 y5 y6 y7 y8 y9) (spec_l5Eval.l0 (k + 1) y0 y1 y2 y3 y4 y5 y6 y7 y8 y9))
 | 0=>⟨fun _ _ _ _ _ _ r h=>by simp [spec_l5Eval.f] at h,fun _ _ _ _ _ _ _ _ _ _ r h=>by simp [spec_l5Eval.l0] at h⟩
 | k + 1=>by
  obtain ⟨ih0,ih1⟩:=spec_l5Eval.mono_l k
  refine ⟨?_,?_⟩
  ·intro y0 y1 y2 y3 y4 y5
   unfold spec_l5Eval.f
   have m0:=@spec_l1Args.mono
   exact mO
  ·intro y0 y1 y2 y3 y4 y5 y6 y7 y8 y9
   unfold spec_l5Eval.l0
   have m0:=@spec_l1Args.mono
   exact mO
theorem spec_l5Eval.mono:∀ a0 a1 a2 a3 a4 a5 k,LeO (spec_l5Eval.f k a0 a1 a2 a3 a4 a5) (spec_l5Eval.f (k + 1) a0 a1 a2 a3 a4 a5):=by
 intro a0 a1 a2 a3 a4 a5 k
 obtain ⟨ih0,ih1⟩:=spec_l5Eval.mono_l k
 exact ih0 a0 a1 a2 a3 a4 a5
def spec_l5Eval.T7:Bool × List (List Nat × List Nat):=(true,[([],[]),([],[]),([1],[1]),([0,2],[0,2]),([],[]),([],[]),([],[]),([],[]),([],[]),([4,5,6,7,8],[4,5,6,7,8]),([3,9],[3,9]),([10,9,0,1,2,3,4,5,6,7,8,9,10],[0,10])])
def spec_l5Eval.B7:List Nat:=[0,0,2,7,0,0,0,0,0,496,1023,2047]
theorem spec_l5Eval.tab7:rtab .any (opsOf Try.f48 7) = spec_l5Eval.T7:=by kernel_rfl
theorem spec_l5Eval.bits7:waitsOk spec_l5Eval.T7.2 spec_l5Eval.B7 = true:=by kernel_rfl
def spec_l5Eval.T9:Bool × List (List Nat × List Nat):=(true,[([],[]),([0],[0]),([],[]),([],[]),([2,3],[2,3]),([4],[4]),([1,5],[1,5]),([6],[6]),([],[]),([7,8],[7,8]),([9],[9]),([10,0,1,2,3,4,5,6,7,8,9,10],[10])])
def spec_l5Eval.B9:List Nat:=[0,1,0,0,12,28,63,127,0,511,1023,2047]
theorem spec_l5Eval.tab9:rtab .any (opsOf Try.f48 9) = spec_l5Eval.T9:=by kernel_rfl
theorem spec_l5Eval.bits9:waitsOk spec_l5Eval.T9.2 spec_l5Eval.B9 = true:=by kernel_rfl
set_option maxHeartbeats 8000000 in
set_option maxRecDepth 100000 in
theorem spec_l5Eval.calls (k:Nat):∀ (A0_0:Option Addr) (c0_0:Nat) (l0_0:List Int) (a1_0:Int) (A1_1:Option Addr) (c1_1:Nat) (l1_1:List (List Int)) (A2:Option Addr) (c2:Nat) (l2:List Int) (a3:Int) (A4:Option Addr) (c4:Nat) (l4:List Int) (r:Int) (w:World) (hr0_0:Kd.C (Kd.int .i64) w A0_0 l0_0.length l0_0) (hc0_0:l0_0.length ≤ c0_0) (hr1_1:Kd.C (Kd.slice 3 (Kd.int .i64)) w A1_1 l1_1.length l1_1) (hc1_1:l1_1.length ≤ c1_1) (hr2:Kd.C (Kd.int .i64) w A2 l2.length l2) (hc2:l2.length ≤ c2) (hr4:Kd.C (Kd.int .i64) w A4 l4.length l4) (hc4:l4.length ≤ c4) (h:spec_l5Eval.f k l0_0 a1_0 l1_1 l2 a3 l4 = some r),
  Calls Try.prog 48 #[.agg #[.slice A0_0 l0_0.length c0_0],.agg #[.int .i64 a1_0,.slice A1_1 l1_1.length c1_1],.slice A2 l2.length c2,.int .i64 a3,.slice A4 l4.length c4] w fun e w'=>e = .returned (.int .i64 r) ∧ Below w.heap.size w w':=by
 induction k using Nat.strongRecOn with
 | _ k ih =>
 intro A0_0 c0_0 l0_0 a1_0 A1_1 c1_1 l1_1 A2 c2 l2 a3 A4 c4 l4 r w hr0_0 hc0_0 hr1_1 hc1_1 hr2 hc2 hr4 hc4 h
 cases k with
 | zero=>exact absurd h (by simp [spec_l5Eval.f])
 | succ k =>
 simp only [spec_l5Eval.f] at h
 have hu26:=Try.underlying26
 have hu31:=Try.underlying31
 have HR0_0:=Aside0.mk hr0_0
 have HC0_0:=Aside0.mk hc0_0
 clear hr0_0 hc0_0
 have HR1_1:=Aside0.mk hr1_1
 have HC1_1:=Aside0.mk hc1_1
 clear hr1_1 hc1_1
 have HR2:=Aside0.mk hr2
 have HC2:=Aside0.mk hc2
 clear hr2 hc2
 have HR4:=Aside0.mk hr4
 have HC4:=Aside0.mk hc4
 clear hr4 hc4
 have HB:=Aside0.mk (Below.refl w.heap.size w)
 have H:(if 0 ≤ a3 then (if a3 < (l2.length:Int) then (if (rd l2 a3) < 0 then (if 0 ≤ (wrap64 ((-1) - (rd l2 a3))) then (if (wrap64 ((-1) - (rd l2 a3))) < (l4.length:Int) then (some (rd l4 (wrap64 ((-1) - (rd l2 a3))))) else (none)) else (none)) else ((spec_l1Args.f k l0_0 l2 a3).bind fun t388=>(spec_l5Eval.l0 k l2 a3 l4 0 t388 (t388.length:Int) 0 l0_0 a1_0 l1_1))) else (none)) else (none)) = some r:=h
 clear h
 by_cases c6:0 ≤ a3
 ·rw [if_pos c6] at H
  have c6b0:=decide_eq_true c6
  clear c6
  by_cases c7:a3 < (l2.length:Int)
  ·rw [if_pos c7] at H
   have c7b0:=decide_eq_true c7
   clear c7
   by_cases c8:(rd l2 a3) < 0
   ·rw [if_pos c8] at H
    have c8b0:=decide_eq_true c8
    clear c8
    obtain ⟨ji9,hji9⟩:∃ j_:Int,(wrap64 ((-1) - (rd l2 a3))) = j_:=⟨_,rfl⟩
    replace H:(if 0 ≤ (ji9) then (if (ji9) < (l4.length:Int) then (some (rd l4 (ji9))) else (none)) else (none)) = some r:=by first|(rw [hji9] at H;exact H)|(simp only [hji9] at H ⊢;exact H)
    have hji9w:(IntKind.i64.wrap ((-1) - (rd l2 a3))) = ji9:=(i64_w _).trans hji9
    by_cases c10:0 ≤ (ji9)
    ·rw [if_pos c10] at H
     have c10b0:=decide_eq_true c10
     clear c10
     by_cases c11:(ji9) < (l4.length:Int)
     ·rw [if_pos c11] at H
      have c11b0:=decide_eq_true c11
      clear c11
      obtain rfl:=Option.some.inj H
      go_enter Try.func48,Try.ntmps48
      go_wp2_with (first|((with_reducible refine gate_dst (N:=5) rfl ?_);refine box_event ?hg (N:=5) ?hd (cs:=#[.slice A0_0 l0_0.length c0_0]) (t:=26) ?hr ?_;(case hd=>rfl);(case hg=>rfl);(case hr=>exact Yd);intro gb383 hg w12 hbox hb;have BK383:=Aside0.mk (hbox);have GW383:=Aside0.mk ((hZ:w.heap.size ≤ gb383));have GE383:=Aside0.mk ((hZ:w.heap.size ≤ gb383));replace HB:=Aside0.mk (below_step bH hb);clear hb hbox hg)|((with_reducible refine gate_dst (N:=6) rfl ?_);refine box_event ?hg (N:=6) ?hd (cs:=#[.int .i64 a1_0,.slice A1_1 l1_1.length c1_1]) (t:=31) ?hr ?_;(case hd=>rfl);(case hg=>rfl);(case hr=>exact Yd);intro gb384 hg w13 hbox hb;have BK384:=Aside0.mk (hbox);have GW384:=Aside0.mk ((hZ:w.heap.size ≤ gb384));have GE384:=Aside0.mk ((hZ:w.heap.size ≤ gb384));replace HB:=Aside0.mk (below_step bH hb);have NB383_384:=Aside0.mk ((nL BK383:gb383 ≠ gb384));have NB384_383:=Aside0.mk ((nG BK383:gb384 ≠ gb383));replace BK383:=Aside0.mk (blk_below (bB BK383) hb);clear hb hbox hg;have p385:0 ≤ (a3:Int):=oD;have q385:a3 < (l2.length:Int):=oD;obtain ⟨ad385,e385,hx385_0⟩:=Kd.at_int HR2.out a3 p385 q385;cases e385;replace hx385_0:=(HB.out.cell (World.block_lt_of_cell? w _ hx385_0)).trans hx385_0;replace p385:=eq_true p385;replace q385:=eq_true q385;have p386:0 ≤ (a3:Int):=oD;have q386:a3 < (l2.length:Int):=oD;obtain ⟨ad386,e386,hx386_0⟩:=Kd.at_int HR2.out a3 p386 q386;obtain rfl:ad385 = ad386:=(by injection e386);replace hx386_0:=(HB.out.cell (World.block_lt_of_cell? w _ hx386_0)).trans hx386_0;replace p386:=eq_true p386;replace q386:=eq_true q386;have p387:0 ≤ ((ji9):Int):=oD;have q387:(ji9) < (l4.length:Int):=oD;obtain ⟨ad387,e387,hx387_0⟩:=Kd.at_int HR4.out (ji9) p387 q387;cases e387;replace hx387_0:=(HB.out.cell (World.block_lt_of_cell? w _ hx387_0)).trans hx387_0;replace p387:=eq_true p387;replace q387:=eq_true q387))
      go_ret
      exact ⟨Zi,bH⟩
     ·rw [if_neg c11] at H
      exact absurd H (by simp)
    ·rw [if_neg c10] at H
     exact absurd H (by simp)
   ·rw [if_neg c8] at H
    have c8b0:decide ((rd l2 a3) < 0) = false:=decide_eq_false c8
    clear c8
    replace H:=Option.bind_eq_some_iff.mp H
    obtain ⟨t388,A140,H⟩:=H
    replace H:(spec_l5Eval.l0 k l2 a3 l4 0 t388 (t388.length:Int) 0 l0_0 a1_0 l1_1) = some r:=H
    have A14:=Aside0.mk A140
    clear A140
    have H':=Aside0.mk H
    clear H
    go_enter Try.func48,Try.ntmps48
    go_wp2_with (first|((with_reducible refine gate_dst (N:=5) rfl ?_);refine box_event ?hg (N:=5) ?hd (cs:=#[.slice A0_0 l0_0.length c0_0]) (t:=26) ?hr ?_;(case hd=>rfl);(case hg=>rfl);(case hr=>exact Yd);intro gb383 hg w15 hbox hb;have BK383:=Aside0.mk (hbox);have GW383:=Aside0.mk ((hZ:w.heap.size ≤ gb383));have GE383:=Aside0.mk ((hZ:w.heap.size ≤ gb383));replace HB:=Aside0.mk (below_step bH hb);clear hb hbox hg)|((with_reducible refine gate_dst (N:=6) rfl ?_);refine box_event ?hg (N:=6) ?hd (cs:=#[.int .i64 a1_0,.slice A1_1 l1_1.length c1_1]) (t:=31) ?hr ?_;(case hd=>rfl);(case hg=>rfl);(case hr=>exact Yd);intro gb384 hg w16 hbox hb;have BK384:=Aside0.mk (hbox);have GW384:=Aside0.mk ((hZ:w.heap.size ≤ gb384));have GE384:=Aside0.mk ((hZ:w.heap.size ≤ gb384));replace HB:=Aside0.mk (below_step bH hb);have NB383_384:=Aside0.mk ((nL BK383:gb383 ≠ gb384));have NB384_383:=Aside0.mk ((nG BK383:gb384 ≠ gb383));replace BK383:=Aside0.mk (blk_below (bB BK383) hb);clear hb hbox hg;have p385:0 ≤ (a3:Int):=oD;have q385:a3 < (l2.length:Int):=oD;obtain ⟨ad385,e385,hx385_0⟩:=Kd.at_int HR2.out a3 p385 q385;cases e385;replace hx385_0:=(HB.out.cell (World.block_lt_of_cell? w _ hx385_0)).trans hx385_0;replace p385:=eq_true p385;replace q385:=eq_true q385;have hnb17:=NB383_384.out;have hnc17:=NB384_383.out;have hcz18_0:w16.cell? ⟨gb383,0,none⟩ = some (.slice A0_0 l0_0.length c0_0):=(blk_cell BK383.out 0).trans rfl;have hfz18_0:=blk_frozen BK383.out 0)|((with_reducible refine gate_callee (f:=86) rfl ?_);refine goesL_ (some 30) rfl rfl Try.func86 (by kernel_rfl) rfl #[.agg #[.slice A0_0 l0_0.length c0_0],.slice (some ad385) l2.length c2,.int .i64 a3] rfl Ya ?_;(with_reducible refine (spec_l1Args.calls k _ _ l0_0 _ _ l2 a3 t388 _ ?side1 ?side2 ?side3 ?side4 A14.out).mono ?_);(case side1=>exact Yv);(case side2=>exact Yu);(case side3=>exact sC HR2);(case side4=>exact HC2.out);rintro e w19 ⟨v389,rfl,ho0,hb⟩;refine ⟨_,rfl,?_⟩;have HO390:=Aside0.mk (Kd.R_lower ho0 (below_size bH));replace BK383:=Aside0.mk (blk_below (bB BK383) hb);replace BK384:=Aside0.mk (blk_below (bB BK384) hb);replace HB:=Aside0.mk (below_step bH hb);(try clear hb);(try clear hb2);(try clear hk);(try clear hi);(try clear ho0);obtain ⟨Ao20,co20,eo20⟩:=Kd.R_slice HO390.out;subst eo20))
    go_loopg [11,32] k (fun kq v11 v32 w'=>∃ (x11_1:Int) (x32_1:Int),v11 = .int .i64 x11_1 ∧ v32 = .int .i64 x32_1 ∧ Aside0 (spec_l5Eval.l0 kq l2 a3 l4 x11_1 t388 (t388.length:Int) x32_1 l0_0 a1_0 l1_1 = some r) ∧ Aside0 (kq ≤ k) ∧ Aside0 (Kd.R (Kd.int .i64) 3 w' w.heap.size (fun _=>True) (.slice Ao20 t388.length co20) t388) ∧ Aside0 (w'.heap[gb383]? = some (.cells #[(.slice A0_0 l0_0.length c0_0)] 26 (0,0))) ∧ Aside0 (w'.heap[gb384]? = some (.cells #[.int .i64 a1_0,(.slice A1_1 l1_1.length c1_1)] 31 (0,0))) ∧ Aside0 (Below w.heap.size w w'))
    case atStart=>exact ⟨(0),(0),Ye,Ye,H',⟨Nat.le_refl _⟩,⟨rR HO390⟩,⟨by (with_reducible repeat (first|refine blk_drewN ?_ _|refine blk_drew ?_|refine blk_alloc ?_ _));exact BK383.out⟩,⟨by (with_reducible repeat (first|refine blk_drewN ?_ _|refine blk_drew ?_|refine blk_alloc ?_ _));exact BK384.out⟩,⟨bH⟩⟩
    case round =>
     clear H'
     try clear c1
     try clear c2
     try clear p2
     try clear p3
     try clear q3
     try clear hx3
     try clear c4
     try clear c6
     try clear c6b0
     try clear p6
     try clear c7
     try clear c7b0
     try clear c8
     try clear c8b0
     try clear c10
     try clear c10b0
     try clear c11
     try clear c11b0
     try clear c17
     try clear hcz18_0
     try clear hfz18_0
     try clear hx385_0
     try clear hx386_0
     try clear hx387_0
     try clear p385
     try clear p386
     try clear p387
     try clear q385
     try clear q386
     try clear q387
     obtain ⟨x11_1,x32_1,rfl,rfl,HA,HK1,HO_30,BK383,BK384,HB⟩:=hrel
     cases gk with
     | zero=>exact absurd HA.out (by simp [spec_l5Eval.l0])
     | succ k1 =>
      have H:=HA.out
      clear HA
      simp only [spec_l5Eval.l0] at H
      by_cases c21:x32_1 < (t388.length:Int)
      ·rw [if_pos c21] at H
       have c21b0:=decide_eq_true c21
       clear c21
       by_cases c22:0 ≤ x32_1
       ·rw [if_pos c22] at H
        have c22b0:=decide_eq_true c22
        clear c22
        by_cases c23:x32_1 < (t388.length:Int)
        ·rw [if_pos c23] at H
         have c23b0:=decide_eq_true c23
         clear c23
         replace H:=Option.bind_eq_some_iff.mp H
         obtain ⟨t392,A240,H⟩:=H
         replace H:(spec_l5Eval.l0 k1 l2 a3 l4 (wrap64 ((wrap64 (x11_1 * a1_0)) + t392)) t388 (t388.length:Int) (wrap64 (x32_1 + 1)) l0_0 a1_0 l1_1) = some r:=H
         have A24:=Aside0.mk A240
         clear A240
         have H':=Aside0.mk H
         clear H
         have p391:0 ≤ (x32_1:Int):=oD
         have q391:x32_1 < (t388.length:Int):=oD
         obtain ⟨ad391,e391,hx391_0⟩:=Kd.at_int (Kd.R_reads' HO_30.out).2.2 x32_1 p391 q391
         cases e391
         replace p391:=eq_true p391
         replace q391:=eq_true q391
         try go_wp2
         replace HO_30:=Aside0.mk (Kd.R_drew HO_30.out);replace BK383:=Aside0.mk (blk_drew BK383.out);replace BK384:=Aside0.mk (blk_drew BK384.out);replace HB:=Aside0.mk (below_drew1 HB.out)
         refine start_ (n:=12) (S:=fun w'=>w'.cell? ⟨gb384,0,none⟩ = some (.int .i64 a1_0) ∧ w'.cell? ⟨gb384,1,none⟩ = some (.slice A1_1 l1_1.length c1_1) ∧ w'.cell? ⟨gb383,0,none⟩ = some (.slice A0_0 l0_0.length c0_0)) (ds:=[]) #[false,false,false,false,false,false,false,false,false,false,false,false] (by kernel_rfl) rfl rfl ⟨(blk_cell BK384.out 0).trans rfl,(blk_cell BK384.out 1).trans rfl,(blk_cell BK383.out 0).trans rfl⟩ (fun hHeld=>?_);refine with_tabW spec_l5Eval.tab7 spec_l5Eval.bits7 (fun HT_ HW_=>?_)
         generalize wr.drew = w25 at HO_30 BK383 BK384 HB hHeld ⊢
         refine pU (i:=0) (N:=some 36) #[true,false,false,false,false,false,false,false,false,false,false,false] (any_of HT_.out (by kernel_rfl)) ?_
         refine pU (i:=1) (N:=some 37) #[true,true,false,false,false,false,false,false,false,false,false,false] (any_of HT_.out (by kernel_rfl)) ?_
         refine pU (i:=6) (N:=some 42) #[true,true,false,false,false,false,true,false,false,false,false,false] (any_of HT_.out (by kernel_rfl)) ?_
         refine pU (i:=7) (N:=some 43) #[true,true,false,false,false,false,true,true,false,false,false,false] (any_of HT_.out (by kernel_rfl)) ?_
         refine pU (i:=8) (N:=some 44) #[true,true,false,false,false,false,true,true,true,false,false,false] (any_of HT_.out (by kernel_rfl)) ?_
         refine take_ (i:=2) (N:=some 38) (v:=?_) (a':=?_) #[true,true,true,false,false,false,true,true,true,false,false,false] rfl rfl (take_ofW HT_.out HW_.out (by kernel_rfl)) (fun _ _ _ h=>h) (Or.inl ⟨by rfl,?_⟩) hHeld ?_ ?_
         rotate_left
         ·rintro w' ⟨s0,s1,s2⟩
          go_simp
          with_reducible rfl
         rotate_left
         ·simp only [Act.put,List.setIfInBounds_toArray,List.set_cons_zero,List.set_cons_succ,i64_w,i32_w]
          rfl
         refine pU (i:=3) (N:=some 39) #[true,true,true,true,false,false,true,true,true,false,false,false] (any_of HT_.out (by kernel_rfl)) ?_
         refine take_ (i:=4) (N:=some 40) (v:=?_) (a':=?_) #[true,true,true,true,true,false,true,true,true,false,false,false] rfl rfl (take_ofW HT_.out HW_.out (by kernel_rfl)) (fun _ _ _ h=>h) (Or.inl ⟨by rfl,?_⟩) hHeld ?_ ?_
         rotate_left
         ·rintro w' ⟨s0,s1,s2⟩
          go_simp
          with_reducible rfl
         rotate_left
         ·simp only [Act.put,List.setIfInBounds_toArray,List.set_cons_zero,List.set_cons_succ,i64_w,i32_w]
          rfl
         refine take_ (i:=5) (N:=some 41) (v:=?_) (a':=?_) #[true,true,true,true,true,true,true,true,true,false,false,false] rfl rfl (take_ofW HT_.out HW_.out (by kernel_rfl)) (fun _ _ _ h=>h) (Or.inl ⟨by rfl,?_⟩) hHeld ?_ ?_
         rotate_left
         ·rintro w' ⟨s0,s1,s2⟩
          go_simp
          with_reducible rfl
         rotate_left
         ·simp only [Act.put,List.setIfInBounds_toArray,List.set_cons_zero,List.set_cons_succ,i64_w,i32_w]
          rfl
         refine one_ (i:=9) (N:=some 45) #[true,true,true,true,true,true,true,true,true,true,false,false] rfl rfl (one_of HT_.out (by kernel_rfl)) (by decide) (fun K hK=>?_)
         refine goes_ Try.func48 (by kernel_rfl) rfl #[.agg #[.slice A0_0 l0_0.length c0_0],.agg #[.int .i64 a1_0,.slice A1_1 l1_1.length c1_1],.slice (some ad385) l2.length c2,.int .i64 (rd t388 x32_1),.slice A4 l4.length c4] (by rfl) rfl rfl Ya ?_
         with_reducible refine (ih k1 Ze _ _ l0_0 a1_0 _ _ l1_1 _ _ l2 (rd t388 x32_1) _ _ l4 t392 _ ?side1 ?side2 ?side3 ?side4 ?side5 ?side6 ?side7 ?side8 A24.out).mono ?_
         (case side1=>exact Yv)
         (case side2=>exact Yu)
         (case side3=>exact YN)
         (case side4=>exact YK)
         (case side5=>exact sC HR2)
         (case side6=>exact HC2.out)
         (case side7=>exact sC HR4)
         (case side8=>exact HC4.out)
         rintro e w26 ⟨rfl,hb⟩
         refine ⟨_,rfl,?_⟩
         replace HO_30:=Aside0.mk (Kd.R_below (rR HO_30) hb);replace BK383:=Aside0.mk (blk_below (bB BK383) hb);replace BK384:=Aside0.mk (blk_below (bB BK384) hb);replace HB:=Aside0.mk (below_step bH hb)
         (try clear hb)
         (try clear hb2)
         (try clear hk)
         (try clear hi)
         refine hK.out _ _ ⟨(blk_cell BK384.out 0).trans rfl,(blk_cell BK384.out 1).trans rfl,(blk_cell BK383.out 0).trans rfl⟩ (fun hHeld=>?_)
         clear hK K
         refine nM (N:=some 45) ?_
         refine pU (i:=10) (N:=some 46) #[true,true,true,true,true,true,true,true,true,true,true,false] (any_of HT_.out (by kernel_rfl)) ?_
         refine pU (i:=11) (N:=some 11) #[true,true,true,true,true,true,true,true,true,true,true,true] (any_of HT_.out (by kernel_rfl)) ?_
         refine done_ (done_of HT_.out (by kernel_rfl)) ?_
         try go_wp2
         go_roundg k1
         case measure=>have:=HK1.out;omega
         case rel=>exact ⟨(wrap64 ((wrap64 (x11_1 * a1_0)) + t392)),(wrap64 (x32_1 + 1)),Ye,Ye,H',⟨Ze⟩,⟨rR HO_30⟩,⟨by (with_reducible repeat (first|refine blk_drewN ?_ _|refine blk_drew ?_|refine blk_alloc ?_ _));exact BK383.out⟩,⟨by (with_reducible repeat (first|refine blk_drewN ?_ _|refine blk_drew ?_|refine blk_alloc ?_ _));exact BK384.out⟩,⟨bH⟩⟩
        ·rw [if_neg c23] at H
         exact absurd H (by simp)
       ·rw [if_neg c22] at H
        exact absurd H (by simp)
      ·rw [if_neg c21] at H
       have c21b0:decide (x32_1 < (t388.length:Int)) = false:=decide_eq_false c21
       clear c21
       by_cases c27:0 ≤ a3
       ·rw [if_pos c27] at H
        have c27b0:=decide_eq_true c27
        clear c27
        by_cases c28:a3 < (l2.length:Int)
        ·rw [if_pos c28] at H
         have c28b0:=decide_eq_true c28
         clear c28
         by_cases c29:0 ≤ (rd l2 a3)
         ·rw [if_pos c29] at H
          have c29b0:=decide_eq_true c29
          clear c29
          by_cases c30:(rd l2 a3) < (l1_1.length:Int)
          ·rw [if_pos c30] at H
           have c30b0:=decide_eq_true c30
           clear c30
           by_cases c31:0 ≤ x11_1
           ·rw [if_pos c31] at H
            have c31b0:=decide_eq_true c31
            clear c31
            by_cases c32:x11_1 < ((rd_L2 l1_1 (rd l2 a3)).length:Int)
            ·rw [if_pos c32] at H
             have c32b0:=decide_eq_true c32
             clear c32
             obtain rfl:=Option.some.inj H
             try go_wp2
             replace HO_30:=Aside0.mk (Kd.R_drew HO_30.out);replace BK383:=Aside0.mk (blk_drew BK383.out);replace BK384:=Aside0.mk (blk_drew BK384.out);replace HB:=Aside0.mk (below_drew1 HB.out)
             have p393:0 ≤ (a3:Int):=oD
             have q393:a3 < (l2.length:Int):=oD
             obtain ⟨ad393,e393,hx393_0⟩:=Kd.at_int HR2.out a3 p393 q393
             have hw393_0:=hx393_0
             obtain rfl:ad385 = ad393:=(by injection e393)
             replace hx393_0:=(HB.out.cell (World.block_lt_of_cell? w _ hx393_0)).trans hx393_0
             replace p393:=eq_true p393
             replace q393:=eq_true q393
             have p394:0 ≤ ((rd l2 a3):Int):=oD
             have q394:(rd l2 a3) < (l1_1.length:Int):=oD
             obtain ⟨ad394,A394_0,c394_0,e394,hx394_0,hl394_0,hi394_0⟩:=at_L2 HR1_1.out (rd l2 a3) p394 q394
             have hw394_0:=hx394_0
             cases e394
             replace hx394_0:=(HB.out.cell (World.block_lt_of_cell? w _ hx394_0)).trans hx394_0
             have HR394_0:=Aside0.mk hi394_0
             have HC394_0:=Aside0.mk hl394_0
             clear hi394_0 hl394_0
             replace p394:=eq_true p394
             replace q394:=eq_true q394
             have p395:0 ≤ (x11_1:Int):=oD
             have q395:x11_1 < ((rd_L2 l1_1 (rd l2 a3)).length:Int):=oD
             obtain ⟨ad395,e395,hx395_0⟩:=Kd.at_int HR394_0.out x11_1 p395 q395
             have hw395_0:=hx395_0
             cases e395
             replace hx395_0:=(HB.out.cell (World.block_lt_of_cell? w _ hx395_0)).trans hx395_0
             replace p395:=eq_true p395
             replace q395:=eq_true q395
             refine start_ (n:=12) (S:=fun w'=>w'.cell? ⟨gb384,0,none⟩ = some (.int .i64 a1_0) ∧ w'.cell? ⟨gb384,1,none⟩ = some (.slice (some ad394) l1_1.length c1_1) ∧ w'.cell? (ad385.add (a3).toNat) = some (.int .i64 (rd l2 a3)) ∧ w'.cell? (ad394.add ((rd l2 a3)).toNat) = some (.slice (some ad395) (rd_L2 l1_1 (rd l2 a3)).length c394_0) ∧ w'.cell? (ad395.add (x11_1).toNat) = some (.int .i64 (rd (rd_L2 l1_1 (rd l2 a3)) x11_1))) (ds:=[]) #[false,false,false,false,false,false,false,false,false,false,false,false] (by kernel_rfl) rfl rfl ⟨(blk_cell BK384.out 0).trans rfl,(blk_cell BK384.out 1).trans rfl,((HB.out.cell (World.block_lt_of_cell? w _ hw393_0)).trans hw393_0),((HB.out.cell (World.block_lt_of_cell? w _ hw394_0)).trans hw394_0),((HB.out.cell (World.block_lt_of_cell? w _ hw395_0)).trans hw395_0)⟩ (fun hHeld=>?_);refine with_tabW spec_l5Eval.tab9 spec_l5Eval.bits9 (fun HT_ HW_=>?_)
             generalize wr.drew = w33 at HO_30 BK383 BK384 HB HR394_0 hx393_0 hx394_0 hx395_0 hHeld ⊢
             refine pU (i:=0) (N:=some 48) #[true,false,false,false,false,false,false,false,false,false,false,false] (any_of HT_.out (by kernel_rfl)) ?_
             refine pU (i:=2) (N:=some 50) #[true,false,true,false,false,false,false,false,false,false,false,false] (any_of HT_.out (by kernel_rfl)) ?_
             refine pU (i:=3) (N:=some 51) #[true,false,true,true,false,false,false,false,false,false,false,false] (any_of HT_.out (by kernel_rfl)) ?_
             refine pU (i:=4) (N:=some 52) #[true,false,true,true,true,false,false,false,false,false,false,false] (any_of HT_.out (by kernel_rfl)) ?_
             refine pU (i:=8) (N:=some 56) #[true,false,true,true,true,false,false,false,true,false,false,false] (any_of HT_.out (by kernel_rfl)) ?_
             refine take_ (i:=1) (N:=some 49) (v:=?_) (a':=?_) #[true,true,true,true,true,false,false,false,true,false,false,false] rfl rfl (take_ofW HT_.out HW_.out (by kernel_rfl)) (fun _ _ _ h=>h) (Or.inl ⟨by rfl,?_⟩) hHeld ?_ ?_
             rotate_left
             ·rintro w' ⟨s0,s1,s2,s3,s4⟩
              go_simp
              with_reducible rfl
             rotate_left
             ·simp only [Act.put,List.setIfInBounds_toArray,List.set_cons_zero,List.set_cons_succ,i64_w,i32_w]
              rfl
             refine take_ (i:=5) (N:=some 53) (v:=?_) (a':=?_) #[true,true,true,true,true,true,false,false,true,false,false,false] rfl rfl (take_ofW HT_.out HW_.out (by kernel_rfl)) (fun _ _ _ h=>h) (Or.inl ⟨by rfl,?_⟩) hHeld ?_ ?_
             rotate_left
             ·rintro w' ⟨s0,s1,s2,s3,s4⟩
              go_simp
              with_reducible rfl
             rotate_left
             ·simp only [Act.put,List.setIfInBounds_toArray,List.set_cons_zero,List.set_cons_succ,i64_w,i32_w]
              rfl
             refine pU (i:=6) (N:=some 54) #[true,true,true,true,true,true,true,false,true,false,false,false] (any_of HT_.out (by kernel_rfl)) ?_
             refine take_ (i:=7) (N:=some 55) (v:=?_) (a':=?_) #[true,true,true,true,true,true,true,true,true,false,false,false] rfl rfl (take_ofW HT_.out HW_.out (by kernel_rfl)) (fun _ _ _ h=>h) (Or.inl ⟨by rfl,?_⟩) hHeld ?_ ?_
             rotate_left
             ·rintro w' ⟨s0,s1,s2,s3,s4⟩
              go_simp
              with_reducible rfl
             rotate_left
             ·simp only [Act.put,List.setIfInBounds_toArray,List.set_cons_zero,List.set_cons_succ,i64_w,i32_w]
              rfl
             refine pU (i:=9) (N:=some 57) #[true,true,true,true,true,true,true,true,true,true,false,false] (any_of HT_.out (by kernel_rfl)) ?_
             refine take_ (i:=10) (N:=some 58) (v:=?_) (a':=?_) #[true,true,true,true,true,true,true,true,true,true,true,false] rfl rfl (take_ofW HT_.out HW_.out (by kernel_rfl)) (fun _ _ _ h=>h) (Or.inl ⟨by rfl,?_⟩) hHeld ?_ ?_
             rotate_left
             ·rintro w' ⟨s0,s1,s2,s3,s4⟩
              go_simp
              with_reducible rfl
             rotate_left
             ·simp only [Act.put,List.setIfInBounds_toArray,List.set_cons_zero,List.set_cons_succ,i64_w,i32_w]
              rfl
             refine pU (i:=11) (N:=some 10) #[true,true,true,true,true,true,true,true,true,true,true,true] (any_of HT_.out (by kernel_rfl)) ?_
             refine done_ (done_of HT_.out (by kernel_rfl)) ?_
             try go_wp2
             go_ret
             exact ⟨Yb,bH⟩
            ·rw [if_neg c32] at H
             exact absurd H (by simp)
           ·rw [if_neg c31] at H
            exact absurd H (by simp)
          ·rw [if_neg c30] at H
           exact absurd H (by simp)
         ·rw [if_neg c29] at H
          exact absurd H (by simp)
        ·rw [if_neg c28] at H
         exact absurd H (by simp)
       ·rw [if_neg c27] at H
        exact absurd H (by simp)
  ·rw [if_neg c7] at H
   exact absurd H (by simp)
 ·rw [if_neg c6] at H
  exact absurd H (by simp)

/-! ### spec_EvalIn: function 12 -/
def spec_EvalIn.f (k:Nat) (l0_0:List Int) (a1_0:Int) (l1_1:List (List Int)) (l2:List Int) (l3:List Int):Option (Int × Bool):=(spec_GoodWorld.f k l0_0 a1_0 l1_1).bind fun t398=>(if t398 = true then ((spec_l1Term.f k l0_0 l2).bind fun t399=>(if t399 = true then ((spec_l5Env.f k a1_0 l1_1 l3).bind fun t400=>(if t400 = true then ((spec_l5Eval.f k l0_0 a1_0 l1_1 l2 0 l3).bind fun t401=>(some (t401,true))) else (some (0,false)))) else (some (0,false)))) else (some (0,false)))
theorem spec_EvalIn.mono:∀ a0 a1 a2 a3 a4 k,LeO (spec_EvalIn.f k a0 a1 a2 a3 a4) (spec_EvalIn.f (k + 1) a0 a1 a2 a3 a4):=by
 intro a0 a1 a2 a3 a4 k
 unfold spec_EvalIn.f
 have m0:=@spec_GoodWorld.mono
 have m1:=@spec_l1Term.mono
 have m2:=@spec_l5Env.mono
 have m3:=@spec_l5Eval.mono
 exact mO
set_option maxHeartbeats 8000000 in
set_option maxRecDepth 100000 in
theorem spec_EvalIn.calls (k:Nat) (A0_0:Option Addr) (c0_0:Nat) (l0_0:List Int) (a1_0:Int) (A1_1:Option Addr) (c1_1:Nat) (l1_1:List (List Int)) (A2:Option Addr) (c2:Nat) (l2:List Int) (A3:Option Addr) (c3:Nat) (l3:List Int) (r1:Int) (r2:Bool) (w:World) (hr0_0:Kd.C (Kd.int .i64) w A0_0 l0_0.length l0_0) (hc0_0:l0_0.length ≤ c0_0) (hr1_1:Kd.C (Kd.slice 3 (Kd.int .i64)) w A1_1 l1_1.length l1_1) (hc1_1:l1_1.length ≤ c1_1) (hr2:Kd.C (Kd.int .i64) w A2 l2.length l2) (hc2:l2.length ≤ c2) (hr3:Kd.C (Kd.int .i64) w A3 l3.length l3) (hc3:l3.length ≤ c3) (h:spec_EvalIn.f k l0_0 a1_0 l1_1 l2 l3 = some (r1,r2)) :
  Calls Try.prog 12 #[.agg #[.slice A0_0 l0_0.length c0_0],.agg #[.int .i64 a1_0,.slice A1_1 l1_1.length c1_1],.slice A2 l2.length c2,.slice A3 l3.length c3] w fun e w'=>e = .returned (.tuple #[.int .i64 r1,.bool r2]) ∧ Below w.heap.size w w':=by
 have hu26:=Try.underlying26
 have hu31:=Try.underlying31
 have HR0_0:=Aside0.mk hr0_0
 have HC0_0:=Aside0.mk hc0_0
 clear hr0_0 hc0_0
 have HR1_1:=Aside0.mk hr1_1
 have HC1_1:=Aside0.mk hc1_1
 clear hr1_1 hc1_1
 have HR2:=Aside0.mk hr2
 have HC2:=Aside0.mk hc2
 clear hr2 hc2
 have HR3:=Aside0.mk hr3
 have HC3:=Aside0.mk hc3
 clear hr3 hc3
 have HB:=Aside0.mk (Below.refl w.heap.size w)
 have H:((spec_GoodWorld.f k l0_0 a1_0 l1_1).bind fun t398=>(if t398 = true then ((spec_l1Term.f k l0_0 l2).bind fun t399=>(if t399 = true then ((spec_l5Env.f k a1_0 l1_1 l3).bind fun t400=>(if t400 = true then ((spec_l5Eval.f k l0_0 a1_0 l1_1 l2 0 l3).bind fun t401=>(some (t401,true))) else (some (0,false)))) else (some (0,false)))) else (some (0,false)))) = some (r1,r2):=h
 clear h
 replace H:=Option.bind_eq_some_iff.mp H
 obtain ⟨t398,A50,H⟩:=H
 replace H:(if t398 = true then ((spec_l1Term.f k l0_0 l2).bind fun t399=>(if t399 = true then ((spec_l5Env.f k a1_0 l1_1 l3).bind fun t400=>(if t400 = true then ((spec_l5Eval.f k l0_0 a1_0 l1_1 l2 0 l3).bind fun t401=>(some (t401,true))) else (some (0,false)))) else (some (0,false)))) else (some (0,false))) = some (r1,r2):=H
 have A5:=Aside0.mk A50
 clear A50
 by_cases c6:t398 = true
 ·subst c6
  have H1:((spec_l1Term.f k l0_0 l2).bind fun t399=>(if t399 = true then ((spec_l5Env.f k a1_0 l1_1 l3).bind fun t400=>(if t400 = true then ((spec_l5Eval.f k l0_0 a1_0 l1_1 l2 0 l3).bind fun t401=>(some (t401,true))) else (some (0,false)))) else (some (0,false)))) = some (r1,r2):=by rw [if_pos rfl] at H;exact H
  clear H
  have H:=H1
  clear H1
  replace H:=Option.bind_eq_some_iff.mp H
  obtain ⟨t399,A70,H⟩:=H
  replace H:(if t399 = true then ((spec_l5Env.f k a1_0 l1_1 l3).bind fun t400=>(if t400 = true then ((spec_l5Eval.f k l0_0 a1_0 l1_1 l2 0 l3).bind fun t401=>(some (t401,true))) else (some (0,false)))) else (some (0,false))) = some (r1,r2):=H
  have A7:=Aside0.mk A70
  clear A70
  by_cases c8:t399 = true
  ·subst c8
   have H1:((spec_l5Env.f k a1_0 l1_1 l3).bind fun t400=>(if t400 = true then ((spec_l5Eval.f k l0_0 a1_0 l1_1 l2 0 l3).bind fun t401=>(some (t401,true))) else (some (0,false)))) = some (r1,r2):=by rw [if_pos rfl] at H;exact H
   clear H
   have H:=H1
   clear H1
   replace H:=Option.bind_eq_some_iff.mp H
   obtain ⟨t400,A90,H⟩:=H
   replace H:(if t400 = true then ((spec_l5Eval.f k l0_0 a1_0 l1_1 l2 0 l3).bind fun t401=>(some (t401,true))) else (some (0,false))) = some (r1,r2):=H
   have A9:=Aside0.mk A90
   clear A90
   by_cases c10:t400 = true
   ·subst c10
    have H1:((spec_l5Eval.f k l0_0 a1_0 l1_1 l2 0 l3).bind fun t401=>(some (t401,true))) = some (r1,r2):=by rw [if_pos rfl] at H;exact H
    clear H
    have H:=H1
    clear H1
    replace H:=Option.bind_eq_some_iff.mp H
    obtain ⟨t401,A110,H⟩:=H
    replace H:(some (t401,true)) = some (r1,r2):=H
    have A11:=Aside0.mk A110
    clear A110
    simp only [Option.some.injEq,Prod.mk.injEq] at H
    obtain ⟨rfl,rfl⟩:=H
    go_enter Try.func12,Try.ntmps12
    go_wp2_with (first|((with_reducible refine gate_dst (N:=4) rfl ?_);refine box_event ?hg (N:=4) ?hd (cs:=#[.slice A0_0 l0_0.length c0_0]) (t:=26) ?hr ?_;(case hd=>rfl);(case hg=>rfl);(case hr=>exact Yd);intro gb396 hg w12 hbox hb;have BK396:=Aside0.mk (hbox);have GW396:=Aside0.mk ((hZ:w.heap.size ≤ gb396));have GE396:=Aside0.mk ((hZ:w.heap.size ≤ gb396));replace HB:=Aside0.mk (below_step bH hb);clear hb hbox hg)|((with_reducible refine gate_dst (N:=5) rfl ?_);refine box_event ?hg (N:=5) ?hd (cs:=#[.int .i64 a1_0,.slice A1_1 l1_1.length c1_1]) (t:=31) ?hr ?_;(case hd=>rfl);(case hg=>rfl);(case hr=>exact Yd);intro gb397 hg w13 hbox hb;have BK397:=Aside0.mk (hbox);have GW397:=Aside0.mk ((hZ:w.heap.size ≤ gb397));have GE397:=Aside0.mk ((hZ:w.heap.size ≤ gb397));replace HB:=Aside0.mk (below_step bH hb);have NB396_397:=Aside0.mk ((nL BK396:gb396 ≠ gb397));have NB397_396:=Aside0.mk ((nG BK396:gb397 ≠ gb396));replace BK396:=Aside0.mk (blk_below (bB BK396) hb);clear hb hbox hg;have hnb14:=NB396_397.out;have hnc14:=NB397_396.out;have hcz15_0:w13.cell? ⟨gb396,0,none⟩ = some (.slice A0_0 l0_0.length c0_0):=(blk_cell BK396.out 0).trans rfl;have hfz15_0:=blk_frozen BK396.out 0;have hcz16_0:w13.cell? ⟨gb397,0,none⟩ = some (.int .i64 a1_0):=(blk_cell BK397.out 0).trans rfl;have hcz16_1:w13.cell? ⟨gb397,1,none⟩ = some (.slice A1_1 l1_1.length c1_1):=(blk_cell BK397.out 1).trans rfl;have hfz16_0:=blk_frozen BK397.out 0;have hfz16_1:=blk_frozen BK397.out 1)|((with_reducible refine gate_callee (f:=17) rfl ?_);refine goesL_ (some 12) rfl rfl Try.func17 (by kernel_rfl) rfl #[.agg #[.slice A0_0 l0_0.length c0_0],.agg #[.int .i64 a1_0,.slice A1_1 l1_1.length c1_1]] rfl Ya ?_;(with_reducible refine (spec_GoodWorld.calls k _ _ l0_0 a1_0 _ _ l1_1 true _ ?side1 ?side2 ?side3 ?side4 A5.out).mono ?_);(case side1=>exact Yv);(case side2=>exact Yu);(case side3=>exact YN);(case side4=>exact YK);rintro e w17 ⟨rfl,hb⟩;refine ⟨_,rfl,?_⟩;replace BK396:=Aside0.mk (blk_below (bB BK396) hb);replace BK397:=Aside0.mk (blk_below (bB BK397) hb);replace HB:=Aside0.mk (below_step bH hb);(try clear hb);(try clear hb2);(try clear hk);(try clear hi);have hcz18_0:w17.cell? ⟨gb396,0,none⟩ = some (.slice A0_0 l0_0.length c0_0):=(blk_cell BK396.out 0).trans rfl;have hfz18_0:=blk_frozen BK396.out 0)|(go_at_call 46;(with_reducible refine (spec_l1Term.calls k _ _ l0_0 _ _ l2 true _ ?side1 ?side2 ?side3 ?side4 A7.out).mono ?_);(case side1=>exact Yv);(case side2=>exact Yu);(case side3=>exact sC HR2);(case side4=>exact HC2.out);rintro e w19 ⟨rfl,hb⟩;replace BK396:=Aside0.mk (blk_below (bB BK396) hb);replace BK397:=Aside0.mk (blk_below (bB BK397) hb);replace HB:=Aside0.mk (below_step bH hb);(try clear hb);(try clear hb2);(try clear hk);(try clear hi);have hcz20_0:w19.cell? ⟨gb397,0,none⟩ = some (.int .i64 a1_0):=(blk_cell BK397.out 0).trans rfl;have hcz20_1:w19.cell? ⟨gb397,1,none⟩ = some (.slice A1_1 l1_1.length c1_1):=(blk_cell BK397.out 1).trans rfl;have hfz20_0:=blk_frozen BK397.out 0;have hfz20_1:=blk_frozen BK397.out 1)|(go_at_call 47;(with_reducible refine (spec_l5Env.calls k a1_0 _ _ l1_1 _ _ l3 true _ ?side1 ?side2 ?side3 ?side4 A9.out).mono ?_);(case side1=>exact YN);(case side2=>exact YK);(case side3=>exact sC HR3);(case side4=>exact HC3.out);rintro e w21 ⟨rfl,hb⟩;replace BK396:=Aside0.mk (blk_below (bB BK396) hb);replace BK397:=Aside0.mk (blk_below (bB BK397) hb);replace HB:=Aside0.mk (below_step bH hb);(try clear hb);(try clear hb2);(try clear hk);(try clear hi);have hcz22_0:w21.cell? ⟨gb396,0,none⟩ = some (.slice A0_0 l0_0.length c0_0):=(blk_cell BK396.out 0).trans rfl;have hfz22_0:=blk_frozen BK396.out 0;have hcz23_0:w21.cell? ⟨gb397,0,none⟩ = some (.int .i64 a1_0):=(blk_cell BK397.out 0).trans rfl;have hcz23_1:w21.cell? ⟨gb397,1,none⟩ = some (.slice A1_1 l1_1.length c1_1):=(blk_cell BK397.out 1).trans rfl;have hfz23_0:=blk_frozen BK397.out 0;have hfz23_1:=blk_frozen BK397.out 1)|((with_reducible refine gate_callee (f:=48) rfl ?_);refine goesL_ (some 30) rfl rfl Try.func48 (by kernel_rfl) rfl #[.agg #[.slice A0_0 l0_0.length c0_0],.agg #[.int .i64 a1_0,.slice A1_1 l1_1.length c1_1],.slice A2 l2.length c2,.int .i64 0,.slice A3 l3.length c3] rfl Ya ?_;(with_reducible refine (spec_l5Eval.calls k _ _ l0_0 a1_0 _ _ l1_1 _ _ l2 0 _ _ l3 t401 _ ?side1 ?side2 ?side3 ?side4 ?side5 ?side6 ?side7 ?side8 A11.out).mono ?_);(case side1=>exact Yv);(case side2=>exact Yu);(case side3=>exact YN);(case side4=>exact YK);(case side5=>exact sC HR2);(case side6=>exact HC2.out);(case side7=>exact sC HR3);(case side8=>exact HC3.out);rintro e w24 ⟨rfl,hb⟩;refine ⟨_,rfl,?_⟩;replace BK396:=Aside0.mk (blk_below (bB BK396) hb);replace BK397:=Aside0.mk (blk_below (bB BK397) hb);replace HB:=Aside0.mk (below_step bH hb);(try clear hb);(try clear hb2);(try clear hk);(try clear hi)))
    go_ret2
    exact ⟨Yb,bH⟩
   ·replace c10:=Bool.eq_false_iff.mpr c10
    subst c10
    have H1:(some (0,false)) = some (r1,r2):=by rw [if_neg (show ¬ (false = true) by decide)] at H;exact H
    clear H
    have H:=H1
    clear H1
    simp only [Option.some.injEq,Prod.mk.injEq] at H
    obtain ⟨rfl,rfl⟩:=H
    go_enter Try.func12,Try.ntmps12
    go_wp2_with (first|((with_reducible refine gate_dst (N:=4) rfl ?_);refine box_event ?hg (N:=4) ?hd (cs:=#[.slice A0_0 l0_0.length c0_0]) (t:=26) ?hr ?_;(case hd=>rfl);(case hg=>rfl);(case hr=>exact Yd);intro gb396 hg w25 hbox hb;have BK396:=Aside0.mk (hbox);have GW396:=Aside0.mk ((hZ:w.heap.size ≤ gb396));have GE396:=Aside0.mk ((hZ:w.heap.size ≤ gb396));replace HB:=Aside0.mk (below_step bH hb);clear hb hbox hg)|((with_reducible refine gate_dst (N:=5) rfl ?_);refine box_event ?hg (N:=5) ?hd (cs:=#[.int .i64 a1_0,.slice A1_1 l1_1.length c1_1]) (t:=31) ?hr ?_;(case hd=>rfl);(case hg=>rfl);(case hr=>exact Yd);intro gb397 hg w26 hbox hb;have BK397:=Aside0.mk (hbox);have GW397:=Aside0.mk ((hZ:w.heap.size ≤ gb397));have GE397:=Aside0.mk ((hZ:w.heap.size ≤ gb397));replace HB:=Aside0.mk (below_step bH hb);have NB396_397:=Aside0.mk ((nL BK396:gb396 ≠ gb397));have NB397_396:=Aside0.mk ((nG BK396:gb397 ≠ gb396));replace BK396:=Aside0.mk (blk_below (bB BK396) hb);clear hb hbox hg;have hnb27:=NB396_397.out;have hnc27:=NB397_396.out;have hcz28_0:w26.cell? ⟨gb396,0,none⟩ = some (.slice A0_0 l0_0.length c0_0):=(blk_cell BK396.out 0).trans rfl;have hfz28_0:=blk_frozen BK396.out 0;have hcz29_0:w26.cell? ⟨gb397,0,none⟩ = some (.int .i64 a1_0):=(blk_cell BK397.out 0).trans rfl;have hcz29_1:w26.cell? ⟨gb397,1,none⟩ = some (.slice A1_1 l1_1.length c1_1):=(blk_cell BK397.out 1).trans rfl;have hfz29_0:=blk_frozen BK397.out 0;have hfz29_1:=blk_frozen BK397.out 1)|((with_reducible refine gate_callee (f:=17) rfl ?_);refine goesL_ (some 12) rfl rfl Try.func17 (by kernel_rfl) rfl #[.agg #[.slice A0_0 l0_0.length c0_0],.agg #[.int .i64 a1_0,.slice A1_1 l1_1.length c1_1]] rfl Ya ?_;(with_reducible refine (spec_GoodWorld.calls k _ _ l0_0 a1_0 _ _ l1_1 true _ ?side1 ?side2 ?side3 ?side4 A5.out).mono ?_);(case side1=>exact Yv);(case side2=>exact Yu);(case side3=>exact YN);(case side4=>exact YK);rintro e w30 ⟨rfl,hb⟩;refine ⟨_,rfl,?_⟩;replace BK396:=Aside0.mk (blk_below (bB BK396) hb);replace BK397:=Aside0.mk (blk_below (bB BK397) hb);replace HB:=Aside0.mk (below_step bH hb);(try clear hb);(try clear hb2);(try clear hk);(try clear hi);have hcz31_0:w30.cell? ⟨gb396,0,none⟩ = some (.slice A0_0 l0_0.length c0_0):=(blk_cell BK396.out 0).trans rfl;have hfz31_0:=blk_frozen BK396.out 0)|(go_at_call 46;(with_reducible refine (spec_l1Term.calls k _ _ l0_0 _ _ l2 true _ ?side1 ?side2 ?side3 ?side4 A7.out).mono ?_);(case side1=>exact Yv);(case side2=>exact Yu);(case side3=>exact sC HR2);(case side4=>exact HC2.out);rintro e w32 ⟨rfl,hb⟩;replace BK396:=Aside0.mk (blk_below (bB BK396) hb);replace BK397:=Aside0.mk (blk_below (bB BK397) hb);replace HB:=Aside0.mk (below_step bH hb);(try clear hb);(try clear hb2);(try clear hk);(try clear hi);have hcz33_0:w32.cell? ⟨gb397,0,none⟩ = some (.int .i64 a1_0):=(blk_cell BK397.out 0).trans rfl;have hcz33_1:w32.cell? ⟨gb397,1,none⟩ = some (.slice A1_1 l1_1.length c1_1):=(blk_cell BK397.out 1).trans rfl;have hfz33_0:=blk_frozen BK397.out 0;have hfz33_1:=blk_frozen BK397.out 1)|(go_at_call 47;(with_reducible refine (spec_l5Env.calls k a1_0 _ _ l1_1 _ _ l3 false _ ?side1 ?side2 ?side3 ?side4 A9.out).mono ?_);(case side1=>exact YN);(case side2=>exact YK);(case side3=>exact sC HR3);(case side4=>exact HC3.out);rintro e w34 ⟨rfl,hb⟩;replace BK396:=Aside0.mk (blk_below (bB BK396) hb);replace BK397:=Aside0.mk (blk_below (bB BK397) hb);replace HB:=Aside0.mk (below_step bH hb);(try clear hb);(try clear hb2);(try clear hk);(try clear hi)))
    go_ret2
    exact ⟨Yb,bH⟩
  ·replace c8:=Bool.eq_false_iff.mpr c8
   subst c8
   have H1:(some (0,false)) = some (r1,r2):=by rw [if_neg (show ¬ (false = true) by decide)] at H;exact H
   clear H
   have H:=H1
   clear H1
   simp only [Option.some.injEq,Prod.mk.injEq] at H
   obtain ⟨rfl,rfl⟩:=H
   go_enter Try.func12,Try.ntmps12
   go_wp2_with (first|((with_reducible refine gate_dst (N:=4) rfl ?_);refine box_event ?hg (N:=4) ?hd (cs:=#[.slice A0_0 l0_0.length c0_0]) (t:=26) ?hr ?_;(case hd=>rfl);(case hg=>rfl);(case hr=>exact Yd);intro gb396 hg w35 hbox hb;have BK396:=Aside0.mk (hbox);have GW396:=Aside0.mk ((hZ:w.heap.size ≤ gb396));have GE396:=Aside0.mk ((hZ:w.heap.size ≤ gb396));replace HB:=Aside0.mk (below_step bH hb);clear hb hbox hg)|((with_reducible refine gate_dst (N:=5) rfl ?_);refine box_event ?hg (N:=5) ?hd (cs:=#[.int .i64 a1_0,.slice A1_1 l1_1.length c1_1]) (t:=31) ?hr ?_;(case hd=>rfl);(case hg=>rfl);(case hr=>exact Yd);intro gb397 hg w36 hbox hb;have BK397:=Aside0.mk (hbox);have GW397:=Aside0.mk ((hZ:w.heap.size ≤ gb397));have GE397:=Aside0.mk ((hZ:w.heap.size ≤ gb397));replace HB:=Aside0.mk (below_step bH hb);have NB396_397:=Aside0.mk ((nL BK396:gb396 ≠ gb397));have NB397_396:=Aside0.mk ((nG BK396:gb397 ≠ gb396));replace BK396:=Aside0.mk (blk_below (bB BK396) hb);clear hb hbox hg;have hnb37:=NB396_397.out;have hnc37:=NB397_396.out;have hcz38_0:w36.cell? ⟨gb396,0,none⟩ = some (.slice A0_0 l0_0.length c0_0):=(blk_cell BK396.out 0).trans rfl;have hfz38_0:=blk_frozen BK396.out 0;have hcz39_0:w36.cell? ⟨gb397,0,none⟩ = some (.int .i64 a1_0):=(blk_cell BK397.out 0).trans rfl;have hcz39_1:w36.cell? ⟨gb397,1,none⟩ = some (.slice A1_1 l1_1.length c1_1):=(blk_cell BK397.out 1).trans rfl;have hfz39_0:=blk_frozen BK397.out 0;have hfz39_1:=blk_frozen BK397.out 1)|((with_reducible refine gate_callee (f:=17) rfl ?_);refine goesL_ (some 12) rfl rfl Try.func17 (by kernel_rfl) rfl #[.agg #[.slice A0_0 l0_0.length c0_0],.agg #[.int .i64 a1_0,.slice A1_1 l1_1.length c1_1]] rfl Ya ?_;(with_reducible refine (spec_GoodWorld.calls k _ _ l0_0 a1_0 _ _ l1_1 true _ ?side1 ?side2 ?side3 ?side4 A5.out).mono ?_);(case side1=>exact Yv);(case side2=>exact Yu);(case side3=>exact YN);(case side4=>exact YK);rintro e w40 ⟨rfl,hb⟩;refine ⟨_,rfl,?_⟩;replace BK396:=Aside0.mk (blk_below (bB BK396) hb);replace BK397:=Aside0.mk (blk_below (bB BK397) hb);replace HB:=Aside0.mk (below_step bH hb);(try clear hb);(try clear hb2);(try clear hk);(try clear hi);have hcz41_0:w40.cell? ⟨gb396,0,none⟩ = some (.slice A0_0 l0_0.length c0_0):=(blk_cell BK396.out 0).trans rfl;have hfz41_0:=blk_frozen BK396.out 0)|(go_at_call 46;(with_reducible refine (spec_l1Term.calls k _ _ l0_0 _ _ l2 false _ ?side1 ?side2 ?side3 ?side4 A7.out).mono ?_);(case side1=>exact Yv);(case side2=>exact Yu);(case side3=>exact sC HR2);(case side4=>exact HC2.out);rintro e w42 ⟨rfl,hb⟩;replace BK396:=Aside0.mk (blk_below (bB BK396) hb);replace BK397:=Aside0.mk (blk_below (bB BK397) hb);replace HB:=Aside0.mk (below_step bH hb);(try clear hb);(try clear hb2);(try clear hk);(try clear hi)))
   go_ret2
   exact ⟨Yb,bH⟩
 ·replace c6:=Bool.eq_false_iff.mpr c6
  subst c6
  have H1:(some (0,false)) = some (r1,r2):=by rw [if_neg (show ¬ (false = true) by decide)] at H;exact H
  clear H
  have H:=H1
  clear H1
  simp only [Option.some.injEq,Prod.mk.injEq] at H
  obtain ⟨rfl,rfl⟩:=H
  go_enter Try.func12,Try.ntmps12
  go_wp2_with (first|((with_reducible refine gate_dst (N:=4) rfl ?_);refine box_event ?hg (N:=4) ?hd (cs:=#[.slice A0_0 l0_0.length c0_0]) (t:=26) ?hr ?_;(case hd=>rfl);(case hg=>rfl);(case hr=>exact Yd);intro gb396 hg w43 hbox hb;have BK396:=Aside0.mk (hbox);have GW396:=Aside0.mk ((hZ:w.heap.size ≤ gb396));have GE396:=Aside0.mk ((hZ:w.heap.size ≤ gb396));replace HB:=Aside0.mk (below_step bH hb);clear hb hbox hg)|((with_reducible refine gate_dst (N:=5) rfl ?_);refine box_event ?hg (N:=5) ?hd (cs:=#[.int .i64 a1_0,.slice A1_1 l1_1.length c1_1]) (t:=31) ?hr ?_;(case hd=>rfl);(case hg=>rfl);(case hr=>exact Yd);intro gb397 hg w44 hbox hb;have BK397:=Aside0.mk (hbox);have GW397:=Aside0.mk ((hZ:w.heap.size ≤ gb397));have GE397:=Aside0.mk ((hZ:w.heap.size ≤ gb397));replace HB:=Aside0.mk (below_step bH hb);have NB396_397:=Aside0.mk ((nL BK396:gb396 ≠ gb397));have NB397_396:=Aside0.mk ((nG BK396:gb397 ≠ gb396));replace BK396:=Aside0.mk (blk_below (bB BK396) hb);clear hb hbox hg;have hnb45:=NB396_397.out;have hnc45:=NB397_396.out;have hcz46_0:w44.cell? ⟨gb396,0,none⟩ = some (.slice A0_0 l0_0.length c0_0):=(blk_cell BK396.out 0).trans rfl;have hfz46_0:=blk_frozen BK396.out 0;have hcz47_0:w44.cell? ⟨gb397,0,none⟩ = some (.int .i64 a1_0):=(blk_cell BK397.out 0).trans rfl;have hcz47_1:w44.cell? ⟨gb397,1,none⟩ = some (.slice A1_1 l1_1.length c1_1):=(blk_cell BK397.out 1).trans rfl;have hfz47_0:=blk_frozen BK397.out 0;have hfz47_1:=blk_frozen BK397.out 1)|((with_reducible refine gate_callee (f:=17) rfl ?_);refine goesL_ (some 12) rfl rfl Try.func17 (by kernel_rfl) rfl #[.agg #[.slice A0_0 l0_0.length c0_0],.agg #[.int .i64 a1_0,.slice A1_1 l1_1.length c1_1]] rfl Ya ?_;(with_reducible refine (spec_GoodWorld.calls k _ _ l0_0 a1_0 _ _ l1_1 false _ ?side1 ?side2 ?side3 ?side4 A5.out).mono ?_);(case side1=>exact Yv);(case side2=>exact Yu);(case side3=>exact YN);(case side4=>exact YK);rintro e w48 ⟨rfl,hb⟩;refine ⟨_,rfl,?_⟩;replace BK396:=Aside0.mk (blk_below (bB BK396) hb);replace BK397:=Aside0.mk (blk_below (bB BK397) hb);replace HB:=Aside0.mk (below_step bH hb);(try clear hb);(try clear hb2);(try clear hk);(try clear hi)))
  go_ret2
  exact ⟨Yb,bH⟩

end Go.Proofs.Ytmgkflkfoccgkaa.QFnPutFor
