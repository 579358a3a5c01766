-- Written by this session's own program (wip/x/xprint.py, over the kit's printer); Lean checks it.
import Derived.Test.YtmgkflkfoccgkaaQFnPutForx0
import Derived.Test.YtmgkflkfoccgkaaQFnPutForx1
import Derived.Test.YtmgkflkfoccgkaaQFnPutForx5
import Derived.Test.YtmgkflkfoccgkaaQFnPutForx6
import Derived.Test.YtmgkflkfoccgkaaQFnPutForx7
import Derived.Test.YtmgkflkfoccgkaaQFnPutForx8
namespace Go.Proofs.Ytmgkflkfoccgkaa.QFnPutFor
open Go.RowKit Go.Proofs.YtmgkflkfoccgkaaW.PrintWords Go.Proofs.YtmgkflkfoccgkaaW.PrintLast Go.Proofs.YtmgkflkfoccgkaaW.PrintMore
attribute [local go_sem] max2_int min2_int max_two min_two max_three min_three max_four min_four   -- for this text's walks alone
set_option linter.unusedVariables false
set_option linter.unusedSimpArgs false

/-! ### impl_GoodWorld: function 16 -/
def impl_GoodWorld.f (k:Nat) (l0_0:List Int) (a1_0:Int) (l1_1:List (List Int)):Option (Bool):=(impl_GoodSign.f l0_0).bind fun t266=>(if t266 = true then ((impl_Sign_isWorld.f k l0_0 a1_0 l1_1).bind fun t267=>(some t267)) else (some false))
theorem impl_GoodWorld.mono:∀ a0 a1 a2 k,LeO (impl_GoodWorld.f k a0 a1 a2) (impl_GoodWorld.f (k + 1) a0 a1 a2):=by
 intro a0 a1 a2 k
 unfold impl_GoodWorld.f
 have m0:=@impl_Sign_isWorld.mono
 exact mO
set_option maxHeartbeats 8000000 in
set_option maxRecDepth 100000 in
theorem impl_GoodWorld.calls (k:Nat) (A0_0:Option Addr) (c0_0:Nat) (l0_0:List Int) (a1_0:Int) (A1_1:Option Addr) (c1_1:Nat) (l1_1:List (List Int)) (r:Bool) (w:World) (hr0_0:Kd.C (Kd.int .i64) w A0_0 l0_0.length l0_0) (hc0_0:l0_0.length ≤ c0_0) (hr1_1:Kd.C (Kd.slice 3 (Kd.int .i64)) w A1_1 l1_1.length l1_1) (hc1_1:l1_1.length ≤ c1_1) (h:impl_GoodWorld.f k l0_0 a1_0 l1_1 = some r) :
  Calls Try.prog 16 #[.agg #[.slice A0_0 l0_0.length c0_0],.agg #[.int .i64 a1_0,.slice A1_1 l1_1.length c1_1]] w fun e w'=>e = .returned (.bool r) ∧ Below w.heap.size w w':=by
 have hu26:=Try.underlying26
 have hu31:=Try.underlying31
 have HR0_0:=Aside0.mk hr0_0
 have HC0_0:=Aside0.mk hc0_0
 clear hr0_0 hc0_0
 have HR1_1:=Aside0.mk hr1_1
 have HC1_1:=Aside0.mk hc1_1
 clear hr1_1 hc1_1
 have HB:=Aside0.mk (Below.refl w.heap.size w)
 have H:((impl_GoodSign.f l0_0).bind fun t266=>(if t266 = true then ((impl_Sign_isWorld.f k l0_0 a1_0 l1_1).bind fun t267=>(some t267)) else (some false))) = some r:=h
 clear h
 replace H:=Option.bind_eq_some_iff.mp H
 obtain ⟨t266,A30,H⟩:=H
 replace H:(if t266 = true then ((impl_Sign_isWorld.f k l0_0 a1_0 l1_1).bind fun t267=>(some t267)) else (some false)) = some r:=H
 have A3:=Aside0.mk A30
 clear A30
 by_cases c4:t266 = true
 ·subst c4
  have H1:((impl_Sign_isWorld.f k l0_0 a1_0 l1_1).bind fun t267=>(some t267)) = some r:=by rw [if_pos rfl] at H;exact H
  clear H
  have H:=H1
  clear H1
  replace H:=Option.bind_eq_some_iff.mp H
  obtain ⟨t267,A50,H⟩:=H
  replace H:(some t267) = some r:=H
  have A5:=Aside0.mk A50
  clear A50
  obtain rfl:=Option.some.inj H
  go_enter Try.func16,Try.ntmps16
  go_wp2_with (first|((with_reducible refine gate_dst (N:=2) rfl ?_);refine box_event ?hg (N:=2) ?hd (cs:=#[.slice A0_0 l0_0.length c0_0]) (t:=26) ?hr ?_;(case hd=>rfl);(case hg=>rfl);(case hr=>exact Yd);intro gb264 hg w6 hbox hb;have BK264:=Aside0.mk (hbox);have GW264:=Aside0.mk ((hZ:w.heap.size ≤ gb264));have GE264:=Aside0.mk ((hZ:w.heap.size ≤ gb264));replace HB:=Aside0.mk (below_step bH hb);clear hb hbox hg)|((with_reducible refine gate_dst (N:=3) rfl ?_);refine box_event ?hg (N:=3) ?hd (cs:=#[.int .i64 a1_0,.slice A1_1 l1_1.length c1_1]) (t:=31) ?hr ?_;(case hd=>rfl);(case hg=>rfl);(case hr=>exact Yd);intro gb265 hg w7 hbox hb;have BK265:=Aside0.mk (hbox);have GW265:=Aside0.mk ((hZ:w.heap.size ≤ gb265));have GE265:=Aside0.mk ((hZ:w.heap.size ≤ gb265));replace HB:=Aside0.mk (below_step bH hb);have NB264_265:=Aside0.mk ((nL BK264:gb264 ≠ gb265));have NB265_264:=Aside0.mk ((nG BK264:gb265 ≠ gb264));replace BK264:=Aside0.mk (blk_below (bB BK264) hb);clear hb hbox hg;have hnb8:=NB264_265.out;have hnc8:=NB265_264.out;have hcz9_0:w7.cell? ⟨gb264,0,none⟩ = some (.slice A0_0 l0_0.length c0_0):=(blk_cell BK264.out 0).trans rfl;have hfz9_0:=blk_frozen BK264.out 0)|((with_reducible refine gate_callee (f:=54) rfl ?_);refine goesL_ (some 6) rfl rfl Try.func54 (by kernel_rfl) rfl #[.agg #[.slice A0_0 l0_0.length c0_0]] rfl Ya ?_;(with_reducible refine (impl_GoodSign.calls _ _ l0_0 true _ ?side1 ?side2 A3.out).mono ?_);(case side1=>exact Yv);(case side2=>exact Yu);rintro e w10 ⟨rfl,hb⟩;refine ⟨_,rfl,?_⟩;replace BK264:=Aside0.mk (blk_below (bB BK264) hb);replace BK265:=Aside0.mk (blk_below (bB BK265) hb);replace HB:=Aside0.mk (below_step bH hb);(try clear hb);(try clear hb2);(try clear hk);(try clear hi);have hcz11_0:w10.cell? ⟨gb264,0,none⟩ = some (.slice A0_0 l0_0.length c0_0):=(blk_cell BK264.out 0).trans rfl;have hfz11_0:=blk_frozen BK264.out 0;have hcz12_0:w10.cell? ⟨gb265,0,none⟩ = some (.int .i64 a1_0):=(blk_cell BK265.out 0).trans rfl;have hcz12_1:w10.cell? ⟨gb265,1,none⟩ = some (.slice A1_1 l1_1.length c1_1):=(blk_cell BK265.out 1).trans rfl;have hfz12_0:=blk_frozen BK265.out 0;have hfz12_1:=blk_frozen BK265.out 1)|(go_at_call 55;(with_reducible refine (impl_Sign_isWorld.calls k _ _ l0_0 a1_0 _ _ l1_1 t267 _ ?side1 ?side2 ?side3 ?side4 A5.out).mono ?_);(case side1=>exact Yv);(case side2=>exact Yu);(case side3=>exact YN);(case side4=>exact YK);rintro e w13 ⟨rfl,hb⟩;replace BK264:=Aside0.mk (blk_below (bB BK264) hb);replace BK265:=Aside0.mk (blk_below (bB BK265) hb);replace HB:=Aside0.mk (below_step bH hb);(try clear hb);(try clear hb2);(try clear hk);(try clear hi)))
  go_ret
  exact ⟨Yb,bH⟩
 ·replace c4:=Bool.eq_false_iff.mpr c4
  subst c4
  have H1:(some false) = some r:=by rw [if_neg (show ¬ (false = true) by decide)] at H;exact H
  clear H
  have H:=H1
  clear H1
  obtain rfl:=Option.some.inj H
  go_enter Try.func16,Try.ntmps16
  go_wp2_with (first|((with_reducible refine gate_dst (N:=2) rfl ?_);refine box_event ?hg (N:=2) ?hd (cs:=#[.slice A0_0 l0_0.length c0_0]) (t:=26) ?hr ?_;(case hd=>rfl);(case hg=>rfl);(case hr=>exact Yd);intro gb264 hg w14 hbox hb;have BK264:=Aside0.mk (hbox);have GW264:=Aside0.mk ((hZ:w.heap.size ≤ gb264));have GE264:=Aside0.mk ((hZ:w.heap.size ≤ gb264));replace HB:=Aside0.mk (below_step bH hb);clear hb hbox hg)|((with_reducible refine gate_dst (N:=3) rfl ?_);refine box_event ?hg (N:=3) ?hd (cs:=#[.int .i64 a1_0,.slice A1_1 l1_1.length c1_1]) (t:=31) ?hr ?_;(case hd=>rfl);(case hg=>rfl);(case hr=>exact Yd);intro gb265 hg w15 hbox hb;have BK265:=Aside0.mk (hbox);have GW265:=Aside0.mk ((hZ:w.heap.size ≤ gb265));have GE265:=Aside0.mk ((hZ:w.heap.size ≤ gb265));replace HB:=Aside0.mk (below_step bH hb);have NB264_265:=Aside0.mk ((nL BK264:gb264 ≠ gb265));have NB265_264:=Aside0.mk ((nG BK264:gb265 ≠ gb264));replace BK264:=Aside0.mk (blk_below (bB BK264) hb);clear hb hbox hg;have hnb16:=NB264_265.out;have hnc16:=NB265_264.out;have hcz17_0:w15.cell? ⟨gb264,0,none⟩ = some (.slice A0_0 l0_0.length c0_0):=(blk_cell BK264.out 0).trans rfl;have hfz17_0:=blk_frozen BK264.out 0)|((with_reducible refine gate_callee (f:=54) rfl ?_);refine goesL_ (some 6) rfl rfl Try.func54 (by kernel_rfl) rfl #[.agg #[.slice A0_0 l0_0.length c0_0]] rfl Ya ?_;(with_reducible refine (impl_GoodSign.calls _ _ l0_0 false _ ?side1 ?side2 A3.out).mono ?_);(case side1=>exact Yv);(case side2=>exact Yu);rintro e w18 ⟨rfl,hb⟩;refine ⟨_,rfl,?_⟩;replace BK264:=Aside0.mk (blk_below (bB BK264) hb);replace BK265:=Aside0.mk (blk_below (bB BK265) hb);replace HB:=Aside0.mk (below_step bH hb);(try clear hb);(try clear hb2);(try clear hk);(try clear hi)))
  go_ret
  exact ⟨Yb,bH⟩

/-! ### impl_World_isEnv: function 42 -/
def impl_World_isEnv.f (a0_0:Int) (l0_1:List (List Int)) (l1:List Int):Option (Bool):=if (l1.length:Int) = 12 then ((impl_areElements.f a0_0 l1).bind fun t269=>(some t269)) else (some false)
set_option maxHeartbeats 8000000 in
set_option maxRecDepth 100000 in
theorem impl_World_isEnv.calls (a0_0:Int) (A0_1:Option Addr) (c0_1:Nat) (l0_1:List (List Int)) (A1:Option Addr) (c1:Nat) (l1:List Int) (r:Bool) (w:World) (hr0_1:Kd.C (Kd.slice 3 (Kd.int .i64)) w A0_1 l0_1.length l0_1) (hc0_1:l0_1.length ≤ c0_1) (hr1:Kd.C (Kd.int .i64) w A1 l1.length l1) (hc1:l1.length ≤ c1) (h:impl_World_isEnv.f a0_0 l0_1 l1 = some r) :
  Calls Try.prog 42 #[.agg #[.int .i64 a0_0,.slice A0_1 l0_1.length c0_1],.slice A1 l1.length c1] w fun e w'=>e = .returned (.bool r) ∧ Below w.heap.size w w':=by
 have hu31:=Try.underlying31
 have HR0_1:=Aside0.mk hr0_1
 have HC0_1:=Aside0.mk hc0_1
 clear hr0_1 hc0_1
 have HR1:=Aside0.mk hr1
 have HC1:=Aside0.mk hc1
 clear hr1 hc1
 have HB:=Aside0.mk (Below.refl w.heap.size w)
 have H:(if (l1.length:Int) = 12 then ((impl_areElements.f a0_0 l1).bind fun t269=>(some t269)) else (some false)) = some r:=h
 clear h
 by_cases c3:(l1.length:Int) = 12
 ·rw [if_pos c3] at H
  have c3b0:((l1.length:Int) == 12) = true:=beq_iff_eq.mpr c3
  have c3b1:((l1.length:Int) != 12) = false:=bne_eq_false_iff_eq.mpr c3
  clear c3
  replace H:=Option.bind_eq_some_iff.mp H
  obtain ⟨t269,A40,H⟩:=H
  replace H:(some t269) = some r:=H
  have A4:=Aside0.mk A40
  clear A40
  obtain rfl:=Option.some.inj H
  go_enter Try.func42,Try.ntmps42
  go_wp2_with (first|((with_reducible refine gate_dst (N:=2) rfl ?_);refine box_event ?hg (N:=2) ?hd (cs:=#[.int .i64 a0_0,.slice A0_1 l0_1.length c0_1]) (t:=31) ?hr ?_;(case hd=>rfl);(case hg=>rfl);(case hr=>exact Yd);intro gb268 hg w5 hbox hb;have BK268:=Aside0.mk (hbox);have GW268:=Aside0.mk ((hZ:w.heap.size ≤ gb268));have GE268:=Aside0.mk ((hZ:w.heap.size ≤ gb268));replace HB:=Aside0.mk (below_step bH hb);clear hb hbox hg;have hcz6_0:w5.cell? ⟨gb268,0,none⟩ = some (.int .i64 a0_0):=(blk_cell BK268.out 0).trans rfl;have hcz6_1:w5.cell? ⟨gb268,1,none⟩ = some (.slice A0_1 l0_1.length c0_1):=(blk_cell BK268.out 1).trans rfl;have hfz6_0:=blk_frozen BK268.out 0;have hfz6_1:=blk_frozen BK268.out 1)|(go_at_call 79;(with_reducible refine (impl_areElements.calls a0_0 _ _ l1 t269 _ ?side1 ?side2 A4.out).mono ?_);(case side1=>exact sC HR1);(case side2=>exact HC1.out);rintro e w7 ⟨rfl,hb⟩;replace BK268:=Aside0.mk (blk_below (bB BK268) hb);replace HB:=Aside0.mk (below_step bH hb);(try clear hb);(try clear hb2);(try clear hk);(try clear hi)))
  go_ret
  exact ⟨Yb,bH⟩
 ·rw [if_neg c3] at H
  have c3b0:((l1.length:Int) == 12) = false:=beq_eq_false_iff_ne.mpr c3
  have c3b1:((l1.length:Int) != 12) = true:=bne_iff_ne.mpr c3
  obtain rfl:=Option.some.inj H
  go_enter Try.func42,Try.ntmps42
  go_wp2_with (first|((with_reducible refine gate_dst (N:=2) rfl ?_);refine box_event ?hg (N:=2) ?hd (cs:=#[.int .i64 a0_0,.slice A0_1 l0_1.length c0_1]) (t:=31) ?hr ?_;(case hd=>rfl);(case hg=>rfl);(case hr=>exact Yd);intro gb268 hg w8 hbox hb;have BK268:=Aside0.mk (hbox);have GW268:=Aside0.mk ((hZ:w.heap.size ≤ gb268));have GE268:=Aside0.mk ((hZ:w.heap.size ≤ gb268));replace HB:=Aside0.mk (below_step bH hb);clear hb hbox hg))
  go_ret
  exact ⟨Yb,bH⟩

/-! ### impl_Sign_eval: function 80 -/
mutual
def impl_Sign_eval.l0:Nat → List Int → List Int → Int → Int → Int → Int → Int → List Int → Int → List (List Int) → Option (Int × Int)
 | 0,_,_,_,_,_,_,_,_,_,_=>none
 | k + 1,x2,x4,x12,x13,x14,x33,x34,x271000,x272000,x272001=>if x34 < x33 then ((impl_Sign_eval.f k x271000 x272000 x272001 x2 x14 x4).bind fun bt275=>(impl_Sign_eval.l0 k x2 x4 x12 (wrap64 ((wrap64 (x13 * x272000)) + bt275.1)) bt275.2 x33 (wrap64 (x34 + 1)) x271000 x272000 x272001)) else (if 0 ≤ x12 then (if x12 < (x272001.length:Int) then (if 0 ≤ x13 then (if x13 < ((rd_L2 x272001 x12).length:Int) then (some (rd (rd_L2 x272001 x12) x13,x14)) else (none)) else (none)) else (none)) else (none))
def impl_Sign_eval.f:Nat → List Int → Int → List (List Int) → List Int → Int → List Int → Option (Int × Int)
 | 0,_,_,_,_,_,_=>none
 | k + 1,l0_0,a1_0,l1_1,l2,a3,l4=>if 0 ≤ a3 then (if a3 < (l2.length:Int) then (if (rd l2 a3) < 0 then (if 0 ≤ (wrap64 ((-1) - (rd l2 a3))) then (if (wrap64 ((-1) - (rd l2 a3))) < (l4.length:Int) then (some (rd l4 (wrap64 ((-1) - (rd l2 a3))),wrap64 (a3 + 1))) else (none)) else (none)) else ((impl_Sign_args.f l0_0 (rd l2 a3)).bind fun t274=>(impl_Sign_eval.l0 k l2 l4 (rd l2 a3) 0 (wrap64 (a3 + 1)) t274 0 l0_0 a1_0 l1_1))) else (none)) else (none)
end
theorem impl_Sign_eval.mono_l:∀ k,(∀ y0 y1 y2 y3 y4 y5,LeO (impl_Sign_eval.f k y0 y1 y2 y3 y4 y5) (impl_Sign_eval.f (k + 1) y0 y1 y2 y3 y4 y5)) ∧ (∀ y0 y1 y2 y3 y4 y5 y6 y7 y8 y9,LeO (impl_Sign_eval.l0 k y0 y1 y2 y3 y4 y5 y6 y7 y8 y9) (impl_Sign_eval.l0 (k + 1) y0 y1 y2 y3 y4 y5 y6 y7 y8 y9))
 | 0=>⟨fun _ _ _ _ _ _ r h=>by simp [impl_Sign_eval.f] at h,fun _ _ _ _ _ _ _ _ _ _ r h=>by simp [impl_Sign_eval.l0] at h⟩
 | k + 1=>by
  obtain ⟨ih0,ih1⟩:=impl_Sign_eval.mono_l k
  refine ⟨?_,?_⟩
  ·intro y0 y1 y2 y3 y4 y5
   unfold impl_Sign_eval.f
   exact mO
  ·intro y0 y1 y2 y3 y4 y5 y6 y7 y8 y9
   unfold impl_Sign_eval.l0
   exact mO
theorem impl_Sign_eval.mono:∀ a0 a1 a2 a3 a4 a5 k,LeO (impl_Sign_eval.f k a0 a1 a2 a3 a4 a5) (impl_Sign_eval.f (k + 1) a0 a1 a2 a3 a4 a5):=by
 intro a0 a1 a2 a3 a4 a5 k
 obtain ⟨ih0,ih1⟩:=impl_Sign_eval.mono_l k
 exact ih0 a0 a1 a2 a3 a4 a5
set_option maxHeartbeats 8000000 in
set_option maxRecDepth 100000 in
theorem impl_Sign_eval.calls (k:Nat):∀ (A0_0:Option Addr) (c0_0:Nat) (l0_0:List Int) (a1_0:Int) (A1_1:Option Addr) (c1_1:Nat) (l1_1:List (List Int)) (A2:Option Addr) (c2:Nat) (l2:List Int) (a3:Int) (A4:Option Addr) (c4:Nat) (l4:List Int) (r1:Int) (r2:Int) (w:World) (hr0_0:Kd.C (Kd.int .i64) w A0_0 l0_0.length l0_0) (hc0_0:l0_0.length ≤ c0_0) (hr1_1:Kd.C (Kd.slice 3 (Kd.int .i64)) w A1_1 l1_1.length l1_1) (hc1_1:l1_1.length ≤ c1_1) (hr2:Kd.C (Kd.int .i64) w A2 l2.length l2) (hc2:l2.length ≤ c2) (hr4:Kd.C (Kd.int .i64) w A4 l4.length l4) (hc4:l4.length ≤ c4) (h:impl_Sign_eval.f k l0_0 a1_0 l1_1 l2 a3 l4 = some (r1,r2)),
  Calls Try.prog 80 #[.agg #[.slice A0_0 l0_0.length c0_0],.agg #[.int .i64 a1_0,.slice A1_1 l1_1.length c1_1],.slice A2 l2.length c2,.int .i64 a3,.slice A4 l4.length c4] w fun e w'=>e = .returned (.tuple #[.int .i64 r1,.int .i64 r2]) ∧ Below w.heap.size w w':=by
 induction k using Nat.strongRecOn with
 | _ k ih =>
 intro A0_0 c0_0 l0_0 a1_0 A1_1 c1_1 l1_1 A2 c2 l2 a3 A4 c4 l4 r1 r2 w hr0_0 hc0_0 hr1_1 hc1_1 hr2 hc2 hr4 hc4 h
 cases k with
 | zero=>exact absurd h (by simp [impl_Sign_eval.f])
 | succ k =>
 simp only [impl_Sign_eval.f] at h
 have hu26:=Try.underlying26
 have hu31:=Try.underlying31
 have HR0_0:=Aside0.mk hr0_0
 have HC0_0:=Aside0.mk hc0_0
 clear hr0_0 hc0_0
 have HR1_1:=Aside0.mk hr1_1
 have HC1_1:=Aside0.mk hc1_1
 clear hr1_1 hc1_1
 have HR2:=Aside0.mk hr2
 have HC2:=Aside0.mk hc2
 clear hr2 hc2
 have HR4:=Aside0.mk hr4
 have HC4:=Aside0.mk hc4
 clear hr4 hc4
 have HB:=Aside0.mk (Below.refl w.heap.size w)
 have H:(if 0 ≤ a3 then (if a3 < (l2.length:Int) then (if (rd l2 a3) < 0 then (if 0 ≤ (wrap64 ((-1) - (rd l2 a3))) then (if (wrap64 ((-1) - (rd l2 a3))) < (l4.length:Int) then (some (rd l4 (wrap64 ((-1) - (rd l2 a3))),wrap64 (a3 + 1))) else (none)) else (none)) else ((impl_Sign_args.f l0_0 (rd l2 a3)).bind fun t274=>(impl_Sign_eval.l0 k l2 l4 (rd l2 a3) 0 (wrap64 (a3 + 1)) t274 0 l0_0 a1_0 l1_1))) else (none)) else (none)) = some (r1,r2):=h
 clear h
 by_cases c6:0 ≤ a3
 ·rw [if_pos c6] at H
  have c6b0:=decide_eq_true c6
  clear c6
  by_cases c7:a3 < (l2.length:Int)
  ·rw [if_pos c7] at H
   have c7b0:=decide_eq_true c7
   clear c7
   by_cases c8:(rd l2 a3) < 0
   ·rw [if_pos c8] at H
    have c8b0:=decide_eq_true c8
    clear c8
    obtain ⟨ji9,hji9⟩:∃ j_:Int,(wrap64 ((-1) - (rd l2 a3))) = j_:=⟨_,rfl⟩
    replace H:(if 0 ≤ (ji9) then (if (ji9) < (l4.length:Int) then (some (rd l4 (ji9),wrap64 (a3 + 1))) else (none)) else (none)) = some (r1,r2):=by first|(rw [hji9] at H;exact H)|(simp only [hji9] at H ⊢;exact H)
    have hji9w:(IntKind.i64.wrap ((-1) - (rd l2 a3))) = ji9:=(i64_w _).trans hji9
    by_cases c10:0 ≤ (ji9)
    ·rw [if_pos c10] at H
     have c10b0:=decide_eq_true c10
     clear c10
     by_cases c11:(ji9) < (l4.length:Int)
     ·rw [if_pos c11] at H
      have c11b0:=decide_eq_true c11
      clear c11
      simp only [Option.some.injEq,Prod.mk.injEq] at H
      obtain ⟨rfl,rfl⟩:=H
      go_enter Try.func80,Try.ntmps80
      go_wp2_with (first|((with_reducible refine gate_dst (N:=5) rfl ?_);refine box_event ?hg (N:=5) ?hd (cs:=#[.slice A0_0 l0_0.length c0_0]) (t:=26) ?hr ?_;(case hd=>rfl);(case hg=>rfl);(case hr=>exact Yd);intro gb270 hg w12 hbox hb;have BK270:=Aside0.mk (hbox);have GW270:=Aside0.mk ((hZ:w.heap.size ≤ gb270));have GE270:=Aside0.mk ((hZ:w.heap.size ≤ gb270));replace HB:=Aside0.mk (below_step bH hb);clear hb hbox hg)|((with_reducible refine gate_dst (N:=6) rfl ?_);refine box_event ?hg (N:=6) ?hd (cs:=#[.int .i64 a1_0,.slice A1_1 l1_1.length c1_1]) (t:=31) ?hr ?_;(case hd=>rfl);(case hg=>rfl);(case hr=>exact Yd);intro gb271 hg w13 hbox hb;have BK271:=Aside0.mk (hbox);have GW271:=Aside0.mk ((hZ:w.heap.size ≤ gb271));have GE271:=Aside0.mk ((hZ:w.heap.size ≤ gb271));replace HB:=Aside0.mk (below_step bH hb);have NB270_271:=Aside0.mk ((nL BK270:gb270 ≠ gb271));have NB271_270:=Aside0.mk ((nG BK270:gb271 ≠ gb270));replace BK270:=Aside0.mk (blk_below (bB BK270) hb);clear hb hbox hg;have p272:0 ≤ (a3:Int):=oD;have q272:a3 < (l2.length:Int):=oD;obtain ⟨ad272,e272,hx272_0⟩:=Kd.at_int HR2.out a3 p272 q272;cases e272;replace hx272_0:=(HB.out.cell (World.block_lt_of_cell? w _ hx272_0)).trans hx272_0;replace p272:=eq_true p272;replace q272:=eq_true q272;have p273:0 ≤ ((ji9):Int):=oD;have q273:(ji9) < (l4.length:Int):=oD;obtain ⟨ad273,e273,hx273_0⟩:=Kd.at_int HR4.out (ji9) p273 q273;cases e273;replace hx273_0:=(HB.out.cell (World.block_lt_of_cell? w _ hx273_0)).trans hx273_0;replace p273:=eq_true p273;replace q273:=eq_true q273))
      go_ret2
      exact ⟨Zi,bH⟩
     ·rw [if_neg c11] at H
      exact absurd H (by simp)
    ·rw [if_neg c10] at H
     exact absurd H (by simp)
   ·rw [if_neg c8] at H
    have c8b0:decide ((rd l2 a3) < 0) = false:=decide_eq_false c8
    clear c8
    replace H:=Option.bind_eq_some_iff.mp H
    obtain ⟨t274,A140,H⟩:=H
    replace H:(impl_Sign_eval.l0 k l2 l4 (rd l2 a3) 0 (wrap64 (a3 + 1)) t274 0 l0_0 a1_0 l1_1) = some (r1,r2):=H
    have A14:=Aside0.mk A140
    clear A140
    have H':=Aside0.mk H
    clear H
    go_enter Try.func80,Try.ntmps80
    go_wp2_with (first|((with_reducible refine gate_dst (N:=5) rfl ?_);refine box_event ?hg (N:=5) ?hd (cs:=#[.slice A0_0 l0_0.length c0_0]) (t:=26) ?hr ?_;(case hd=>rfl);(case hg=>rfl);(case hr=>exact Yd);intro gb270 hg w15 hbox hb;have BK270:=Aside0.mk (hbox);have GW270:=Aside0.mk ((hZ:w.heap.size ≤ gb270));have GE270:=Aside0.mk ((hZ:w.heap.size ≤ gb270));replace HB:=Aside0.mk (below_step bH hb);clear hb hbox hg)|((with_reducible refine gate_dst (N:=6) rfl ?_);refine box_event ?hg (N:=6) ?hd (cs:=#[.int .i64 a1_0,.slice A1_1 l1_1.length c1_1]) (t:=31) ?hr ?_;(case hd=>rfl);(case hg=>rfl);(case hr=>exact Yd);intro gb271 hg w16 hbox hb;have BK271:=Aside0.mk (hbox);have GW271:=Aside0.mk ((hZ:w.heap.size ≤ gb271));have GE271:=Aside0.mk ((hZ:w.heap.size ≤ gb271));replace HB:=Aside0.mk (below_step bH hb);have NB270_271:=Aside0.mk ((nL BK270:gb270 ≠ gb271));have NB271_270:=Aside0.mk ((nG BK270:gb271 ≠ gb270));replace BK270:=Aside0.mk (blk_below (bB BK270) hb);clear hb hbox hg;have p272:0 ≤ (a3:Int):=oD;have q272:a3 < (l2.length:Int):=oD;obtain ⟨ad272,e272,hx272_0⟩:=Kd.at_int HR2.out a3 p272 q272;cases e272;replace hx272_0:=(HB.out.cell (World.block_lt_of_cell? w _ hx272_0)).trans hx272_0;replace p272:=eq_true p272;replace q272:=eq_true q272;have hnb17:=NB270_271.out;have hnc17:=NB271_270.out;have hcz18_0:w16.cell? ⟨gb270,0,none⟩ = some (.slice A0_0 l0_0.length c0_0):=(blk_cell BK270.out 0).trans rfl;have hfz18_0:=blk_frozen BK270.out 0)|((with_reducible refine gate_callee (f:=78) rfl ?_);refine goesL_ (some 33) rfl rfl Try.func78 (by kernel_rfl) rfl #[.agg #[.slice A0_0 l0_0.length c0_0],.int .i64 (rd l2 a3)] rfl Ya ?_;(with_reducible refine (impl_Sign_args.calls _ _ l0_0 (rd l2 a3) t274 _ ?side1 ?side2 A14.out).mono ?_);(case side1=>exact Yv);(case side2=>exact Yu);rintro e w19 ⟨rfl,hb⟩;refine ⟨_,rfl,?_⟩;replace BK270:=Aside0.mk (blk_below (bB BK270) hb);replace BK271:=Aside0.mk (blk_below (bB BK271) hb);replace HB:=Aside0.mk (below_step bH hb);(try clear hb);(try clear hb2);(try clear hk);(try clear hi)))
    go_loopg [13,14,34] k (fun kq v13 v14 v34 w'=>∃ (x13_1:Int) (x14_1:Int) (x34_1:Int),v13 = .int .i64 x13_1 ∧ v14 = .int .i64 x14_1 ∧ v34 = .int .i64 x34_1 ∧ Aside0 (impl_Sign_eval.l0 kq l2 l4 (rd l2 a3) x13_1 x14_1 t274 x34_1 l0_0 a1_0 l1_1 = some (r1,r2)) ∧ Aside0 (kq ≤ k) ∧ Aside0 (w'.heap[gb270]? = some (.cells #[(.slice A0_0 l0_0.length c0_0)] 26 (0,0))) ∧ Aside0 (w'.heap[gb271]? = some (.cells #[.int .i64 a1_0,(.slice A1_1 l1_1.length c1_1)] 31 (0,0))) ∧ Aside0 (Below w.heap.size w w'))
    case atStart=>exact ⟨(0),(wrap64 (a3 + 1)),(0),Ye,Ye,Ye,H',⟨Nat.le_refl _⟩,⟨by (with_reducible repeat (first|refine blk_drewN ?_ _|refine blk_drew ?_|refine blk_alloc ?_ _));exact BK270.out⟩,⟨by (with_reducible repeat (first|refine blk_drewN ?_ _|refine blk_drew ?_|refine blk_alloc ?_ _));exact BK271.out⟩,⟨bH⟩⟩
    case round =>
     clear H'
     try clear c1
     try clear c2
     try clear p2
     try clear q2
     try clear hx2
     try clear c4
     try clear c6
     try clear c6b0
     try clear p6
     try clear c7
     try clear c7b0
     try clear c8
     try clear c8b0
     try clear c10
     try clear c10b0
     try clear c11
     try clear c11b0
     try clear c17
     try clear hcz18_0
     try clear hfz18_0
     try clear hx272_0
     try clear hx273_0
     try clear p272
     try clear p273
     try clear q272
     try clear q273
     obtain ⟨x13_1,x14_1,x34_1,rfl,rfl,rfl,HA,HK1,BK270,BK271,HB⟩:=hrel
     cases gk with
     | zero=>exact absurd HA.out (by simp [impl_Sign_eval.l0])
     | succ k1 =>
      have H:=HA.out
      clear HA
      simp only [impl_Sign_eval.l0] at H
      by_cases c20:x34_1 < t274
      ·rw [if_pos c20] at H
       have c20b0:=decide_eq_true c20
       clear c20
       replace H:=Option.bind_eq_some_iff.mp H
       obtain ⟨⟨t275,t276⟩,A210,H⟩:=H
       replace H:(impl_Sign_eval.l0 k1 l2 l4 (rd l2 a3) (wrap64 ((wrap64 (x13_1 * a1_0)) + t275)) t276 t274 (wrap64 (x34_1 + 1)) l0_0 a1_0 l1_1) = some (r1,r2):=H
       have A21:=Aside0.mk A210
       clear A210
       have H':=Aside0.mk H
       clear H
       have hnb22:=NB270_271.out
       have hnc22:=NB271_270.out
       have hcz23_0:wr.cell? ⟨gb270,0,none⟩ = some (.slice A0_0 l0_0.length c0_0):=(blk_cell BK270.out 0).trans rfl
       have hfz23_0:=blk_frozen BK270.out 0
       have hcz24_0:wr.cell? ⟨gb271,0,none⟩ = some (.int .i64 a1_0):=(blk_cell BK271.out 0).trans rfl
       have hcz24_1:wr.cell? ⟨gb271,1,none⟩ = some (.slice A1_1 l1_1.length c1_1):=(blk_cell BK271.out 1).trans rfl
       have hfz24_0:=blk_frozen BK271.out 0
       have hfz24_1:=blk_frozen BK271.out 1
       go_wp2_with (first|((with_reducible refine gate_callee (f:=80) rfl ?_);refine goesL_ (some 42) rfl rfl Try.func80 (by kernel_rfl) rfl #[.agg #[.slice A0_0 l0_0.length c0_0],.agg #[.int .i64 a1_0,.slice A1_1 l1_1.length c1_1],.slice (some ad272) l2.length c2,.int .i64 x14_1,.slice A4 l4.length c4] rfl Ya ?_;(with_reducible refine (ih k1 Ze _ _ l0_0 a1_0 _ _ l1_1 _ _ l2 x14_1 _ _ l4 t275 t276 _ ?side1 ?side2 ?side3 ?side4 ?side5 ?side6 ?side7 ?side8 A21.out).mono ?_);(case side1=>exact Yv);(case side2=>exact Yu);(case side3=>exact YN);(case side4=>exact YK);(case side5=>exact sC HR2);(case side6=>exact HC2.out);(case side7=>exact sC HR4);(case side8=>exact HC4.out);rintro e w25 ⟨rfl,hb⟩;refine ⟨_,rfl,?_⟩;replace BK270:=Aside0.mk (blk_below (bB BK270) hb);replace BK271:=Aside0.mk (blk_below (bB BK271) hb);replace HB:=Aside0.mk (below_step bH hb);(try clear hb);(try clear hb2);(try clear hk);(try clear hi);have hcz26_0:w25.cell? ⟨gb271,0,none⟩ = some (.int .i64 a1_0):=(blk_cell BK271.out 0).trans rfl;have hcz26_1:w25.cell? ⟨gb271,1,none⟩ = some (.slice A1_1 l1_1.length c1_1):=(blk_cell BK271.out 1).trans rfl;have hfz26_0:=blk_frozen BK271.out 0;have hfz26_1:=blk_frozen BK271.out 1))
       go_roundg k1
       case measure=>have:=HK1.out;omega
       case rel=>exact ⟨(wrap64 ((wrap64 (x13_1 * a1_0)) + t275)),(t276),(wrap64 (x34_1 + 1)),Ye,Ye,Ye,H',⟨Ze⟩,⟨by (with_reducible repeat (first|refine blk_drewN ?_ _|refine blk_drew ?_|refine blk_alloc ?_ _));exact BK270.out⟩,⟨by (with_reducible repeat (first|refine blk_drewN ?_ _|refine blk_drew ?_|refine blk_alloc ?_ _));exact BK271.out⟩,⟨bH⟩⟩
      ·rw [if_neg c20] at H
       have c20b0:decide (x34_1 < t274) = false:=decide_eq_false c20
       clear c20
       by_cases c27:0 ≤ (rd l2 a3)
       ·rw [if_pos c27] at H
        have c27b0:=decide_eq_true c27
        clear c27
        by_cases c28:(rd l2 a3) < (l1_1.length:Int)
        ·rw [if_pos c28] at H
         have c28b0:=decide_eq_true c28
         clear c28
         by_cases c29:0 ≤ x13_1
         ·rw [if_pos c29] at H
          have c29b0:=decide_eq_true c29
          clear c29
          by_cases c30:x13_1 < ((rd_L2 l1_1 (rd l2 a3)).length:Int)
          ·rw [if_pos c30] at H
           have c30b0:=decide_eq_true c30
           clear c30
           simp only [Option.some.injEq,Prod.mk.injEq] at H
           obtain ⟨rfl,rfl⟩:=H
           have hnb31:=NB271_270.out
           have hnc31:=NB270_271.out
           have hcz32_0:wr.cell? ⟨gb271,0,none⟩ = some (.int .i64 a1_0):=(blk_cell BK271.out 0).trans rfl
           have hcz32_1:wr.cell? ⟨gb271,1,none⟩ = some (.slice A1_1 l1_1.length c1_1):=(blk_cell BK271.out 1).trans rfl
           have hfz32_0:=blk_frozen BK271.out 0
           have hfz32_1:=blk_frozen BK271.out 1
           have p277:0 ≤ ((rd l2 a3):Int):=oD
           have q277:(rd l2 a3) < (l1_1.length:Int):=oD
           obtain ⟨ad277,A277_0,c277_0,e277,hx277_0,hl277_0,hi277_0⟩:=at_L2 HR1_1.out (rd l2 a3) p277 q277
           cases e277
           replace hx277_0:=(HB.out.cell (World.block_lt_of_cell? w _ hx277_0)).trans hx277_0
           have HR277_0:=Aside0.mk hi277_0
           have HC277_0:=Aside0.mk hl277_0
           clear hi277_0 hl277_0
           replace p277:=eq_true p277
           replace q277:=eq_true q277
           have p278:0 ≤ (x13_1:Int):=oD
           have q278:x13_1 < ((rd_L2 l1_1 (rd l2 a3)).length:Int):=oD
           obtain ⟨ad278,e278,hx278_0⟩:=Kd.at_int HR277_0.out x13_1 p278 q278
           cases e278
           replace hx278_0:=(HB.out.cell (World.block_lt_of_cell? w _ hx278_0)).trans hx278_0
           replace p278:=eq_true p278
           replace q278:=eq_true q278
           go_wp2
           go_ret2
           exact ⟨Yb,bH⟩
          ·rw [if_neg c30] at H
           exact absurd H (by simp)
         ·rw [if_neg c29] at H
          exact absurd H (by simp)
        ·rw [if_neg c28] at H
         exact absurd H (by simp)
       ·rw [if_neg c27] at H
        exact absurd H (by simp)
  ·rw [if_neg c7] at H
   exact absurd H (by simp)
 ·rw [if_neg c6] at H
  exact absurd H (by simp)

/-! ### impl_Sign_value: function 43 -/
def impl_Sign_value.f (k:Nat) (l0_0:List Int) (a1_0:Int) (l1_1:List (List Int)) (l2:List Int) (l3:List Int):Option (Int):=(impl_Sign_eval.f k l0_0 a1_0 l1_1 l2 0 l3).bind fun bt281=>(some bt281.1)
theorem impl_Sign_value.mono:∀ a0 a1 a2 a3 a4 k,LeO (impl_Sign_value.f k a0 a1 a2 a3 a4) (impl_Sign_value.f (k + 1) a0 a1 a2 a3 a4):=by
 intro a0 a1 a2 a3 a4 k
 unfold impl_Sign_value.f
 have m0:=@impl_Sign_eval.mono
 exact mO
set_option maxHeartbeats 8000000 in
set_option maxRecDepth 100000 in
theorem impl_Sign_value.calls (k:Nat) (A0_0:Option Addr) (c0_0:Nat) (l0_0:List Int) (a1_0:Int) (A1_1:Option Addr) (c1_1:Nat) (l1_1:List (List Int)) (A2:Option Addr) (c2:Nat) (l2:List Int) (A3:Option Addr) (c3:Nat) (l3:List Int) (r:Int) (w:World) (hr0_0:Kd.C (Kd.int .i64) w A0_0 l0_0.length l0_0) (hc0_0:l0_0.length ≤ c0_0) (hr1_1:Kd.C (Kd.slice 3 (Kd.int .i64)) w A1_1 l1_1.length l1_1) (hc1_1:l1_1.length ≤ c1_1) (hr2:Kd.C (Kd.int .i64) w A2 l2.length l2) (hc2:l2.length ≤ c2) (hr3:Kd.C (Kd.int .i64) w A3 l3.length l3) (hc3:l3.length ≤ c3) (h:impl_Sign_value.f k l0_0 a1_0 l1_1 l2 l3 = some r) :
  Calls Try.prog 43 #[.agg #[.slice A0_0 l0_0.length c0_0],.agg #[.int .i64 a1_0,.slice A1_1 l1_1.length c1_1],.slice A2 l2.length c2,.slice A3 l3.length c3] w fun e w'=>e = .returned (.int .i64 r) ∧ Below w.heap.size w w':=by
 have hu26:=Try.underlying26
 have hu31:=Try.underlying31
 have HR0_0:=Aside0.mk hr0_0
 have HC0_0:=Aside0.mk hc0_0
 clear hr0_0 hc0_0
 have HR1_1:=Aside0.mk hr1_1
 have HC1_1:=Aside0.mk hc1_1
 clear hr1_1 hc1_1
 have HR2:=Aside0.mk hr2
 have HC2:=Aside0.mk hc2
 clear hr2 hc2
 have HR3:=Aside0.mk hr3
 have HC3:=Aside0.mk hc3
 clear hr3 hc3
 have HB:=Aside0.mk (Below.refl w.heap.size w)
 have H:((impl_Sign_eval.f k l0_0 a1_0 l1_1 l2 0 l3).bind fun bt281=>(some bt281.1)) = some r:=h
 clear h
 replace H:=Option.bind_eq_some_iff.mp H
 obtain ⟨⟨t281,t282⟩,A50,H⟩:=H
 replace H:(some t281) = some r:=H
 have A5:=Aside0.mk A50
 clear A50
 obtain rfl:=Option.some.inj H
 go_enter Try.func43,Try.ntmps43
 go_wp2_with (first|((with_reducible refine gate_dst (N:=4) rfl ?_);refine box_event ?hg (N:=4) ?hd (cs:=#[.slice A0_0 l0_0.length c0_0]) (t:=26) ?hr ?_;(case hd=>rfl);(case hg=>rfl);(case hr=>exact Yd);intro gb279 hg w6 hbox hb;have BK279:=Aside0.mk (hbox);have GW279:=Aside0.mk ((hZ:w.heap.size ≤ gb279));have GE279:=Aside0.mk ((hZ:w.heap.size ≤ gb279));replace HB:=Aside0.mk (below_step bH hb);clear hb hbox hg)|((with_reducible refine gate_dst (N:=5) rfl ?_);refine box_event ?hg (N:=5) ?hd (cs:=#[.int .i64 a1_0,.slice A1_1 l1_1.length c1_1]) (t:=31) ?hr ?_;(case hd=>rfl);(case hg=>rfl);(case hr=>exact Yd);intro gb280 hg w7 hbox hb;have BK280:=Aside0.mk (hbox);have GW280:=Aside0.mk ((hZ:w.heap.size ≤ gb280));have GE280:=Aside0.mk ((hZ:w.heap.size ≤ gb280));replace HB:=Aside0.mk (below_step bH hb);have NB279_280:=Aside0.mk ((nL BK279:gb279 ≠ gb280));have NB280_279:=Aside0.mk ((nG BK279:gb280 ≠ gb279));replace BK279:=Aside0.mk (blk_below (bB BK279) hb);clear hb hbox hg;have hnb8:=NB279_280.out;have hnc8:=NB280_279.out;have hcz9_0:w7.cell? ⟨gb279,0,none⟩ = some (.slice A0_0 l0_0.length c0_0):=(blk_cell BK279.out 0).trans rfl;have hfz9_0:=blk_frozen BK279.out 0;have hcz10_0:w7.cell? ⟨gb280,0,none⟩ = some (.int .i64 a1_0):=(blk_cell BK280.out 0).trans rfl;have hcz10_1:w7.cell? ⟨gb280,1,none⟩ = some (.slice A1_1 l1_1.length c1_1):=(blk_cell BK280.out 1).trans rfl;have hfz10_0:=blk_frozen BK280.out 0;have hfz10_1:=blk_frozen BK280.out 1)|((with_reducible refine gate_callee (f:=80) rfl ?_);refine goesL_ (some 16) rfl rfl Try.func80 (by kernel_rfl) rfl #[.agg #[.slice A0_0 l0_0.length c0_0],.agg #[.int .i64 a1_0,.slice A1_1 l1_1.length c1_1],.slice A2 l2.length c2,.int .i64 0,.slice A3 l3.length c3] rfl Ya ?_;(with_reducible refine (impl_Sign_eval.calls k _ _ l0_0 a1_0 _ _ l1_1 _ _ l2 0 _ _ l3 t281 t282 _ ?side1 ?side2 ?side3 ?side4 ?side5 ?side6 ?side7 ?side8 A5.out).mono ?_);(case side1=>exact Yv);(case side2=>exact Yu);(case side3=>exact YN);(case side4=>exact YK);(case side5=>exact sC HR2);(case side6=>exact HC2.out);(case side7=>exact sC HR3);(case side8=>exact HC3.out);rintro e w11 ⟨rfl,hb⟩;refine ⟨_,rfl,?_⟩;replace BK279:=Aside0.mk (blk_below (bB BK279) hb);replace BK280:=Aside0.mk (blk_below (bB BK280) hb);replace HB:=Aside0.mk (below_step bH hb);(try clear hb);(try clear hb2);(try clear hk);(try clear hi)))
 go_ret
 exact ⟨Yb,bH⟩

/-! ### impl_EvalIn: function 10 -/
def impl_EvalIn.f (k:Nat) (l0_0:List Int) (a1_0:Int) (l1_1:List (List Int)) (l2:List Int) (l3:List Int):Option (Int × Bool):=(impl_GoodWorld.f k l0_0 a1_0 l1_1).bind fun t285=>(if t285 = true then ((impl_Sign_isTerm.f k l0_0 l2).bind fun t286=>(if t286 = true then ((impl_World_isEnv.f a1_0 l1_1 l3).bind fun t287=>(if t287 = true then ((impl_Sign_value.f k l0_0 a1_0 l1_1 l2 l3).bind fun t288=>(some (t288,true))) else (some (0,false)))) else (some (0,false)))) else (some (0,false)))
theorem impl_EvalIn.mono:∀ a0 a1 a2 a3 a4 k,LeO (impl_EvalIn.f k a0 a1 a2 a3 a4) (impl_EvalIn.f (k + 1) a0 a1 a2 a3 a4):=by
 intro a0 a1 a2 a3 a4 k
 unfold impl_EvalIn.f
 have m0:=@impl_GoodWorld.mono
 have m1:=@impl_Sign_isTerm.mono
 have m2:=@impl_Sign_value.mono
 exact mO
set_option maxHeartbeats 8000000 in
set_option maxRecDepth 100000 in
theorem impl_EvalIn.calls (k:Nat) (A0_0:Option Addr) (c0_0:Nat) (l0_0:List Int) (a1_0:Int) (A1_1:Option Addr) (c1_1:Nat) (l1_1:List (List Int)) (A2:Option Addr) (c2:Nat) (l2:List Int) (A3:Option Addr) (c3:Nat) (l3:List Int) (r1:Int) (r2:Bool) (w:World) (hr0_0:Kd.C (Kd.int .i64) w A0_0 l0_0.length l0_0) (hc0_0:l0_0.length ≤ c0_0) (hr1_1:Kd.C (Kd.slice 3 (Kd.int .i64)) w A1_1 l1_1.length l1_1) (hc1_1:l1_1.length ≤ c1_1) (hr2:Kd.C (Kd.int .i64) w A2 l2.length l2) (hc2:l2.length ≤ c2) (hr3:Kd.C (Kd.int .i64) w A3 l3.length l3) (hc3:l3.length ≤ c3) (h:impl_EvalIn.f k l0_0 a1_0 l1_1 l2 l3 = some (r1,r2)) :
  Calls Try.prog 10 #[.agg #[.slice A0_0 l0_0.length c0_0],.agg #[.int .i64 a1_0,.slice A1_1 l1_1.length c1_1],.slice A2 l2.length c2,.slice A3 l3.length c3] w fun e w'=>e = .returned (.tuple #[.int .i64 r1,.bool r2]) ∧ Below w.heap.size w w':=by
 have hu26:=Try.underlying26
 have hu31:=Try.underlying31
 have HR0_0:=Aside0.mk hr0_0
 have HC0_0:=Aside0.mk hc0_0
 clear hr0_0 hc0_0
 have HR1_1:=Aside0.mk hr1_1
 have HC1_1:=Aside0.mk hc1_1
 clear hr1_1 hc1_1
 have HR2:=Aside0.mk hr2
 have HC2:=Aside0.mk hc2
 clear hr2 hc2
 have HR3:=Aside0.mk hr3
 have HC3:=Aside0.mk hc3
 clear hr3 hc3
 have HB:=Aside0.mk (Below.refl w.heap.size w)
 have H:((impl_GoodWorld.f k l0_0 a1_0 l1_1).bind fun t285=>(if t285 = true then ((impl_Sign_isTerm.f k l0_0 l2).bind fun t286=>(if t286 = true then ((impl_World_isEnv.f a1_0 l1_1 l3).bind fun t287=>(if t287 = true then ((impl_Sign_value.f k l0_0 a1_0 l1_1 l2 l3).bind fun t288=>(some (t288,true))) else (some (0,false)))) else (some (0,false)))) else (some (0,false)))) = some (r1,r2):=h
 clear h
 replace H:=Option.bind_eq_some_iff.mp H
 obtain ⟨t285,A50,H⟩:=H
 replace H:(if t285 = true then ((impl_Sign_isTerm.f k l0_0 l2).bind fun t286=>(if t286 = true then ((impl_World_isEnv.f a1_0 l1_1 l3).bind fun t287=>(if t287 = true then ((impl_Sign_value.f k l0_0 a1_0 l1_1 l2 l3).bind fun t288=>(some (t288,true))) else (some (0,false)))) else (some (0,false)))) else (some (0,false))) = some (r1,r2):=H
 have A5:=Aside0.mk A50
 clear A50
 by_cases c6:t285 = true
 ·subst c6
  have H1:((impl_Sign_isTerm.f k l0_0 l2).bind fun t286=>(if t286 = true then ((impl_World_isEnv.f a1_0 l1_1 l3).bind fun t287=>(if t287 = true then ((impl_Sign_value.f k l0_0 a1_0 l1_1 l2 l3).bind fun t288=>(some (t288,true))) else (some (0,false)))) else (some (0,false)))) = some (r1,r2):=by rw [if_pos rfl] at H;exact H
  clear H
  have H:=H1
  clear H1
  replace H:=Option.bind_eq_some_iff.mp H
  obtain ⟨t286,A70,H⟩:=H
  replace H:(if t286 = true then ((impl_World_isEnv.f a1_0 l1_1 l3).bind fun t287=>(if t287 = true then ((impl_Sign_value.f k l0_0 a1_0 l1_1 l2 l3).bind fun t288=>(some (t288,true))) else (some (0,false)))) else (some (0,false))) = some (r1,r2):=H
  have A7:=Aside0.mk A70
  clear A70
  by_cases c8:t286 = true
  ·subst c8
   have H1:((impl_World_isEnv.f a1_0 l1_1 l3).bind fun t287=>(if t287 = true then ((impl_Sign_value.f k l0_0 a1_0 l1_1 l2 l3).bind fun t288=>(some (t288,true))) else (some (0,false)))) = some (r1,r2):=by rw [if_pos rfl] at H;exact H
   clear H
   have H:=H1
   clear H1
   replace H:=Option.bind_eq_some_iff.mp H
   obtain ⟨t287,A90,H⟩:=H
   replace H:(if t287 = true then ((impl_Sign_value.f k l0_0 a1_0 l1_1 l2 l3).bind fun t288=>(some (t288,true))) else (some (0,false))) = some (r1,r2):=H
   have A9:=Aside0.mk A90
   clear A90
   by_cases c10:t287 = true
   ·subst c10
    have H1:((impl_Sign_value.f k l0_0 a1_0 l1_1 l2 l3).bind fun t288=>(some (t288,true))) = some (r1,r2):=by rw [if_pos rfl] at H;exact H
    clear H
    have H:=H1
    clear H1
    replace H:=Option.bind_eq_some_iff.mp H
    obtain ⟨t288,A110,H⟩:=H
    replace H:(some (t288,true)) = some (r1,r2):=H
    have A11:=Aside0.mk A110
    clear A110
    simp only [Option.some.injEq,Prod.mk.injEq] at H
    obtain ⟨rfl,rfl⟩:=H
    go_enter Try.func10,Try.ntmps10
    go_wp2_with (first|((with_reducible refine gate_dst (N:=4) rfl ?_);refine box_event ?hg (N:=4) ?hd (cs:=#[.slice A0_0 l0_0.length c0_0]) (t:=26) ?hr ?_;(case hd=>rfl);(case hg=>rfl);(case hr=>exact Yd);intro gb283 hg w12 hbox hb;have BK283:=Aside0.mk (hbox);have GW283:=Aside0.mk ((hZ:w.heap.size ≤ gb283));have GE283:=Aside0.mk ((hZ:w.heap.size ≤ gb283));replace HB:=Aside0.mk (below_step bH hb);clear hb hbox hg)|((with_reducible refine gate_dst (N:=5) rfl ?_);refine box_event ?hg (N:=5) ?hd (cs:=#[.int .i64 a1_0,.slice A1_1 l1_1.length c1_1]) (t:=31) ?hr ?_;(case hd=>rfl);(case hg=>rfl);(case hr=>exact Yd);intro gb284 hg w13 hbox hb;have BK284:=Aside0.mk (hbox);have GW284:=Aside0.mk ((hZ:w.heap.size ≤ gb284));have GE284:=Aside0.mk ((hZ:w.heap.size ≤ gb284));replace HB:=Aside0.mk (below_step bH hb);have NB283_284:=Aside0.mk ((nL BK283:gb283 ≠ gb284));have NB284_283:=Aside0.mk ((nG BK283:gb284 ≠ gb283));replace BK283:=Aside0.mk (blk_below (bB BK283) hb);clear hb hbox hg;have hnb14:=NB283_284.out;have hnc14:=NB284_283.out;have hcz15_0:w13.cell? ⟨gb283,0,none⟩ = some (.slice A0_0 l0_0.length c0_0):=(blk_cell BK283.out 0).trans rfl;have hfz15_0:=blk_frozen BK283.out 0;have hcz16_0:w13.cell? ⟨gb284,0,none⟩ = some (.int .i64 a1_0):=(blk_cell BK284.out 0).trans rfl;have hcz16_1:w13.cell? ⟨gb284,1,none⟩ = some (.slice A1_1 l1_1.length c1_1):=(blk_cell BK284.out 1).trans rfl;have hfz16_0:=blk_frozen BK284.out 0;have hfz16_1:=blk_frozen BK284.out 1)|((with_reducible refine gate_callee (f:=16) rfl ?_);refine goesL_ (some 12) rfl rfl Try.func16 (by kernel_rfl) rfl #[.agg #[.slice A0_0 l0_0.length c0_0],.agg #[.int .i64 a1_0,.slice A1_1 l1_1.length c1_1]] rfl Ya ?_;(with_reducible refine (impl_GoodWorld.calls k _ _ l0_0 a1_0 _ _ l1_1 true _ ?side1 ?side2 ?side3 ?side4 A5.out).mono ?_);(case side1=>exact Yv);(case side2=>exact Yu);(case side3=>exact YN);(case side4=>exact YK);rintro e w17 ⟨rfl,hb⟩;refine ⟨_,rfl,?_⟩;replace BK283:=Aside0.mk (blk_below (bB BK283) hb);replace BK284:=Aside0.mk (blk_below (bB BK284) hb);replace HB:=Aside0.mk (below_step bH hb);(try clear hb);(try clear hb2);(try clear hk);(try clear hi);have hcz18_0:w17.cell? ⟨gb283,0,none⟩ = some (.slice A0_0 l0_0.length c0_0):=(blk_cell BK283.out 0).trans rfl;have hfz18_0:=blk_frozen BK283.out 0)|(go_at_call 40;(with_reducible refine (impl_Sign_isTerm.calls k _ _ l0_0 _ _ l2 true _ ?side1 ?side2 ?side3 ?side4 A7.out).mono ?_);(case side1=>exact Yv);(case side2=>exact Yu);(case side3=>exact sC HR2);(case side4=>exact HC2.out);rintro e w19 ⟨rfl,hb⟩;replace BK283:=Aside0.mk (blk_below (bB BK283) hb);replace BK284:=Aside0.mk (blk_below (bB BK284) hb);replace HB:=Aside0.mk (below_step bH hb);(try clear hb);(try clear hb2);(try clear hk);(try clear hi);have hcz20_0:w19.cell? ⟨gb284,0,none⟩ = some (.int .i64 a1_0):=(blk_cell BK284.out 0).trans rfl;have hcz20_1:w19.cell? ⟨gb284,1,none⟩ = some (.slice A1_1 l1_1.length c1_1):=(blk_cell BK284.out 1).trans rfl;have hfz20_0:=blk_frozen BK284.out 0;have hfz20_1:=blk_frozen BK284.out 1)|(go_at_call 42;(with_reducible refine (impl_World_isEnv.calls a1_0 _ _ l1_1 _ _ l3 true _ ?side1 ?side2 ?side3 ?side4 A9.out).mono ?_);(case side1=>exact YN);(case side2=>exact YK);(case side3=>exact sC HR3);(case side4=>exact HC3.out);rintro e w21 ⟨rfl,hb⟩;replace BK283:=Aside0.mk (blk_below (bB BK283) hb);replace BK284:=Aside0.mk (blk_below (bB BK284) hb);replace HB:=Aside0.mk (below_step bH hb);(try clear hb);(try clear hb2);(try clear hk);(try clear hi);have hcz22_0:w21.cell? ⟨gb283,0,none⟩ = some (.slice A0_0 l0_0.length c0_0):=(blk_cell BK283.out 0).trans rfl;have hfz22_0:=blk_frozen BK283.out 0;have hcz23_0:w21.cell? ⟨gb284,0,none⟩ = some (.int .i64 a1_0):=(blk_cell BK284.out 0).trans rfl;have hcz23_1:w21.cell? ⟨gb284,1,none⟩ = some (.slice A1_1 l1_1.length c1_1):=(blk_cell BK284.out 1).trans rfl;have hfz23_0:=blk_frozen BK284.out 0;have hfz23_1:=blk_frozen BK284.out 1)|((with_reducible refine gate_callee (f:=43) rfl ?_);refine goesL_ (some 30) rfl rfl Try.func43 (by kernel_rfl) rfl #[.agg #[.slice A0_0 l0_0.length c0_0],.agg #[.int .i64 a1_0,.slice A1_1 l1_1.length c1_1],.slice A2 l2.length c2,.slice A3 l3.length c3] rfl Ya ?_;(with_reducible refine (impl_Sign_value.calls k _ _ l0_0 a1_0 _ _ l1_1 _ _ l2 _ _ l3 t288 _ ?side1 ?side2 ?side3 ?side4 ?side5 ?side6 ?side7 ?side8 A11.out).mono ?_);(case side1=>exact Yv);(case side2=>exact Yu);(case side3=>exact YN);(case side4=>exact YK);(case side5=>exact sC HR2);(case side6=>exact HC2.out);(case side7=>exact sC HR3);(case side8=>exact HC3.out);rintro e w24 ⟨rfl,hb⟩;refine ⟨_,rfl,?_⟩;replace BK283:=Aside0.mk (blk_below (bB BK283) hb);replace BK284:=Aside0.mk (blk_below (bB BK284) hb);replace HB:=Aside0.mk (below_step bH hb);(try clear hb);(try clear hb2);(try clear hk);(try clear hi)))
    go_ret2
    exact ⟨Yb,bH⟩
   ·replace c10:=Bool.eq_false_iff.mpr c10
    subst c10
    have H1:(some (0,false)) = some (r1,r2):=by rw [if_neg (show ¬ (false = true) by decide)] at H;exact H
    clear H
    have H:=H1
    clear H1
    simp only [Option.some.injEq,Prod.mk.injEq] at H
    obtain ⟨rfl,rfl⟩:=H
    go_enter Try.func10,Try.ntmps10
    go_wp2_with (first|((with_reducible refine gate_dst (N:=4) rfl ?_);refine box_event ?hg (N:=4) ?hd (cs:=#[.slice A0_0 l0_0.length c0_0]) (t:=26) ?hr ?_;(case hd=>rfl);(case hg=>rfl);(case hr=>exact Yd);intro gb283 hg w25 hbox hb;have BK283:=Aside0.mk (hbox);have GW283:=Aside0.mk ((hZ:w.heap.size ≤ gb283));have GE283:=Aside0.mk ((hZ:w.heap.size ≤ gb283));replace HB:=Aside0.mk (below_step bH hb);clear hb hbox hg)|((with_reducible refine gate_dst (N:=5) rfl ?_);refine box_event ?hg (N:=5) ?hd (cs:=#[.int .i64 a1_0,.slice A1_1 l1_1.length c1_1]) (t:=31) ?hr ?_;(case hd=>rfl);(case hg=>rfl);(case hr=>exact Yd);intro gb284 hg w26 hbox hb;have BK284:=Aside0.mk (hbox);have GW284:=Aside0.mk ((hZ:w.heap.size ≤ gb284));have GE284:=Aside0.mk ((hZ:w.heap.size ≤ gb284));replace HB:=Aside0.mk (below_step bH hb);have NB283_284:=Aside0.mk ((nL BK283:gb283 ≠ gb284));have NB284_283:=Aside0.mk ((nG BK283:gb284 ≠ gb283));replace BK283:=Aside0.mk (blk_below (bB BK283) hb);clear hb hbox hg;have hnb27:=NB283_284.out;have hnc27:=NB284_283.out;have hcz28_0:w26.cell? ⟨gb283,0,none⟩ = some (.slice A0_0 l0_0.length c0_0):=(blk_cell BK283.out 0).trans rfl;have hfz28_0:=blk_frozen BK283.out 0;have hcz29_0:w26.cell? ⟨gb284,0,none⟩ = some (.int .i64 a1_0):=(blk_cell BK284.out 0).trans rfl;have hcz29_1:w26.cell? ⟨gb284,1,none⟩ = some (.slice A1_1 l1_1.length c1_1):=(blk_cell BK284.out 1).trans rfl;have hfz29_0:=blk_frozen BK284.out 0;have hfz29_1:=blk_frozen BK284.out 1)|((with_reducible refine gate_callee (f:=16) rfl ?_);refine goesL_ (some 12) rfl rfl Try.func16 (by kernel_rfl) rfl #[.agg #[.slice A0_0 l0_0.length c0_0],.agg #[.int .i64 a1_0,.slice A1_1 l1_1.length c1_1]] rfl Ya ?_;(with_reducible refine (impl_GoodWorld.calls k _ _ l0_0 a1_0 _ _ l1_1 true _ ?side1 ?side2 ?side3 ?side4 A5.out).mono ?_);(case side1=>exact Yv);(case side2=>exact Yu);(case side3=>exact YN);(case side4=>exact YK);rintro e w30 ⟨rfl,hb⟩;refine ⟨_,rfl,?_⟩;replace BK283:=Aside0.mk (blk_below (bB BK283) hb);replace BK284:=Aside0.mk (blk_below (bB BK284) hb);replace HB:=Aside0.mk (below_step bH hb);(try clear hb);(try clear hb2);(try clear hk);(try clear hi);have hcz31_0:w30.cell? ⟨gb283,0,none⟩ = some (.slice A0_0 l0_0.length c0_0):=(blk_cell BK283.out 0).trans rfl;have hfz31_0:=blk_frozen BK283.out 0)|(go_at_call 40;(with_reducible refine (impl_Sign_isTerm.calls k _ _ l0_0 _ _ l2 true _ ?side1 ?side2 ?side3 ?side4 A7.out).mono ?_);(case side1=>exact Yv);(case side2=>exact Yu);(case side3=>exact sC HR2);(case side4=>exact HC2.out);rintro e w32 ⟨rfl,hb⟩;replace BK283:=Aside0.mk (blk_below (bB BK283) hb);replace BK284:=Aside0.mk (blk_below (bB BK284) hb);replace HB:=Aside0.mk (below_step bH hb);(try clear hb);(try clear hb2);(try clear hk);(try clear hi);have hcz33_0:w32.cell? ⟨gb284,0,none⟩ = some (.int .i64 a1_0):=(blk_cell BK284.out 0).trans rfl;have hcz33_1:w32.cell? ⟨gb284,1,none⟩ = some (.slice A1_1 l1_1.length c1_1):=(blk_cell BK284.out 1).trans rfl;have hfz33_0:=blk_frozen BK284.out 0;have hfz33_1:=blk_frozen BK284.out 1)|(go_at_call 42;(with_reducible refine (impl_World_isEnv.calls a1_0 _ _ l1_1 _ _ l3 false _ ?side1 ?side2 ?side3 ?side4 A9.out).mono ?_);(case side1=>exact YN);(case side2=>exact YK);(case side3=>exact sC HR3);(case side4=>exact HC3.out);rintro e w34 ⟨rfl,hb⟩;replace BK283:=Aside0.mk (blk_below (bB BK283) hb);replace BK284:=Aside0.mk (blk_below (bB BK284) hb);replace HB:=Aside0.mk (below_step bH hb);(try clear hb);(try clear hb2);(try clear hk);(try clear hi)))
    go_ret2
    exact ⟨Yb,bH⟩
  ·replace c8:=Bool.eq_false_iff.mpr c8
   subst c8
   have H1:(some (0,false)) = some (r1,r2):=by rw [if_neg (show ¬ (false = true) by decide)] at H;exact H
   clear H
   have H:=H1
   clear H1
   simp only [Option.some.injEq,Prod.mk.injEq] at H
   obtain ⟨rfl,rfl⟩:=H
   go_enter Try.func10,Try.ntmps10
   go_wp2_with (first|((with_reducible refine gate_dst (N:=4) rfl ?_);refine box_event ?hg (N:=4) ?hd (cs:=#[.slice A0_0 l0_0.length c0_0]) (t:=26) ?hr ?_;(case hd=>rfl);(case hg=>rfl);(case hr=>exact Yd);intro gb283 hg w35 hbox hb;have BK283:=Aside0.mk (hbox);have GW283:=Aside0.mk ((hZ:w.heap.size ≤ gb283));have GE283:=Aside0.mk ((hZ:w.heap.size ≤ gb283));replace HB:=Aside0.mk (below_step bH hb);clear hb hbox hg)|((with_reducible refine gate_dst (N:=5) rfl ?_);refine box_event ?hg (N:=5) ?hd (cs:=#[.int .i64 a1_0,.slice A1_1 l1_1.length c1_1]) (t:=31) ?hr ?_;(case hd=>rfl);(case hg=>rfl);(case hr=>exact Yd);intro gb284 hg w36 hbox hb;have BK284:=Aside0.mk (hbox);have GW284:=Aside0.mk ((hZ:w.heap.size ≤ gb284));have GE284:=Aside0.mk ((hZ:w.heap.size ≤ gb284));replace HB:=Aside0.mk (below_step bH hb);have NB283_284:=Aside0.mk ((nL BK283:gb283 ≠ gb284));have NB284_283:=Aside0.mk ((nG BK283:gb284 ≠ gb283));replace BK283:=Aside0.mk (blk_below (bB BK283) hb);clear hb hbox hg;have hnb37:=NB283_284.out;have hnc37:=NB284_283.out;have hcz38_0:w36.cell? ⟨gb283,0,none⟩ = some (.slice A0_0 l0_0.length c0_0):=(blk_cell BK283.out 0).trans rfl;have hfz38_0:=blk_frozen BK283.out 0;have hcz39_0:w36.cell? ⟨gb284,0,none⟩ = some (.int .i64 a1_0):=(blk_cell BK284.out 0).trans rfl;have hcz39_1:w36.cell? ⟨gb284,1,none⟩ = some (.slice A1_1 l1_1.length c1_1):=(blk_cell BK284.out 1).trans rfl;have hfz39_0:=blk_frozen BK284.out 0;have hfz39_1:=blk_frozen BK284.out 1)|((with_reducible refine gate_callee (f:=16) rfl ?_);refine goesL_ (some 12) rfl rfl Try.func16 (by kernel_rfl) rfl #[.agg #[.slice A0_0 l0_0.length c0_0],.agg #[.int .i64 a1_0,.slice A1_1 l1_1.length c1_1]] rfl Ya ?_;(with_reducible refine (impl_GoodWorld.calls k _ _ l0_0 a1_0 _ _ l1_1 true _ ?side1 ?side2 ?side3 ?side4 A5.out).mono ?_);(case side1=>exact Yv);(case side2=>exact Yu);(case side3=>exact YN);(case side4=>exact YK);rintro e w40 ⟨rfl,hb⟩;refine ⟨_,rfl,?_⟩;replace BK283:=Aside0.mk (blk_below (bB BK283) hb);replace BK284:=Aside0.mk (blk_below (bB BK284) hb);replace HB:=Aside0.mk (below_step bH hb);(try clear hb);(try clear hb2);(try clear hk);(try clear hi);have hcz41_0:w40.cell? ⟨gb283,0,none⟩ = some (.slice A0_0 l0_0.length c0_0):=(blk_cell BK283.out 0).trans rfl;have hfz41_0:=blk_frozen BK283.out 0)|(go_at_call 40;(with_reducible refine (impl_Sign_isTerm.calls k _ _ l0_0 _ _ l2 false _ ?side1 ?side2 ?side3 ?side4 A7.out).mono ?_);(case side1=>exact Yv);(case side2=>exact Yu);(case side3=>exact sC HR2);(case side4=>exact HC2.out);rintro e w42 ⟨rfl,hb⟩;replace BK283:=Aside0.mk (blk_below (bB BK283) hb);replace BK284:=Aside0.mk (blk_below (bB BK284) hb);replace HB:=Aside0.mk (below_step bH hb);(try clear hb);(try clear hb2);(try clear hk);(try clear hi)))
   go_ret2
   exact ⟨Yb,bH⟩
 ·replace c6:=Bool.eq_false_iff.mpr c6
  subst c6
  have H1:(some (0,false)) = some (r1,r2):=by rw [if_neg (show ¬ (false = true) by decide)] at H;exact H
  clear H
  have H:=H1
  clear H1
  simp only [Option.some.injEq,Prod.mk.injEq] at H
  obtain ⟨rfl,rfl⟩:=H
  go_enter Try.func10,Try.ntmps10
  go_wp2_with (first|((with_reducible refine gate_dst (N:=4) rfl ?_);refine box_event ?hg (N:=4) ?hd (cs:=#[.slice A0_0 l0_0.length c0_0]) (t:=26) ?hr ?_;(case hd=>rfl);(case hg=>rfl);(case hr=>exact Yd);intro gb283 hg w43 hbox hb;have BK283:=Aside0.mk (hbox);have GW283:=Aside0.mk ((hZ:w.heap.size ≤ gb283));have GE283:=Aside0.mk ((hZ:w.heap.size ≤ gb283));replace HB:=Aside0.mk (below_step bH hb);clear hb hbox hg)|((with_reducible refine gate_dst (N:=5) rfl ?_);refine box_event ?hg (N:=5) ?hd (cs:=#[.int .i64 a1_0,.slice A1_1 l1_1.length c1_1]) (t:=31) ?hr ?_;(case hd=>rfl);(case hg=>rfl);(case hr=>exact Yd);intro gb284 hg w44 hbox hb;have BK284:=Aside0.mk (hbox);have GW284:=Aside0.mk ((hZ:w.heap.size ≤ gb284));have GE284:=Aside0.mk ((hZ:w.heap.size ≤ gb284));replace HB:=Aside0.mk (below_step bH hb);have NB283_284:=Aside0.mk ((nL BK283:gb283 ≠ gb284));have NB284_283:=Aside0.mk ((nG BK283:gb284 ≠ gb283));replace BK283:=Aside0.mk (blk_below (bB BK283) hb);clear hb hbox hg;have hnb45:=NB283_284.out;have hnc45:=NB284_283.out;have hcz46_0:w44.cell? ⟨gb283,0,none⟩ = some (.slice A0_0 l0_0.length c0_0):=(blk_cell BK283.out 0).trans rfl;have hfz46_0:=blk_frozen BK283.out 0;have hcz47_0:w44.cell? ⟨gb284,0,none⟩ = some (.int .i64 a1_0):=(blk_cell BK284.out 0).trans rfl;have hcz47_1:w44.cell? ⟨gb284,1,none⟩ = some (.slice A1_1 l1_1.length c1_1):=(blk_cell BK284.out 1).trans rfl;have hfz47_0:=blk_frozen BK284.out 0;have hfz47_1:=blk_frozen BK284.out 1)|((with_reducible refine gate_callee (f:=16) rfl ?_);refine goesL_ (some 12) rfl rfl Try.func16 (by kernel_rfl) rfl #[.agg #[.slice A0_0 l0_0.length c0_0],.agg #[.int .i64 a1_0,.slice A1_1 l1_1.length c1_1]] rfl Ya ?_;(with_reducible refine (impl_GoodWorld.calls k _ _ l0_0 a1_0 _ _ l1_1 false _ ?side1 ?side2 ?side3 ?side4 A5.out).mono ?_);(case side1=>exact Yv);(case side2=>exact Yu);(case side3=>exact YN);(case side4=>exact YK);rintro e w48 ⟨rfl,hb⟩;refine ⟨_,rfl,?_⟩;replace BK283:=Aside0.mk (blk_below (bB BK283) hb);replace BK284:=Aside0.mk (blk_below (bB BK284) hb);replace HB:=Aside0.mk (below_step bH hb);(try clear hb);(try clear hb2);(try clear hk);(try clear hi)))
  go_ret2
  exact ⟨Yb,bH⟩

/-! ### spec_l5Long: function 81 -/
def spec_l5Long.l0:Nat → Int → Int → Int → Option (Int)
 | 0,_,_,_=>none
 | k + 1,x0,x1,x5=>if x1 > 0 then (spec_l5Long.l0 k x0 (wrap64 (x1 - 1)) (wrap64 (x5 * x0))) else (some x5)
def spec_l5Long.f (k:Nat) (a0:Int) (a1:Int):Option (Int):=spec_l5Long.l0 k a0 a1 1
theorem spec_l5Long.mono_l:∀ k,(∀ y0 y1 y2,LeO (spec_l5Long.l0 k y0 y1 y2) (spec_l5Long.l0 (k + 1) y0 y1 y2))
 | 0=>fun _ _ _ r h=>by simp [spec_l5Long.l0] at h
 | k + 1=>by
  have ih0:=spec_l5Long.mono_l k
  ·intro y0 y1 y2
   unfold spec_l5Long.l0
   exact mO
theorem spec_l5Long.mono:∀ a0 a1 k,LeO (spec_l5Long.f k a0 a1) (spec_l5Long.f (k + 1) a0 a1):=by
 intro a0 a1 k
 have ih0:=spec_l5Long.mono_l k
 unfold spec_l5Long.f
 exact mO
set_option maxHeartbeats 8000000 in
set_option maxRecDepth 100000 in
theorem spec_l5Long.calls (k:Nat) (a0:Int) (a1:Int) (r:Int) (w:World) (h:spec_l5Long.f k a0 a1 = some r) :
  Calls Try.prog 81 #[.int .i64 a0,.int .i64 a1] w fun e w'=>e = .returned (.int .i64 r) ∧ Drawn0 w w':=by
 have H:(spec_l5Long.l0 k a0 a1 1) = some r:=h
 clear h
 have H':=Aside0.mk H
 clear H
 go_enter Try.func81,Try.ntmps81
 go_wp2
 go_loopg [1,5] k (fun kq v1 v5 w'=>∃ (x1_1:Int) (x5_1:Int),v1 = .int .i64 x1_1 ∧ v5 = .int .i64 x5_1 ∧ Aside0 (spec_l5Long.l0 kq a0 x1_1 x5_1 = some r) ∧ Aside0 (kq ≤ k) ∧ Drawn0 w w')
 case atStart=>exact ⟨(a1),(1),Ye,Ye,H',⟨Nat.le_refl _⟩,Yk⟩
 case round =>
  clear H'
  try clear p2
  obtain ⟨x1_1,x5_1,rfl,rfl,HA,HK1,⟨m1,rfl⟩⟩:=hrel
  cases gk with
  | zero=>exact absurd HA.out (by simp [spec_l5Long.l0])
  | succ k1 =>
   have H:=HA.out
   clear HA
   simp only [spec_l5Long.l0] at H
   by_cases c3:x1_1 > 0
   ·rw [if_pos c3] at H
    have c3b0:decide (0 < x1_1) = true:=decide_eq_true c3
    clear c3
    have H':=Aside0.mk H
    clear H
    go_wp2
    go_roundg k1
    case measure=>have:=HK1.out;omega
    case rel=>exact ⟨(wrap64 (x1_1 - 1)),(wrap64 (x5_1 * a0)),Ye,Ye,H',⟨Ze⟩,Yk⟩
   ·rw [if_neg c3] at H
    have c3b0:decide (0 < x1_1) = false:=decide_eq_false c3
    clear c3
    obtain rfl:=Option.some.inj H
    go_wp2
    go_ret
    exact ⟨Ye,Yk⟩

/-! ### spec_l1Cur_world: function 44 -/
mutual
def spec_l1Cur_world.l0:Nat → List Int → Int → Int → List Int → Int → Int → Int → List (List Int) → Option (Int × (List (List Int)) × Int × Int)
 | 0,_,_,_,_,_,_,_,_=>none
 | k + 1,x15,x16,x17,x1000,x1001,x1002,x295000,x295001=>if x17 < x16 then (if 0 ≤ x17 then (if x17 < (x15.length:Int) then ((spec_l5Long.f k x295000 (rd x15 x17)).bind fun t296=>(spec_l1Cur_world.l1 k ([]:List Int) t296 x15 x16 x17 x1000 x1001 x1002 x295000 x295001)) else (none)) else (none)) else ((spec_l1Cur_pick.f x1000 x1001 x1002 40).bind fun bt306=>(if bt306.1 = 0 then (some (wrap64 (x295000 + 1),x295001,bt306.2.1,bt306.2.2)) else (if bt306.1 = 1 then (some (x295000,([]:List (List Int)),bt306.2.1,bt306.2.2)) else (some (x295000,x295001,bt306.2.1,bt306.2.2)))))
def spec_l1Cur_world.l1:Nat → List Int → Int → List Int → Int → Int → List Int → Int → Int → Int → List (List Int) → Option (Int × (List (List Int)) × Int × Int)
 | 0,_,_,_,_,_,_,_,_,_,_=>none
 | k + 1,x8,x9,x15,x16,x17,x1000,x1001,x1002,x295000,x295001=>if x9 > 0 then ((spec_l1Cur_pick.f x1000 x1001 x1002 x295000).bind fun bt297=>(if x8.length < 17592186044416 then (spec_l1Cur_world.l1 k (x8 ++ [bt297.1]) (wrap64 (x9 - 1)) x15 x16 x17 x1000 bt297.2.1 bt297.2.2 x295000 x295001) else (none))) else (if x295001.length < 5864062014805 then (spec_l1Cur_world.l0 k x15 x16 (wrap64 (x17 + 1)) x1000 x1001 x1002 x295000 (x295001 ++ [x8])) else (none))
end
def spec_l1Cur_world.f (k:Nat) (s0_0:List Int) (s0_1:Int) (s0_2:Int) (l1_0:List Int):Option (Int × (List (List Int)) × Int × Int):=(spec_l1Cur_pick.f s0_0 s0_1 s0_2 3).bind fun bt291=>(spec_l1Cur_world.l0 k l1_0 (l1_0.length:Int) 0 s0_0 bt291.2.1 bt291.2.2 (wrap64 (1 + bt291.1)) ([]:List (List Int)))
theorem spec_l1Cur_world.mono_l:∀ k,(∀ y0 y1 y2 y3 y4 y5 y6 y7,LeO (spec_l1Cur_world.l0 k y0 y1 y2 y3 y4 y5 y6 y7) (spec_l1Cur_world.l0 (k + 1) y0 y1 y2 y3 y4 y5 y6 y7)) ∧ (∀ y0 y1 y2 y3 y4 y5 y6 y7 y8 y9,LeO (spec_l1Cur_world.l1 k y0 y1 y2 y3 y4 y5 y6 y7 y8 y9) (spec_l1Cur_world.l1 (k + 1) y0 y1 y2 y3 y4 y5 y6 y7 y8 y9))
 | 0=>⟨fun _ _ _ _ _ _ _ _ r h=>by simp [spec_l1Cur_world.l0] at h,fun _ _ _ _ _ _ _ _ _ _ r h=>by simp [spec_l1Cur_world.l1] at h⟩
 | k + 1=>by
  obtain ⟨ih0,ih1⟩:=spec_l1Cur_world.mono_l k
  refine ⟨?_,?_⟩
  ·intro y0 y1 y2 y3 y4 y5 y6 y7
   unfold spec_l1Cur_world.l0
   have m0:=@spec_l5Long.mono
   exact mO
  ·intro y0 y1 y2 y3 y4 y5 y6 y7 y8 y9
   unfold spec_l1Cur_world.l1
   have m0:=@spec_l5Long.mono
   exact mO
theorem spec_l1Cur_world.mono:∀ a0 a1 a2 a3 k,LeO (spec_l1Cur_world.f k a0 a1 a2 a3) (spec_l1Cur_world.f (k + 1) a0 a1 a2 a3):=by
 intro a0 a1 a2 a3 k
 obtain ⟨ih0,ih1⟩:=spec_l1Cur_world.mono_l k
 unfold spec_l1Cur_world.f
 have m0:=@spec_l5Long.mono
 exact mO
set_option maxHeartbeats 8000000 in
set_option maxRecDepth 100000 in
theorem spec_l1Cur_world.calls (k:Nat) (g:Nat) (s0_0:List Int) (s0_1:Int) (s0_2:Int) (A1_0:Option Addr) (c1_0:Nat) (l1_0:List Int) (r1:Int) (r2:List (List Int)) (r3:Int) (r4:Int) (w0 w:World) (hI:IsS60 w0 w g s0_0 s0_1 s0_2) (hB:Below w0.heap.size w0 w) (hr1_0:Kd.C (Kd.int .i64) w A1_0 l1_0.length l1_0) (hc1_0:l1_0.length ≤ c1_0) (hf1_0:∀ ad,A1_0 = some ad → 0 < l1_0.length → ad.block ≠ g) (h:spec_l1Cur_world.f k s0_0 s0_1 s0_2 l1_0 = some (r1,r2,r3,r4)) :
  Calls Try.prog 44 #[.pointer (some ⟨g,0,none⟩),.agg #[.slice A1_0 l1_0.length c1_0]] w fun e w'=>∃ v1_:Value,e = .returned (.agg #[.int .i64 r1,v1_]) ∧ Kd.S (Kd.slice 3 (Kd.int .i64)) 24 w' w.heap.size (fun _=>True) v1_ r2 ∧ IsS60 w0 w' g s0_0 r3 r4 ∧ Below w0.heap.size w0 w' ∧ KeepBut w w' g none:=by
 have hu26:=Try.underlying26
 have hu31:=Try.underlying31
 have HR1_0:=Aside0.mk hr1_0
 have HC1_0:=Aside0.mk hc1_0
 clear hr1_0 hc1_0
 have HI0:=Aside0.mk hI
 have HK:=Aside0.mk (KeepBut.refl w g none)
 have HL:=Aside0.mk hB.size
 clear hI
 have HW0:=Aside0.mk hB.size
 have HB:=Aside0.mk hB
 clear hB
 have H:((spec_l1Cur_pick.f s0_0 s0_1 s0_2 3).bind fun bt291=>(spec_l1Cur_world.l0 k l1_0 (l1_0.length:Int) 0 s0_0 bt291.2.1 bt291.2.2 (wrap64 (1 + bt291.1)) ([]:List (List Int)))) = some (r1,r2,r3,r4):=h
 clear h
 replace H:=Option.bind_eq_some_iff.mp H
 obtain ⟨⟨t291,t292,t293⟩,A30,H⟩:=H
 replace H:(spec_l1Cur_world.l0 k l1_0 (l1_0.length:Int) 0 s0_0 t292 t293 (wrap64 (1 + t291)) ([]:List (List Int))) = some (r1,r2,r3,r4):=H
 have A3:=Aside0.mk A30
 clear A30
 have H':=Aside0.mk H
 clear H
 go_enter Try.func44,Try.ntmps44
 go_wp2_with (first|((with_reducible refine gate_dst (N:=3) rfl ?_);refine box_event ?hg (N:=3) ?hd (cs:=#[.slice A1_0 l1_0.length c1_0]) (t:=26) ?hr ?_;(case hd=>rfl);(case hg=>rfl);(case hr=>exact Yd);intro gb289 hg w4 hbox hb;replace HB:=Aside0.mk (below_step bH hb);have BK289:=Aside0.mk (hbox);have GW289:=Aside0.mk ((by rw [hg];exact (keep_size (w:=w) (g:=g) (row:=none) kB):w.heap.size ≤ gb289));have GE289:=Aside0.mk ((Nat.le_trans HW0.out (by rw [hg];exact (keep_size (w:=w) (g:=g) (row:=none) kB):w.heap.size ≤ gb289):w0.heap.size ≤ gb289));replace HK:=Aside0.mk (KeepBut.trans kB (KeepBut.of_below hb g none) (.inl rfl));have NB0_289:=Aside0.mk ((by rw [hg];exact Nat.ne_of_lt (IsS60.lt (show IsS60 w0 _ g s0_0 s0_1 s0_2 from iIsS60)):g ≠ gb289));have NB289_0:=Aside0.mk ((by rw [hg];exact Nat.ne_of_gt (IsS60.lt (show IsS60 w0 _ g s0_0 s0_1 s0_2 from iIsS60)):gb289 ≠ g));replace HI0:=Aside0.mk (IsS60.below iIsS60 hb);clear hb hbox hg)|((with_reducible refine gate_dst (N:=4) rfl ?_);refine box_event ?hg (N:=4) ?hd (cs:=#[.int .i64 0,.slice none 0 0]) (t:=31) ?hr ?_;(case hd=>rfl);(case hg=>rfl);(case hr=>exact Yd);intro gb290 hg w5 hbox hb;replace HB:=Aside0.mk (below_step bH hb);have BK290:=Aside0.mk (hbox);have GW290:=Aside0.mk ((by rw [hg];exact (keep_size (w:=w) (g:=g) (row:=none) kB):w.heap.size ≤ gb290));have GE290:=Aside0.mk ((Nat.le_trans HW0.out (by rw [hg];exact (keep_size (w:=w) (g:=g) (row:=none) kB):w.heap.size ≤ gb290):w0.heap.size ≤ gb290));replace HK:=Aside0.mk (KeepBut.trans kB (KeepBut.of_below hb g none) (.inl rfl));have NB289_290:=Aside0.mk ((nL BK289:gb289 ≠ gb290));have NB290_289:=Aside0.mk ((nG BK289:gb290 ≠ gb289));replace BK289:=Aside0.mk (blk_below (bB BK289) hb);have NB0_290:=Aside0.mk ((by rw [hg];exact Nat.ne_of_lt (IsS60.lt (show IsS60 w0 _ g s0_0 s0_1 s0_2 from iIsS60)):g ≠ gb290));have NB290_0:=Aside0.mk ((by rw [hg];exact Nat.ne_of_gt (IsS60.lt (show IsS60 w0 _ g s0_0 s0_1 s0_2 from iIsS60)):gb290 ≠ g));replace HI0:=Aside0.mk (IsS60.below iIsS60 hb);clear hb hbox hg)|((with_reducible refine gate_callee (f:=73) rfl ?_);refine goesL_ (some 11) rfl rfl Try.func73 (by kernel_rfl) rfl #[.pointer (some ⟨g,0,none⟩),.int .i64 3] rfl Ya ?_;(with_reducible refine (spec_l1Cur_pick.calls g s0_0 s0_1 s0_2 3 t291 t292 t293 w0 _ ?side1 ?side2 A3.out).mono ?_);(case side1=>exact iIsS60);(case side2=>exact bH);rintro e w6 ⟨rfl,hi,hb,hk⟩;refine ⟨_,rfl,?_⟩;replace BK289:=Aside0.mk (KeepBut.blk hk (g':=gb289) (o:=.cells #[.slice A1_0 l1_0.length c1_0] 26 (0,0)) (bB BK289) NB289_0.out (by simp));replace BK290:=Aside0.mk (KeepBut.blk hk (g':=gb290) (o:=.cells #[.int .i64 0,.slice none 0 0] 31 (0,0)) (bB BK290) NB290_0.out (by simp));replace HK:=Aside0.mk (KeepBut.trans kB hk (.inl rfl));replace HB:=Aside0.mk (hb);replace HI0:=Aside0.mk (hi);(try clear hb);(try clear hb2);(try clear hk);(try clear hi))|((with_reducible refine gate_dst (N:=5) rfl ?_);refine box_event ?hg (N:=5) ?hd (cs:=#[.int .i64 0,.slice none 0 0]) (t:=31) ?hr ?_;(case hd=>rfl);(case hg=>rfl);(case hr=>exact Yd);intro gb294 hg w7 hbox hb;replace HB:=Aside0.mk (below_step bH hb);have BK294:=Aside0.mk (hbox);have GW294:=Aside0.mk ((by rw [hg];exact (keep_size (w:=w) (g:=g) (row:=none) kB):w.heap.size ≤ gb294));have GE294:=Aside0.mk ((Nat.le_trans HW0.out (by rw [hg];exact (keep_size (w:=w) (g:=g) (row:=none) kB):w.heap.size ≤ gb294):w0.heap.size ≤ gb294));replace HK:=Aside0.mk (KeepBut.trans kB (KeepBut.of_below hb g none) (.inl rfl));have NB289_294:=Aside0.mk ((nL BK289:gb289 ≠ gb294));have NB294_289:=Aside0.mk ((nG BK289:gb294 ≠ gb289));replace BK289:=Aside0.mk (blk_below (bB BK289) hb);have NB290_294:=Aside0.mk ((nL BK290:gb290 ≠ gb294));have NB294_290:=Aside0.mk ((nG BK290:gb294 ≠ gb290));replace BK290:=Aside0.mk (blk_below (bB BK290) hb);have NB0_294:=Aside0.mk ((by rw [hg];exact Nat.ne_of_lt (IsS60.lt (show IsS60 w0 _ g s0_0 t292 t293 from iIsS60)):g ≠ gb294));have NB294_0:=Aside0.mk ((by rw [hg];exact Nat.ne_of_gt (IsS60.lt (show IsS60 w0 _ g s0_0 t292 t293 from iIsS60)):gb294 ≠ g));replace HI0:=Aside0.mk (IsS60.below iIsS60 hb);clear hb hbox hg;have hnb8:=NB294_289.out;have hnc8:=NB289_294.out;have hnb9:=NB294_290.out;have hnc9:=NB290_294.out;have hnb10:=NB294_0.out;have hnc10:=NB0_294.out;have hcz11_0:w7.cell? ⟨gb294,0,none⟩ = some (.int .i64 0):=(blk_cell BK294.out 0).trans rfl;have hcz11_1:w7.cell? ⟨gb294,1,none⟩ = some (.slice none 0 0):=(blk_cell BK294.out 1).trans rfl;have hfz11_0:=blk_frozen BK294.out 0;have hfz11_1:=blk_frozen BK294.out 1;have hnb12:=NB289_290.out;have hnc12:=NB290_289.out;have hnb13:=NB289_0.out;have hnc13:=NB0_289.out;have hcz14_0:w7.cell? ⟨gb289,0,none⟩ = some (.slice A1_0 l1_0.length c1_0):=(blk_cell BK289.out 0).trans rfl;have hfz14_0:=blk_frozen BK289.out 0))
 go_loopg [17] k (fun kq v17 w'=>∃ (x17_1:Int) (x1001_1:Int) (x1002_1:Int) (x295001_1:List (List Int)) (u295001:Value),v17 = .int .i64 x17_1 ∧ Aside0 (spec_l1Cur_world.l0 kq l1_0 (l1_0.length:Int) x17_1 s0_0 x1001_1 x1002_1 (wrap64 (1 + t291)) x295001_1 = some (r1,r2,r3,r4)) ∧ Aside0 (kq ≤ k) ∧ Aside0 (Kd.S (Kd.slice 3 (Kd.int .i64)) 24 w' w.heap.size (fun _=>True) u295001 x295001_1) ∧ Aside0 (w'.heap[gb289]? = some (.cells #[(.slice A1_0 l1_0.length c1_0)] 26 (0,0))) ∧ Aside0 (w'.heap[gb290]? = some (.cells #[.int .i64 0,(.slice none 0 0)] 31 (0,0))) ∧ Aside0 (w'.heap[gb294]? = some (.cells #[.int .i64 (wrap64 (1 + t291)),u295001] 31 (0,0))) ∧ Aside0 (IsS60 w0 w' g s0_0 x1001_1 x1002_1) ∧ Aside0 (KeepBut w w' g none) ∧ Aside0 (Below w0.heap.size w0 w'))
 case atStart=>exact ⟨(0),(t292),(t293),(([]:List (List Int))),(.slice none 0 0),Ye,H',⟨Nat.le_refl _⟩,⟨YJ⟩,⟨by (with_reducible repeat (first|refine blk_drewN ?_ _|refine blk_drew ?_|refine blk_alloc ?_ _));refine blk_far ?_ NB289_294.out _;(with_reducible repeat (first|refine blk_drewN ?_ _|refine blk_drew ?_|refine blk_alloc ?_ _));refine blk_far ?_ NB289_294.out _;(with_reducible repeat (first|refine blk_drewN ?_ _|refine blk_drew ?_|refine blk_alloc ?_ _));exact BK289.out⟩,⟨by (with_reducible repeat (first|refine blk_drewN ?_ _|refine blk_drew ?_|refine blk_alloc ?_ _));refine blk_far ?_ NB290_294.out _;(with_reducible repeat (first|refine blk_drewN ?_ _|refine blk_drew ?_|refine blk_alloc ?_ _));refine blk_far ?_ NB290_294.out _;(with_reducible repeat (first|refine blk_drewN ?_ _|refine blk_drew ?_|refine blk_alloc ?_ _));exact BK290.out⟩,⟨by (with_reducible repeat (first|refine blk_drewN ?_ _|refine blk_drew ?_|refine blk_alloc ?_ _));refine blk_put (cs:=#[.int .i64 (wrap64 (1 + t291)),.slice none 0 0]) ?_ 1 _ rfl;(with_reducible repeat (first|refine blk_drewN ?_ _|refine blk_drew ?_|refine blk_alloc ?_ _));refine blk_put (cs:=#[.int .i64 0,.slice none 0 0]) ?_ 0 _ rfl;(with_reducible repeat (first|refine blk_drewN ?_ _|refine blk_drew ?_|refine blk_alloc ?_ _));exact BK294.out⟩,⟨iIsS60⟩,⟨kB⟩,⟨bH⟩⟩
 case round =>
  clear H'
  try clear c1
  try clear p2
  try clear c4
  try clear p6
  try clear c7
  try clear c8
  try clear c9
  try clear c10
  try clear c12
  try clear c13
  try clear hcz11_0
  try clear hcz11_1
  try clear hcz14_0
  try clear hfz11_0
  try clear hfz11_1
  try clear hfz14_0
  obtain ⟨x17_1,x1001_1,x1002_1,x295001_1,u295001,rfl,HA,HK1,HO_295001,BK289,BK290,BK294,HI0,HK,HB⟩:=hrel
  cases gk with
  | zero=>exact absurd HA.out (by simp [spec_l1Cur_world.l0])
  | succ k1 =>
   have H:=HA.out
   clear HA
   simp only [spec_l1Cur_world.l0] at H
   by_cases c15:x17_1 < (l1_0.length:Int)
   ·rw [if_pos c15] at H
    have c15b0:=decide_eq_true c15
    clear c15
    by_cases c16:0 ≤ x17_1
    ·rw [if_pos c16] at H
     have c16b0:=decide_eq_true c16
     clear c16
     by_cases c17:x17_1 < (l1_0.length:Int)
     ·rw [if_pos c17] at H
      have c17b0:=decide_eq_true c17
      clear c17
      replace H:=Option.bind_eq_some_iff.mp H
      obtain ⟨t296,A180,H⟩:=H
      replace H:(spec_l1Cur_world.l1 k1 ([]:List Int) t296 l1_0 (l1_0.length:Int) x17_1 s0_0 x1001_1 x1002_1 (wrap64 (1 + t291)) x295001_1) = some (r1,r2,r3,r4):=H
      have A18:=Aside0.mk A180
      clear A180
      have H':=Aside0.mk H
      clear H
      have p295:0 ≤ (x17_1:Int):=oD
      have q295:x17_1 < (l1_0.length:Int):=oD
      obtain ⟨ad295,e295,hx295_0⟩:=Kd.at_int HR1_0.out x17_1 p295 q295
      cases e295
      replace hx295_0:=keep_cell HK.out hx295_0 (by first|(rw [add_block];exact hf1_0 _ rfl (by omega))|exact hf1_0 _ rfl (by omega)|exact hf1_0 ad295 rfl (by omega))
      replace p295:=eq_true p295
      replace q295:=eq_true q295
      have hnb19:=NB294_289.out
      have hnc19:=NB289_294.out
      have hnb20:=NB294_290.out
      have hnc20:=NB290_294.out
      have hnb21:=NB294_0.out
      have hnc21:=NB0_294.out
      have hcz22_0:wr.cell? ⟨gb294,0,none⟩ = some (.int .i64 (wrap64 (1 + t291))):=(blk_cell BK294.out 0).trans rfl
      have hcz22_1:wr.cell? ⟨gb294,1,none⟩ = some (u295001):=(blk_cell BK294.out 1).trans rfl
      have hfz22_0:=blk_frozen BK294.out 0
      have hfz22_1:=blk_frozen BK294.out 1
      go_wp2_with (first|((with_reducible refine gate_callee (f:=81) rfl ?_);refine goesL_ (some 24) rfl rfl Try.func81 (by kernel_rfl) rfl #[.int .i64 (wrap64 (1 + t291)),.int .i64 (rd l1_0 x17_1)] rfl Ya ?_;(with_reducible refine (spec_l5Long.calls k1 (wrap64 (1 + t291)) (rd l1_0 x17_1) t296 _ A18.out).mono ?_);rintro e w' ⟨rfl,⟨nd,rfl⟩⟩;refine ⟨_,rfl,?_⟩))
      go_loopg [8,9] k1 (fun kq v8 v9 w'=>∃ (x8_2:List Int) (x9_2:Int) (x1001_2:Int) (x1002_2:Int),v9 = .int .i64 x9_2 ∧ Aside0 (spec_l1Cur_world.l1 kq x8_2 x9_2 l1_0 (l1_0.length:Int) x17_1 s0_0 x1001_2 x1002_2 (wrap64 (1 + t291)) x295001_1 = some (r1,r2,r3,r4)) ∧ Aside0 (kq ≤ k1) ∧ Aside0 (Kd.R (Kd.int .i64) 3 w' w.heap.size (fun _=>True) v8 x8_2) ∧ Aside0 (Kd.S (Kd.slice 3 (Kd.int .i64)) 24 w' w.heap.size (fun k_=>some k_ ≠ (v8:Value).ownBlock) u295001 x295001_1) ∧ Aside0 (w'.heap[gb289]? = some (.cells #[(.slice (some ad295) l1_0.length c1_0)] 26 (0,0))) ∧ Aside0 (w'.heap[gb290]? = some (.cells #[.int .i64 0,(.slice none 0 0)] 31 (0,0))) ∧ Aside0 (w'.heap[gb294]? = some (.cells #[.int .i64 (wrap64 (1 + t291)),u295001] 31 (0,0))) ∧ Aside0 (IsS60 w0 w' g s0_0 x1001_2 x1002_2) ∧ Aside0 (KeepBut w w' g none) ∧ Aside0 (Below w0.heap.size w0 w'))
      case atStart=>exact ⟨(([]:List Int)),(t296),(x1001_1),(x1002_1),Ye,H',⟨Nat.le_refl _⟩,⟨Yg⟩,⟨by (with_reducible repeat (first|apply Kd.S_alloc|apply Kd.S_drewN|apply Kd.S_drew));exact Kd.S_mono HO_295001.out (fun _ hk=>(by simp [Value.ownBlock]))⟩,⟨by (with_reducible repeat (first|refine blk_drewN ?_ _|refine blk_drew ?_|refine blk_alloc ?_ _));exact BK289.out⟩,⟨by (with_reducible repeat (first|refine blk_drewN ?_ _|refine blk_drew ?_|refine blk_alloc ?_ _));exact BK290.out⟩,⟨by (with_reducible repeat (first|refine blk_drewN ?_ _|refine blk_drew ?_|refine blk_alloc ?_ _));exact BK294.out⟩,⟨iIsS60⟩,⟨kB⟩,⟨bH⟩⟩
      case round =>
       clear H'
       try clear c1
       try clear c2
       try clear p2
       try clear q2
       try clear hx2
       try clear c4
       try clear p6
       try clear c7
       try clear c8
       try clear c9
       try clear c10
       try clear c12
       try clear c13
       try clear c15
       try clear c15b0
       try clear c16
       try clear c16b0
       try clear c17
       try clear c17b0
       try clear c19
       try clear c20
       try clear c21
       try clear hcz11_0
       try clear hcz11_1
       try clear hcz14_0
       try clear hcz22_0
       try clear hcz22_1
       try clear hfz11_0
       try clear hfz11_1
       try clear hfz14_0
       try clear hfz22_0
       try clear hfz22_1
       try clear hx295_0
       try clear p2
       try clear p295
       try clear p6
       try clear q295
       obtain ⟨x8_2,x9_2,x1001_2,x1002_2,rfl,HA,HK2,HO_8,HO_295001,BK289,BK290,BK294,HI0,HK,HB⟩:=hrel
       cases gk with
       | zero=>exact absurd HA.out (by simp [spec_l1Cur_world.l1])
       | succ k2 =>
        have H:=HA.out
        clear HA
        simp only [spec_l1Cur_world.l1] at H
        by_cases c23:x9_2 > 0
        ·rw [if_pos c23] at H
         have c23b0:decide (0 < x9_2) = true:=decide_eq_true c23
         clear c23
         replace H:=Option.bind_eq_some_iff.mp H
         obtain ⟨⟨t297,t298,t299⟩,A240,H⟩:=H
         replace H:(if x8_2.length < 17592186044416 then (spec_l1Cur_world.l1 k2 (x8_2 ++ [t297]) (wrap64 (x9_2 - 1)) l1_0 (l1_0.length:Int) x17_1 s0_0 t298 t299 (wrap64 (1 + t291)) x295001_1) else (none)) = some (r1,r2,r3,r4):=H
         have A24:=Aside0.mk A240
         clear A240
         by_cases c25:x8_2.length < 17592186044416
         ·rw [if_pos c25] at H
          have LMc25:=Aside0.mk c25
          clear c25
          obtain ⟨y300,hy300⟩:∃ y_:List Int,y_ = (x8_2 ++ [t297]):=⟨_,rfl⟩
          replace H:(spec_l1Cur_world.l1 k2 y300 (wrap64 (x9_2 - 1)) l1_0 (l1_0.length:Int) x17_1 s0_0 t298 t299 (wrap64 (1 + t291)) x295001_1) = some (r1,r2,r3,r4):=by first|(rw [hy300];with_reducible exact H)|(have H2_:=(Option.bind_some _ _).symm.trans H;rw [hy300];with_reducible exact H2_)|(have H2_:=(Option.bind_some _ _).symm.trans H;with_reducible exact H2_)|with_reducible exact H|(rw [hy300];exact H)|exact H
          have Ny300:=Aside0.mk hy300
          clear hy300
          have H':=Aside0.mk H
          clear H
          have hnb26:=NB294_289.out
          have hnc26:=NB289_294.out
          have hnb27:=NB294_290.out
          have hnc27:=NB290_294.out
          have hnb28:=NB294_0.out
          have hnc28:=NB0_294.out
          have hcz29_0:wr.cell? ⟨gb294,0,none⟩ = some (.int .i64 (wrap64 (1 + t291))):=(blk_cell BK294.out 0).trans rfl
          have hcz29_1:wr.cell? ⟨gb294,1,none⟩ = some (u295001):=(blk_cell BK294.out 1).trans rfl
          have hfz29_0:=blk_frozen BK294.out 0
          have hfz29_1:=blk_frozen BK294.out 1
          go_wp2_with (first|((with_reducible refine gate_callee (f:=73) rfl ?_);refine goesL_ (some 33) rfl rfl Try.func73 (by kernel_rfl) rfl #[.pointer (some ⟨g,0,none⟩),.int .i64 (wrap64 (1 + t291))] rfl Ya ?_;(with_reducible refine (spec_l1Cur_pick.calls g s0_0 x1001_2 x1002_2 (wrap64 (1 + t291)) t297 t298 t299 w0 _ ?side1 ?side2 A24.out).mono ?_);(case side1=>exact iIsS60);(case side2=>exact bH);rintro e w30 ⟨rfl,hi,hb,hk⟩;refine ⟨_,rfl,?_⟩;replace HO_8:=Aside0.mk (Kd.R_mono (Kd.R_keep (IsS60.apart (show IsS60 w0 _ g s0_0 x1001_2 x1002_2 from iIsS60) (rR HO_8) (by decide)) hk (fun _ h=>h.2)) (fun _ h=>h.1));replace HO_295001:=Aside0.mk (Kd.S_mono (Kd.S_keep (IsS60.apartS (show IsS60 w0 _ g s0_0 x1001_2 x1002_2 from iIsS60) (rS HO_295001) (by decide)) hk (fun _ h=>h.2)) (fun _ h=>h.1));replace BK289:=Aside0.mk (KeepBut.blk hk (g':=gb289) (o:=.cells #[.slice (some ad295) l1_0.length c1_0] 26 (0,0)) (bB BK289) NB289_0.out (by simp));replace BK290:=Aside0.mk (KeepBut.blk hk (g':=gb290) (o:=.cells #[.int .i64 0,.slice none 0 0] 31 (0,0)) (bB BK290) NB290_0.out (by simp));replace BK294:=Aside0.mk (KeepBut.blk hk (g':=gb294) (o:=.cells #[.int .i64 (wrap64 (1 + t291)),u295001] 31 (0,0)) (bB BK294) NB294_0.out (by simp));replace HK:=Aside0.mk (KeepBut.trans kB hk (.inl rfl));replace HB:=Aside0.mk (hb);replace HI0:=Aside0.mk (hi);(try clear hb);(try clear hb2);(try clear hk);(try clear hi))|((with_reducible refine gate_builtin (b:=.append) (xs:=#[.tmp 29,.tmp 34]) rfl ?_);at_builtin;refine Kd.R_append (Kd.int .i64) w.heap.size rfl (.tmp 29) (.tmp 34) 24 3 (.int .i64 0) 8 rfl Try.underlying24 info3 rfl (by decide) Zc u8 x8_2 t297 [.int .i64 t297] (fun _=>True) (fun _=>False) rfl rfl ?aP (fun _ hk=>hk.elim) ?aF ?aO (Below.refl _ _) ?aS ?aL ?_;(case aP=>exact rfl);(case aF=>exact YW);(case aO=>exact (rR HO_8));(case aS=>exact YO);(case aL=>have:=LMc25.out;omega);intro v301 w31 ho hb hg hat;rw [← Ny300.out] at ho;have n0_:=Aside0.mk (Kd.S_after (ok:=(fun _=>True)) (by (with_reducible repeat (first|apply Kd.S_alloc|apply Kd.S_drewN|apply Kd.S_drew));exact Kd.S_mono HO_295001.out (fun _ hk=>⟨trivial,hk⟩)) hg hat);have n1_:=Aside0.mk (blk_grown (bB BK289) hg (Kd.R_ne HO_8.out BK289.out (by decide)));have n2_:=Aside0.mk (blk_grown (bB BK290) hg (Kd.R_ne HO_8.out BK290.out (by decide)));have n3_:=Aside0.mk (blk_grown (bB BK294) hg (Kd.R_ne HO_8.out BK294.out (by decide)));have n4_:=Aside0.mk (IsS60.grown iIsS60 hg (IsS60.own_ne HI0.out HO_8.out (by decide)));have n5_:=Aside0.mk (below_weaken bH HL.out hb);have n6_:=Aside0.mk (KeepBut.trans kB (KeepBut.of_grown hg g) (Kd.R_base2 HO_8.out));have n7_:=Aside0.mk (ho);clear HO_295001;clear BK289;clear BK290;clear BK294;clear HI0;clear HB;clear HK;clear HO_8;have HO_295001:=n0_;have BK289:=n1_;have BK290:=n2_;have BK294:=n3_;have HI0:=n4_;have HB:=n5_;have HK:=n6_;have HO302:=n7_;clear n0_ n1_ n2_ n3_ n4_ n5_ n6_ n7_;clear ho hb hg hat))
          go_roundg k2
          case measure=>have:=HK1.out;have:=HK2.out;omega
          case rel=>exact ⟨(y300),(wrap64 (x9_2 - 1)),(t298),(t299),Ye,H',⟨by have:=HK1.out;have:=HK2.out;omega⟩,⟨rR HO302⟩,⟨by (with_reducible repeat (first|apply Kd.S_alloc|apply Kd.S_drewN|apply Kd.S_drew));exact Kd.S_mono HO_295001.out (fun _ hk=>hk.2)⟩,⟨by (with_reducible repeat (first|refine blk_drewN ?_ _|refine blk_drew ?_|refine blk_alloc ?_ _));exact BK289.out⟩,⟨by (with_reducible repeat (first|refine blk_drewN ?_ _|refine blk_drew ?_|refine blk_alloc ?_ _));exact BK290.out⟩,⟨by (with_reducible repeat (first|refine blk_drewN ?_ _|refine blk_drew ?_|refine blk_alloc ?_ _));exact BK294.out⟩,⟨iIsS60⟩,⟨kB⟩,⟨bH⟩⟩
         ·rw [if_neg c25] at H
          exact absurd H (by simp)
        ·rw [if_neg c23] at H
         have c23b0:decide (0 < x9_2) = false:=decide_eq_false c23
         clear c23
         by_cases c32:x295001_1.length < 5864062014805
         ·rw [if_pos c32] at H
          have LMc32:=Aside0.mk c32
          clear c32
          obtain ⟨y303,hy303⟩:∃ y_:List (List Int),y_ = (x295001_1 ++ [x8_2]):=⟨_,rfl⟩
          replace H:(spec_l1Cur_world.l0 k2 l1_0 (l1_0.length:Int) (wrap64 (x17_1 + 1)) s0_0 x1001_2 x1002_2 (wrap64 (1 + t291)) y303) = some (r1,r2,r3,r4):=by first|(rw [hy303];with_reducible exact H)|(have H2_:=(Option.bind_some _ _).symm.trans H;rw [hy303];with_reducible exact H2_)|(have H2_:=(Option.bind_some _ _).symm.trans H;with_reducible exact H2_)|with_reducible exact H|(rw [hy303];exact H)|exact H
          have Ny303:=Aside0.mk hy303
          clear hy303
          have H':=Aside0.mk H
          clear H
          have hnb33:=NB294_289.out
          have hnc33:=NB289_294.out
          have hnb34:=NB294_290.out
          have hnc34:=NB290_294.out
          have hnb35:=NB294_0.out
          have hnc35:=NB0_294.out
          have hcz36_0:wr.cell? ⟨gb294,0,none⟩ = some (.int .i64 (wrap64 (1 + t291))):=(blk_cell BK294.out 0).trans rfl
          have hcz36_1:wr.cell? ⟨gb294,1,none⟩ = some (u295001):=(blk_cell BK294.out 1).trans rfl
          have hfz36_0:=blk_frozen BK294.out 0
          have hfz36_1:=blk_frozen BK294.out 1
          obtain ⟨Ao38,co38,eo38⟩:=Kd.R_slice HO_8.out
          subst eo38
          go_wp2_with (first|((with_reducible refine gate_builtin (b:=.append) (xs:=#[.tmp 37,.tmp 39]) rfl ?_);at_builtin;refine Kd.S_append (Kd.slice 3 (Kd.int .i64)) w.heap.size rfl (.tmp 37) (.tmp 39) 27 24 (.slice none 0 0) 24 rfl Try.underlying27 info24 rfl (by decide) Zc u295001 x295001_1 x8_2 [.slice Ao38 x8_2.length co38] (fun _=>True) (fun k_=>some k_ = (.slice Ao38 x8_2.length co38:Value).ownBlock) rfl rfl ?aP (fun k_ hk_=>((Kd.R_mono (ok':=fun k_=>((fun _=>True)) k_ ∧ some k_ ≠ (u295001:Value).ownBlock) (Kd.R_apart' (HO_8.out) (Kd.S_typed HO_295001.out) (by decide)) (fun k_ hk=>⟨trivial,hk.2⟩))).1 k_ hk_.symm) ?aF ?aO (Below.refl _ _) ?aS ?aL ?_;(case aP=>exact Kd.M_row (Kd.R_mono (Kd.R_tight rfl (Kd.R_mono (ok':=fun k_=>((fun _=>True)) k_ ∧ some k_ ≠ (u295001:Value).ownBlock) (Kd.R_apart' (HO_8.out) (Kd.S_typed HO_295001.out) (by decide)) (fun k_ hk=>⟨trivial,hk.2⟩))) (fun _ h_=>h_)));(case aF=>exact YW);(case aO=>exact (by (with_reducible repeat (first|apply Kd.S_alloc|apply Kd.S_drewN|apply Kd.S_drew));exact Kd.S_mono HO_295001.out (fun k_ hk=>⟨trivial,fun e_=>hk e_⟩)));(case aS=>exact YO);(case aL=>have:=LMc32.out;omega);intro v304 w37 ho hb hg hat;rw [← Ny303.out] at ho;have n0_:=Aside0.mk (blk_grown (bB BK289) hg (Kd.S_ne HO_295001.out BK289.out (by decide)));have n1_:=Aside0.mk (blk_grown (bB BK290) hg (Kd.S_ne HO_295001.out BK290.out (by decide)));have n2_:=Aside0.mk (blk_grown (bB BK294) hg (Kd.S_ne HO_295001.out BK294.out (by decide)));have n3_:=Aside0.mk (IsS60.grown iIsS60 hg (IsS60.own_neS HI0.out HO_295001.out (by decide)));have n4_:=Aside0.mk (below_weaken bH HL.out hb);have n5_:=Aside0.mk (KeepBut.trans kB (KeepBut.of_grown hg g) (Kd.S_base2 HO_295001.out));have n6_:=Aside0.mk (ho);clear BK289;clear BK290;clear BK294;clear HI0;clear HB;clear HK;clear HO_295001;clear HO_8;have BK289:=n0_;have BK290:=n1_;have BK294:=n2_;have HI0:=n3_;have HB:=n4_;have HK:=n5_;have HO305:=n6_;clear n0_ n1_ n2_ n3_ n4_ n5_ n6_;clear ho hb hg hat;obtain ⟨Ao39,co39,eo39⟩:=Kd.S_slice HO305.out;subst eo39;have hcz40_0:w37.cell? ⟨gb294,0,none⟩ = some (.int .i64 (wrap64 (1 + t291))):=(blk_cell BK294.out 0).trans rfl;have hcz40_1:w37.cell? ⟨gb294,1,none⟩ = some (u295001):=(blk_cell BK294.out 1).trans rfl;have hfz40_0:=blk_frozen BK294.out 0;have hfz40_1:=blk_frozen BK294.out 1))
          go_roundg k2
          case measure=>have:=HK1.out;have:=HK2.out;omega
          case rel=>exact ⟨(wrap64 (x17_1 + 1)),(x1001_2),(x1002_2),(y303),(.slice Ao39 y303.length co39),Ye,H',⟨by have:=HK1.out;have:=HK2.out;omega⟩,⟨by (with_reducible repeat (first|apply Kd.S_alloc|apply Kd.S_drewN|apply Kd.S_drew));exact Kd.S_mono (Kd.S_far (p:=⟨gb294,1,none⟩) (Kd.S_types HO305.out BK294.out (by decide)) (fun _ hk=>hk.2) (.slice Ao39 y303.length co39)) (fun _ hk=>trivial)⟩,⟨by (with_reducible repeat (first|refine blk_drewN ?_ _|refine blk_drew ?_|refine blk_alloc ?_ _));refine blk_far ?_ NB289_294.out _;(with_reducible repeat (first|refine blk_drewN ?_ _|refine blk_drew ?_|refine blk_alloc ?_ _));exact BK289.out⟩,⟨by (with_reducible repeat (first|refine blk_drewN ?_ _|refine blk_drew ?_|refine blk_alloc ?_ _));refine blk_far ?_ NB290_294.out _;(with_reducible repeat (first|refine blk_drewN ?_ _|refine blk_drew ?_|refine blk_alloc ?_ _));exact BK290.out⟩,⟨by (with_reducible repeat (first|refine blk_drewN ?_ _|refine blk_drew ?_|refine blk_alloc ?_ _));refine blk_put (cs:=#[.int .i64 (wrap64 (1 + t291)),u295001]) ?_ 1 _ rfl;(with_reducible repeat (first|refine blk_drewN ?_ _|refine blk_drew ?_|refine blk_alloc ?_ _));exact BK294.out⟩,⟨iIsS60⟩,⟨kB⟩,⟨bH⟩⟩
         ·rw [if_neg c32] at H
          exact absurd H (by simp)
     ·rw [if_neg c17] at H
      exact absurd H (by simp)
    ·rw [if_neg c16] at H
     exact absurd H (by simp)
   ·rw [if_neg c15] at H
    have c15b0:decide (x17_1 < (l1_0.length:Int)) = false:=decide_eq_false c15
    clear c15
    replace H:=Option.bind_eq_some_iff.mp H
    obtain ⟨⟨t306,t307,t308⟩,A410,H⟩:=H
    replace H:(if t306 = 0 then (some (wrap64 ((wrap64 (1 + t291)) + 1),x295001_1,t307,t308)) else (if t306 = 1 then (some ((wrap64 (1 + t291)),([]:List (List Int)),t307,t308)) else (some ((wrap64 (1 + t291)),x295001_1,t307,t308)))) = some (r1,r2,r3,r4):=H
    have A41:=Aside0.mk A410
    clear A410
    by_cases c42:t306 = 0
    ·rw [if_pos c42] at H
     have c42b0:(t306 == 0) = true:=beq_iff_eq.mpr c42
     have c42b1:(t306 != 0) = false:=bne_eq_false_iff_eq.mpr c42
     clear c42
     simp only [Option.some.injEq,Prod.mk.injEq] at H
     obtain ⟨rfl,rfl,rfl,rfl⟩:=H
     go_wp2_with (first|((with_reducible refine gate_callee (f:=73) rfl ?_);refine goesL_ (some 44) rfl rfl Try.func73 (by kernel_rfl) rfl #[.pointer (some ⟨g,0,none⟩),.int .i64 40] rfl Ya ?_;(with_reducible refine (spec_l1Cur_pick.calls g s0_0 x1001_1 x1002_1 40 t306 t307 t308 w0 _ ?side1 ?side2 A41.out).mono ?_);(case side1=>exact iIsS60);(case side2=>exact bH);rintro e w43 ⟨rfl,hi,hb,hk⟩;refine ⟨_,rfl,?_⟩;replace HO_295001:=Aside0.mk (Kd.S_mono (Kd.S_keep (IsS60.apartS (show IsS60 w0 _ g s0_0 x1001_1 x1002_1 from iIsS60) (rS HO_295001) (by decide)) hk (fun _ h=>h.2)) (fun _ h=>h.1));replace BK289:=Aside0.mk (KeepBut.blk hk (g':=gb289) (o:=.cells #[.slice A1_0 l1_0.length c1_0] 26 (0,0)) (bB BK289) NB289_0.out (by simp));replace BK290:=Aside0.mk (KeepBut.blk hk (g':=gb290) (o:=.cells #[.int .i64 0,.slice none 0 0] 31 (0,0)) (bB BK290) NB290_0.out (by simp));replace BK294:=Aside0.mk (KeepBut.blk hk (g':=gb294) (o:=.cells #[.int .i64 (wrap64 (1 + t291)),u295001] 31 (0,0)) (bB BK294) NB294_0.out (by simp));replace HK:=Aside0.mk (KeepBut.trans kB hk (.inl rfl));replace HB:=Aside0.mk (hb);replace HI0:=Aside0.mk (hi);(try clear hb);(try clear hb2);(try clear hk);(try clear hi);have hnb44:=NB294_289.out;have hnc44:=NB289_294.out;have hnb45:=NB294_290.out;have hnc45:=NB290_294.out;have hnb46:=NB294_0.out;have hnc46:=NB0_294.out;have hcz47_0:w43.cell? ⟨gb294,0,none⟩ = some (.int .i64 (wrap64 (1 + t291))):=(blk_cell BK294.out 0).trans rfl;have hcz47_1:w43.cell? ⟨gb294,1,none⟩ = some (u295001):=(blk_cell BK294.out 1).trans rfl;have hfz47_0:=blk_frozen BK294.out 0;have hfz47_1:=blk_frozen BK294.out 1;have hnb48:=NB290_289.out;have hnc48:=NB289_290.out;have hnb49:=NB290_0.out;have hnc49:=NB0_290.out;have hcz50_0:w43.cell? ⟨gb290,0,none⟩ = some (.int .i64 0):=(blk_cell BK290.out 0).trans rfl;have hcz50_1:w43.cell? ⟨gb290,1,none⟩ = some (.slice none 0 0):=(blk_cell BK290.out 1).trans rfl;have hfz50_0:=blk_frozen BK290.out 0;have hfz50_1:=blk_frozen BK290.out 1;obtain ⟨Ao51,co51,eo51⟩:=Kd.S_slice HO_295001.out;subst eo51))
     refine bodyPost_ret (results_cell_row rfl _ _ gb290 31 #[.int .i64 (wrap64 ((wrap64 (1 + t291)) + 1)),.slice Ao51 x295001_1.length co51] (0,0) _ rfl (by (with_reducible repeat (first|refine blk_drewN ?_ _|refine blk_drew ?_|refine blk_alloc ?_ _));refine blk_put (cs:=#[.int .i64 (wrap64 ((wrap64 (1 + t291)) + 1)),.slice none 0 0]) ?_ 1 _ rfl;(with_reducible repeat (first|refine blk_drewN ?_ _|refine blk_drew ?_|refine blk_alloc ?_ _));refine blk_put (cs:=#[.int .i64 0,.slice none 0 0]) ?_ 0 _ rfl;(with_reducible repeat (first|refine blk_drewN ?_ _|refine blk_drew ?_|refine blk_alloc ?_ _));refine blk_far ?_ NB290_294.out _;(with_reducible repeat (first|refine blk_drewN ?_ _|refine blk_drew ?_|refine blk_alloc ?_ _));exact BK290.out) Try.underlying31 rfl (by kernel_rfl)) rfl ?_
     exact ⟨_,Yb,by (with_reducible repeat (first|apply Kd.S_alloc|apply Kd.S_drewN|apply Kd.S_drew));exact Kd.S_mono (Kd.S_far (p:=⟨gb290,1,none⟩) (Kd.S_far (p:=⟨gb290,0,none⟩) (Kd.S_far (p:=⟨gb294,0,none⟩) (Kd.S_types (Kd.S_types HO_295001.out BK294.out (by decide)) BK290.out (by decide)) (fun _ hk=>hk.1.2) (.int .i64 (wrap64 ((wrap64 (1 + t291)) + 1)))) (fun _ hk=>hk.2) (.int .i64 (wrap64 ((wrap64 (1 + t291)) + 1)))) (fun _ hk=>hk.2) (.slice Ao51 x295001_1.length co51)) (fun _ hk=>trivial),iIsS60,bH,kB⟩
    ·rw [if_neg c42] at H
     have c42b0:(t306 == 0) = false:=beq_eq_false_iff_ne.mpr c42
     have c42b1:(t306 != 0) = true:=bne_iff_ne.mpr c42
     by_cases c52:t306 = 1
     ·rw [if_pos c52] at H
      have c52b0:(t306 == 1) = true:=beq_iff_eq.mpr c52
      have c52b1:(t306 != 1) = false:=bne_eq_false_iff_eq.mpr c52
      clear c52
      simp only [Option.some.injEq,Prod.mk.injEq] at H
      obtain ⟨rfl,rfl,rfl,rfl⟩:=H
      go_wp2_with (first|((with_reducible refine gate_callee (f:=73) rfl ?_);refine goesL_ (some 44) rfl rfl Try.func73 (by kernel_rfl) rfl #[.pointer (some ⟨g,0,none⟩),.int .i64 40] rfl Ya ?_;(with_reducible refine (spec_l1Cur_pick.calls g s0_0 x1001_1 x1002_1 40 t306 t307 t308 w0 _ ?side1 ?side2 A41.out).mono ?_);(case side1=>exact iIsS60);(case side2=>exact bH);rintro e w53 ⟨rfl,hi,hb,hk⟩;refine ⟨_,rfl,?_⟩;replace HO_295001:=Aside0.mk (Kd.S_mono (Kd.S_keep (IsS60.apartS (show IsS60 w0 _ g s0_0 x1001_1 x1002_1 from iIsS60) (rS HO_295001) (by decide)) hk (fun _ h=>h.2)) (fun _ h=>h.1));replace BK289:=Aside0.mk (KeepBut.blk hk (g':=gb289) (o:=.cells #[.slice A1_0 l1_0.length c1_0] 26 (0,0)) (bB BK289) NB289_0.out (by simp));replace BK290:=Aside0.mk (KeepBut.blk hk (g':=gb290) (o:=.cells #[.int .i64 0,.slice none 0 0] 31 (0,0)) (bB BK290) NB290_0.out (by simp));replace BK294:=Aside0.mk (KeepBut.blk hk (g':=gb294) (o:=.cells #[.int .i64 (wrap64 (1 + t291)),u295001] 31 (0,0)) (bB BK294) NB294_0.out (by simp));replace HK:=Aside0.mk (KeepBut.trans kB hk (.inl rfl));replace HB:=Aside0.mk (hb);replace HI0:=Aside0.mk (hi);(try clear hb);(try clear hb2);(try clear hk);(try clear hi);have hnb54:=NB294_289.out;have hnc54:=NB289_294.out;have hnb55:=NB294_290.out;have hnc55:=NB290_294.out;have hnb56:=NB294_0.out;have hnc56:=NB0_294.out;have hcz57_0:w53.cell? ⟨gb294,0,none⟩ = some (.int .i64 (wrap64 (1 + t291))):=(blk_cell BK294.out 0).trans rfl;have hcz57_1:w53.cell? ⟨gb294,1,none⟩ = some (u295001):=(blk_cell BK294.out 1).trans rfl;have hfz57_0:=blk_frozen BK294.out 0;have hfz57_1:=blk_frozen BK294.out 1;have hnb58:=NB290_289.out;have hnc58:=NB289_290.out;have hnb59:=NB290_0.out;have hnc59:=NB0_290.out;have hcz60_0:w53.cell? ⟨gb290,0,none⟩ = some (.int .i64 0):=(blk_cell BK290.out 0).trans rfl;have hcz60_1:w53.cell? ⟨gb290,1,none⟩ = some (.slice none 0 0):=(blk_cell BK290.out 1).trans rfl;have hfz60_0:=blk_frozen BK290.out 0;have hfz60_1:=blk_frozen BK290.out 1))
      refine bodyPost_ret (results_cell_row rfl _ _ gb290 31 #[.int .i64 (wrap64 (1 + t291)),.slice none 0 0] (0,0) _ rfl (by (with_reducible repeat (first|refine blk_drewN ?_ _|refine blk_drew ?_|refine blk_alloc ?_ _));refine blk_put (cs:=#[.int .i64 (wrap64 (1 + t291)),.slice none 0 0]) ?_ 1 _ rfl;(with_reducible repeat (first|refine blk_drewN ?_ _|refine blk_drew ?_|refine blk_alloc ?_ _));refine blk_put (cs:=#[.int .i64 0,.slice none 0 0]) ?_ 0 _ rfl;(with_reducible repeat (first|refine blk_drewN ?_ _|refine blk_drew ?_|refine blk_alloc ?_ _));refine blk_far ?_ NB290_294.out _;(with_reducible repeat (first|refine blk_drewN ?_ _|refine blk_drew ?_|refine blk_alloc ?_ _));exact BK290.out) Try.underlying31 rfl (by kernel_rfl)) rfl ?_
      exact ⟨_,Yb,YJ,iIsS60,bH,kB⟩
     ·rw [if_neg c52] at H
      have c52b0:(t306 == 1) = false:=beq_eq_false_iff_ne.mpr c52
      have c52b1:(t306 != 1) = true:=bne_iff_ne.mpr c52
      simp only [Option.some.injEq,Prod.mk.injEq] at H
      obtain ⟨rfl,rfl,rfl,rfl⟩:=H
      go_wp2_with (first|((with_reducible refine gate_callee (f:=73) rfl ?_);refine goesL_ (some 44) rfl rfl Try.func73 (by kernel_rfl) rfl #[.pointer (some ⟨g,0,none⟩),.int .i64 40] rfl Ya ?_;(with_reducible refine (spec_l1Cur_pick.calls g s0_0 x1001_1 x1002_1 40 t306 t307 t308 w0 _ ?side1 ?side2 A41.out).mono ?_);(case side1=>exact iIsS60);(case side2=>exact bH);rintro e w61 ⟨rfl,hi,hb,hk⟩;refine ⟨_,rfl,?_⟩;replace HO_295001:=Aside0.mk (Kd.S_mono (Kd.S_keep (IsS60.apartS (show IsS60 w0 _ g s0_0 x1001_1 x1002_1 from iIsS60) (rS HO_295001) (by decide)) hk (fun _ h=>h.2)) (fun _ h=>h.1));replace BK289:=Aside0.mk (KeepBut.blk hk (g':=gb289) (o:=.cells #[.slice A1_0 l1_0.length c1_0] 26 (0,0)) (bB BK289) NB289_0.out (by simp));replace BK290:=Aside0.mk (KeepBut.blk hk (g':=gb290) (o:=.cells #[.int .i64 0,.slice none 0 0] 31 (0,0)) (bB BK290) NB290_0.out (by simp));replace BK294:=Aside0.mk (KeepBut.blk hk (g':=gb294) (o:=.cells #[.int .i64 (wrap64 (1 + t291)),u295001] 31 (0,0)) (bB BK294) NB294_0.out (by simp));replace HK:=Aside0.mk (KeepBut.trans kB hk (.inl rfl));replace HB:=Aside0.mk (hb);replace HI0:=Aside0.mk (hi);(try clear hb);(try clear hb2);(try clear hk);(try clear hi);have hnb62:=NB294_289.out;have hnc62:=NB289_294.out;have hnb63:=NB294_290.out;have hnc63:=NB290_294.out;have hnb64:=NB294_0.out;have hnc64:=NB0_294.out;have hcz65_0:w61.cell? ⟨gb294,0,none⟩ = some (.int .i64 (wrap64 (1 + t291))):=(blk_cell BK294.out 0).trans rfl;have hcz65_1:w61.cell? ⟨gb294,1,none⟩ = some (u295001):=(blk_cell BK294.out 1).trans rfl;have hfz65_0:=blk_frozen BK294.out 0;have hfz65_1:=blk_frozen BK294.out 1;have hnb66:=NB290_289.out;have hnc66:=NB289_290.out;have hnb67:=NB290_0.out;have hnc67:=NB0_290.out;have hcz68_0:w61.cell? ⟨gb290,0,none⟩ = some (.int .i64 0):=(blk_cell BK290.out 0).trans rfl;have hcz68_1:w61.cell? ⟨gb290,1,none⟩ = some (.slice none 0 0):=(blk_cell BK290.out 1).trans rfl;have hfz68_0:=blk_frozen BK290.out 0;have hfz68_1:=blk_frozen BK290.out 1;obtain ⟨Ao69,co69,eo69⟩:=Kd.S_slice HO_295001.out;subst eo69))
      refine bodyPost_ret (results_cell_row rfl _ _ gb290 31 #[.int .i64 (wrap64 (1 + t291)),.slice Ao69 x295001_1.length co69] (0,0) _ rfl (by (with_reducible repeat (first|refine blk_drewN ?_ _|refine blk_drew ?_|refine blk_alloc ?_ _));refine blk_put (cs:=#[.int .i64 (wrap64 (1 + t291)),.slice none 0 0]) ?_ 1 _ rfl;(with_reducible repeat (first|refine blk_drewN ?_ _|refine blk_drew ?_|refine blk_alloc ?_ _));refine blk_put (cs:=#[.int .i64 0,.slice none 0 0]) ?_ 0 _ rfl;(with_reducible repeat (first|refine blk_drewN ?_ _|refine blk_drew ?_|refine blk_alloc ?_ _));exact BK290.out) Try.underlying31 rfl (by kernel_rfl)) rfl ?_
      exact ⟨_,Yb,by (with_reducible repeat (first|apply Kd.S_alloc|apply Kd.S_drewN|apply Kd.S_drew));exact Kd.S_mono (Kd.S_far (p:=⟨gb290,1,none⟩) (Kd.S_far (p:=⟨gb290,0,none⟩) (Kd.S_types HO_295001.out BK290.out (by decide)) (fun _ hk=>hk.2) (.int .i64 (wrap64 (1 + t291)))) (fun _ hk=>hk.2) (.slice Ao69 x295001_1.length co69)) (fun _ hk=>trivial),iIsS60,bH,kB⟩

end Go.Proofs.Ytmgkflkfoccgkaa.QFnPutFor
