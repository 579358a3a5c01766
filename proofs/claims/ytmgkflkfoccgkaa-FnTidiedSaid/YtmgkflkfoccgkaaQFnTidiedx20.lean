-- Written by this session's own program (wip/x/xprint.py, over the kit's printer); Lean checks it.
import Derived.Test.YtmgkflkfoccgkaaQFnTidiedx0
import Derived.Test.YtmgkflkfoccgkaaQFnTidiedx9
import Derived.Test.YtmgkflkfoccgkaaQFnTidiedx11
import Derived.Test.YtmgkflkfoccgkaaQFnTidiedx12
import Derived.Test.YtmgkflkfoccgkaaQFnTidiedx18
namespace Go.Proofs.Ytmgkflkfoccgkaa.QFnTidied
open Go.RowKit Go.Proofs.YtmgkflkfoccgkaaW.PrintWords Go.Proofs.YtmgkflkfoccgkaaW.PrintLast Go.Proofs.YtmgkflkfoccgkaaW.PrintMore
attribute [local go_sem] max2_int min2_int max_two min_two max_three min_three max_four min_four   -- for this text's walks alone
set_option linter.unusedVariables false
set_option linter.unusedSimpArgs false

/-! ### spec_l4Weight: function 69 -/
def spec_l4Weight.l0:Nat → Int → List (S83) → Int → Int → Option (Int)
 | 0,_,_,_,_=>none
 | k + 1,x3,x6,x7,x8=>if x8 < x7 then (if 0 ≤ x8 then (if x8 < (x6.length:Int) then (spec_l4Weight.l0 k (wrap64 (x3 + (wrap64 ((((rd_T83 x6 x8).f1).length:Int) + (((rd_T83 x6 x8).f2).length:Int))))) x6 x7 (wrap64 (x8 + 1))) else (none)) else (none)) else (some x3)
def spec_l4Weight.f (k:Nat) (l0:List (S83)):Option (Int):=spec_l4Weight.l0 k 0 l0 (l0.length:Int) 0
theorem spec_l4Weight.mono_l:∀ k,(∀ y0 y1 y2 y3,LeO (spec_l4Weight.l0 k y0 y1 y2 y3) (spec_l4Weight.l0 (k + 1) y0 y1 y2 y3))
 | 0=>fun _ _ _ _ r h=>by simp [spec_l4Weight.l0] at h
 | k + 1=>by
  have ih0:=spec_l4Weight.mono_l k
  ·intro y0 y1 y2 y3
   unfold spec_l4Weight.l0
   exact mO
theorem spec_l4Weight.mono:∀ a0 k,LeO (spec_l4Weight.f k a0) (spec_l4Weight.f (k + 1) a0):=by
 intro a0 k
 have ih0:=spec_l4Weight.mono_l k
 unfold spec_l4Weight.f
 exact mO
set_option maxHeartbeats 8000000 in
set_option maxRecDepth 100000 in
theorem spec_l4Weight.calls (k:Nat) (A0:Option Addr) (c0:Nat) (l0:List (S83)) (r:Int) (w:World) (hr0:Kd.C k83 w A0 l0.length l0) (hc0:l0.length ≤ c0) (h:spec_l4Weight.f k l0 = some r) :
  Calls Try.prog 69 #[.slice A0 l0.length c0] w fun e w'=>e = .returned (.int .i64 r) ∧ Below w.heap.size w w':=by
 have hu83:=Try.underlying83
 have HR0:=Aside0.mk hr0
 have HC0:=Aside0.mk hc0
 clear hr0 hc0
 have HB:=Aside0.mk (Below.refl w.heap.size w)
 have H:(spec_l4Weight.l0 k 0 l0 (l0.length:Int) 0) = some r:=h
 clear h
 have H':=Aside0.mk H
 clear H
 go_enter Try.func69,Try.ntmps69
 go_wp2
 go_loopg [3,8] k (fun kq v3 v8 w'=>∃ (x3_1:Int) (x8_1:Int),v3 = .int .i64 x3_1 ∧ v8 = .int .i64 x8_1 ∧ Aside0 (spec_l4Weight.l0 kq x3_1 l0 (l0.length:Int) x8_1 = some r) ∧ Aside0 (kq ≤ k) ∧ Aside0 (Below w.heap.size w w'))
 case atStart=>exact ⟨(0),(0),Yd,Yd,H',⟨Nat.le_refl _⟩,⟨bH⟩⟩
 case round =>
  clear H'
  obtain ⟨x3_1,x8_1,rfl,rfl,HA,HK1,HB⟩:=hrel
  cases gk with
  | zero=>exact absurd HA.out (by simp [spec_l4Weight.l0])
  | succ k1 =>
   have H:=HA.out
   clear HA
   simp only [spec_l4Weight.l0] at H
   by_cases c2:x8_1 < (l0.length:Int)
   ·rw [if_pos c2] at H
    have c2b0:=decide_eq_true c2
    clear c2
    replace H:=gI H;obtain ⟨c3b0,H⟩:=H
    replace H:=gI H;obtain ⟨c4b0,H⟩:=H
    have H':=Aside0.mk H
    clear H
    have p543:0 ≤ (x8_1:Int):=oD
    have q543:x8_1 < (l0.length:Int):=oD
    obtain ⟨ad543,A543_1,c543_1,A543_2,c543_2,e543,hx543_0,hx543_1,hx543_2,hl543_1,hi543_1,hl543_2,hi543_2⟩:=at_T83 HR0.out x8_1 p543 q543
    cases e543
    replace hx543_0:=(HB.out.cell (World.block_lt_of_cell? w _ hx543_0)).trans hx543_0
    replace hx543_1:=(HB.out.cell (World.block_lt_of_cell? w _ hx543_1)).trans hx543_1
    replace hx543_2:=(HB.out.cell (World.block_lt_of_cell? w _ hx543_2)).trans hx543_2
    have HR543_1:=Aside0.mk hi543_1
    have HC543_1:=Aside0.mk hl543_1
    clear hi543_1 hl543_1
    have HR543_2:=Aside0.mk hi543_2
    have HC543_2:=Aside0.mk hl543_2
    clear hi543_2 hl543_2
    replace p543:=eq_true p543
    replace q543:=eq_true q543
    go_wp2_with (first|(refine xB 5 #[.bool false,.slice none 0 0,.slice none 0 0] 83 ?_;intro gb544 hg w5 hbox hb;have BK544:=Aside0.mk (hbox);have GW544:=gZ w gb544;have GE544:=GW544;replace HB:=bS hb;clear hb hbox hg;have hcz6_0:=qc3_0 BK544;have hcz6_1:=qc3_1 BK544;have hcz6_2:=qc3_2 BK544;have hfz6_0:=fz BK544 0;have hfz6_1:=fz BK544 1;have hfz6_2:=fz BK544 2))
    go_roundg k1
    case measure=>have:=HK1.out;omega
    case rel=>exact ⟨(wrap64 (x3_1 + (wrap64 ((((rd_T83 l0 x8_1).f1).length:Int) + (((rd_T83 l0 x8_1).f2).length:Int))))),(wrap64 (x8_1 + 1)),Yd,Yd,H',⟨YH⟩,⟨bH⟩⟩
   ·rw [if_neg c2] at H
    have c2b0:decide (x8_1 < (l0.length:Int)) = false:=decide_eq_false c2
    clear c2
    obtain rfl:=Option.some.inj H
    go_wp2
    go_ret
    exact ⟨Yb,bH⟩

/-! ### spec_WeightOf: function 31 -/
def spec_WeightOf.f (k:Nat) (l0_0:List Int) (l1:List (S83)):Option (Int × Bool):=(spec_GoodClause.f k l0_0 l1).bind fun t546=>(if t546 = true then ((spec_l4Weight.f k l1).bind fun t547=>(some (t547,true))) else (some (0,false)))
theorem spec_WeightOf.mono:∀ a0 a1 k,LeO (spec_WeightOf.f k a0 a1) (spec_WeightOf.f (k + 1) a0 a1):=by
 intro a0 a1 k
 unfold spec_WeightOf.f
 have m0:=@spec_GoodClause.mono
 have m1:=@spec_l4Weight.mono
 exact mO
set_option maxHeartbeats 8000000 in
set_option maxRecDepth 100000 in
theorem spec_WeightOf.calls (k:Nat) (A0_0:Option Addr) (c0_0:Nat) (l0_0:List Int) (A1:Option Addr) (c1:Nat) (l1:List (S83)) (r1:Int) (r2:Bool) (w:World) (hr0_0:Kd.C (Kd.int .i64) w A0_0 l0_0.length l0_0) (hc0_0:l0_0.length ≤ c0_0) (hr1:Kd.C k83 w A1 l1.length l1) (hc1:l1.length ≤ c1) (h:spec_WeightOf.f k l0_0 l1 = some (r1,r2)) :
  Calls Try.prog 31 #[.agg #[.slice A0_0 l0_0.length c0_0],.slice A1 l1.length c1] w fun e w'=>e = .returned (.tuple #[.int .i64 r1,.bool r2]) ∧ Below w.heap.size w w':=by
 have hu26:=Try.underlying26
 have HR0_0:=Aside0.mk hr0_0
 have HC0_0:=Aside0.mk hc0_0
 clear hr0_0 hc0_0
 have HR1:=Aside0.mk hr1
 have HC1:=Aside0.mk hc1
 clear hr1 hc1
 have HB:=Aside0.mk (Below.refl w.heap.size w)
 have H:((spec_GoodClause.f k l0_0 l1).bind fun t546=>(if t546 = true then ((spec_l4Weight.f k l1).bind fun t547=>(some (t547,true))) else (some (0,false)))) = some (r1,r2):=h
 clear h
 replace H:=bI H;obtain ⟨t546,A3,H⟩:=H
 by_cases c4:t546 = true
 ·subst c4
  replace H:=pT H
  replace H:=bI H;obtain ⟨t547,A5,H⟩:=H
  simp only [Option.some.injEq,Prod.mk.injEq] at H
  obtain ⟨rfl,rfl⟩:=H
  go_enter Try.func31,Try.ntmps31
  go_wp2_with (first|(refine xB 2 #[.slice A0_0 l0_0.length c0_0] 26 ?_;intro gb545 hg w6 hbox hb;have BK545:=Aside0.mk (hbox);have GW545:=gZ w gb545;have GE545:=GW545;replace HB:=bS hb;clear hb hbox hg;have hcz7_0:=qc1_0 BK545;have hfz7_0:=fz BK545 0)|((with_reducible refine gate_callee (f:=27) rfl ?_);refine goesL_ (some 8) rfl rfl Try.func27 (by kernel_rfl) rfl #[.agg #[.slice A0_0 l0_0.length c0_0],.slice A1 l1.length c1] rfl Ya ?_;(with_reducible refine (spec_GoodClause.calls k _ _ l0_0 _ _ l1 true _ ?side1 ?side2 ?side3 ?side4 A3.out).mono ?_);(case side1=>exact Yx);(case side2=>exact Yw);(case side3=>exact sC HR1);(case side4=>exact HC1.out);rintro e w8 ⟨rfl,hb⟩;refine ⟨_,rfl,?_⟩;replace BK545:=bb BK545 hb;replace HB:=bS hb;clear hb)|((with_reducible refine gate_callee (f:=69) rfl ?_);refine goesL_ (some 11) rfl rfl Try.func69 (by kernel_rfl) rfl #[.slice A1 l1.length c1] rfl Ya ?_;(with_reducible refine (spec_l4Weight.calls k _ _ l1 t547 _ ?side1 ?side2 A5.out).mono ?_);(case side1=>exact sC HR1);(case side2=>exact HC1.out);rintro e w9 ⟨rfl,hb⟩;refine ⟨_,rfl,?_⟩;replace BK545:=bb BK545 hb;replace HB:=bS hb;clear hb))
  go_ret2
  exact ⟨Yb,bH⟩
 ·replace c4:=Bool.eq_false_iff.mpr c4
  subst c4
  replace H:=pF H
  simp only [Option.some.injEq,Prod.mk.injEq] at H
  obtain ⟨rfl,rfl⟩:=H
  go_enter Try.func31,Try.ntmps31
  go_wp2_with (first|(refine xB 2 #[.slice A0_0 l0_0.length c0_0] 26 ?_;intro gb545 hg w10 hbox hb;have BK545:=Aside0.mk (hbox);have GW545:=gZ w gb545;have GE545:=GW545;replace HB:=bS hb;clear hb hbox hg;have hcz11_0:=qc1_0 BK545;have hfz11_0:=fz BK545 0)|((with_reducible refine gate_callee (f:=27) rfl ?_);refine goesL_ (some 8) rfl rfl Try.func27 (by kernel_rfl) rfl #[.agg #[.slice A0_0 l0_0.length c0_0],.slice A1 l1.length c1] rfl Ya ?_;(with_reducible refine (spec_GoodClause.calls k _ _ l0_0 _ _ l1 false _ ?side1 ?side2 ?side3 ?side4 A3.out).mono ?_);(case side1=>exact Yx);(case side2=>exact Yw);(case side3=>exact sC HR1);(case side4=>exact HC1.out);rintro e w12 ⟨rfl,hb⟩;refine ⟨_,rfl,?_⟩;replace BK545:=bb BK545 hb;replace HB:=bS hb;clear hb))
  go_ret2
  exact ⟨Yb,bH⟩

/-! ### impl_VarsIn: function 32 -/
def impl_VarsIn.f (k:Nat) (l0_0:List Int) (l1:List (S83)):Option (List Int × Bool):=(impl_GoodClause.f k l0_0 l1).bind fun t549=>(if t549 = true then ((impl_termsOf.f l1).bind fun t550=>((impl_varsIn.f k t550).bind fun t553=>(some (t553,true)))) else (some (([]:List Int),false)))
theorem impl_VarsIn.mono:∀ a0 a1 k,LeO (impl_VarsIn.f k a0 a1) (impl_VarsIn.f (k + 1) a0 a1):=by
 intro a0 a1 k
 unfold impl_VarsIn.f
 have m0:=@impl_GoodClause.mono
 have m1:=@impl_varsIn.mono
 exact mO
set_option maxHeartbeats 8000000 in
set_option maxRecDepth 100000 in
theorem impl_VarsIn.calls (k:Nat) (A0_0:Option Addr) (c0_0:Nat) (l0_0:List Int) (A1:Option Addr) (c1:Nat) (l1:List (S83)) (r1:List Int) (r2:Bool) (w:World) (hr0_0:Kd.C (Kd.int .i64) w A0_0 l0_0.length l0_0) (hc0_0:l0_0.length ≤ c0_0) (hr1:Kd.C k83 w A1 l1.length l1) (hc1:l1.length ≤ c1) (h:impl_VarsIn.f k l0_0 l1 = some (r1,r2)) :
  Calls Try.prog 32 #[.agg #[.slice A0_0 l0_0.length c0_0],.slice A1 l1.length c1] w fun e w'=>∃ v0_:Value,e = .returned (.tuple #[v0_,.bool r2]) ∧ Kd.R (Kd.int .i64) 3 w' w.heap.size (fun _=>True) v0_ r1 ∧ Below w.heap.size w w':=by
 have hu26:=Try.underlying26
 have HR0_0:=Aside0.mk hr0_0
 have HC0_0:=Aside0.mk hc0_0
 clear hr0_0 hc0_0
 have HR1:=Aside0.mk hr1
 have HC1:=Aside0.mk hc1
 clear hr1 hc1
 have HB:=Aside0.mk (Below.refl w.heap.size w)
 have H:((impl_GoodClause.f k l0_0 l1).bind fun t549=>(if t549 = true then ((impl_termsOf.f l1).bind fun t550=>((impl_varsIn.f k t550).bind fun t553=>(some (t553,true)))) else (some (([]:List Int),false)))) = some (r1,r2):=h
 clear h
 replace H:=bI H;obtain ⟨t549,A3,H⟩:=H
 by_cases c4:t549 = true
 ·subst c4
  replace H:=pT H
  replace H:=bI H;obtain ⟨t550,A5,H⟩:=H
  replace H:=bI H;obtain ⟨t553,A6,H⟩:=H
  simp only [Option.some.injEq,Prod.mk.injEq] at H
  obtain ⟨rfl,rfl⟩:=H
  go_enter Try.func32,Try.ntmps32
  go_wp2_with (first|(refine xB 2 #[.slice A0_0 l0_0.length c0_0] 26 ?_;intro gb548 hg w7 hbox hb;have BK548:=Aside0.mk (hbox);have GW548:=gZ w gb548;have GE548:=GW548;replace HB:=bS hb;clear hb hbox hg;have hcz8_0:=qc1_0 BK548;have hfz8_0:=fz BK548 0)|((with_reducible refine gate_callee (f:=26) rfl ?_);refine goesL_ (some 8) rfl rfl Try.func26 (by kernel_rfl) rfl #[.agg #[.slice A0_0 l0_0.length c0_0],.slice A1 l1.length c1] rfl Ya ?_;(with_reducible refine (impl_GoodClause.calls k _ _ l0_0 _ _ l1 true _ ?side1 ?side2 ?side3 ?side4 A3.out).mono ?_);(case side1=>exact Yx);(case side2=>exact Yw);(case side3=>exact sC HR1);(case side4=>exact HC1.out);rintro e w9 ⟨rfl,hb⟩;refine ⟨_,rfl,?_⟩;replace BK548:=bb BK548 hb;replace HB:=bS hb;clear hb)|((with_reducible refine gate_callee (f:=71) rfl ?_);refine goesL_ (some 11) rfl rfl Try.func71 (by kernel_rfl) rfl #[.slice A1 l1.length c1] rfl Ya ?_;(with_reducible refine (impl_termsOf.calls _ _ l1 t550 _ ?side1 ?side2 A5.out).mono ?_);(case side1=>exact sC HR1);(case side2=>exact HC1.out);rintro e w10 ⟨v551,rfl,ho0,hb⟩;refine ⟨_,rfl,?_⟩;have HO552:=Aside0.mk (Kd.N_lower ho0 (below_size bH));replace BK548:=bb BK548 hb;replace HB:=bS hb;(try clear hb);(try clear hb2);(try clear hk);(try clear hi);(try clear ho0);obtain ⟨Ao11,co11,eo11⟩:=Kd.N_slice HO552.out;subst eo11)|((with_reducible refine gate_callee (f:=70) rfl ?_);refine goesL_ (some 12) rfl rfl Try.func70 (by kernel_rfl) rfl #[.slice Ao11 t550.length co11] rfl Ya ?_;(with_reducible refine (impl_varsIn.calls k _ _ t550 t553 _ ?side1 ?side2 A6.out).mono ?_);(case side1=>repeat (first|exact (Kd.N_reads' HO552.out).2.2|(with_reducible refine Kd.C_alloc ?_ _)|(with_reducible refine Kd.C_drewN ?_ _)|(with_reducible refine Kd.C_drew ?_)));(case side2=>exact (Kd.N_reads' HO552.out).2.1);rintro e w12 ⟨v554,rfl,ho0,hb⟩;refine ⟨_,rfl,?_⟩;replace HO552:=Aside0.mk (Kd.N_elder' (rN HO552) (Kd.R_base ho0) hb);have HO555:=Aside0.mk (Kd.R_lower ho0 (below_size bH));replace BK548:=bb BK548 hb;replace HB:=bS hb;clear hb ho0))
  go_ret2
  exact ⟨_,Yb,rR HO555,bH⟩
 ·replace c4:=Bool.eq_false_iff.mpr c4
  subst c4
  replace H:=pF H
  simp only [Option.some.injEq,Prod.mk.injEq] at H
  obtain ⟨rfl,rfl⟩:=H
  go_enter Try.func32,Try.ntmps32
  go_wp2_with (first|(refine xB 2 #[.slice A0_0 l0_0.length c0_0] 26 ?_;intro gb548 hg w13 hbox hb;have BK548:=Aside0.mk (hbox);have GW548:=gZ w gb548;have GE548:=GW548;replace HB:=bS hb;clear hb hbox hg;have hcz14_0:=qc1_0 BK548;have hfz14_0:=fz BK548 0)|((with_reducible refine gate_callee (f:=26) rfl ?_);refine goesL_ (some 8) rfl rfl Try.func26 (by kernel_rfl) rfl #[.agg #[.slice A0_0 l0_0.length c0_0],.slice A1 l1.length c1] rfl Ya ?_;(with_reducible refine (impl_GoodClause.calls k _ _ l0_0 _ _ l1 false _ ?side1 ?side2 ?side3 ?side4 A3.out).mono ?_);(case side1=>exact Yx);(case side2=>exact Yw);(case side3=>exact sC HR1);(case side4=>exact HC1.out);rintro e w15 ⟨rfl,hb⟩;refine ⟨_,rfl,?_⟩;replace BK548:=bb BK548 hb;replace HB:=bS hb;clear hb))
  go_ret2
  exact ⟨_,Yb,Yi,bH⟩

/-! ### spec_l1Put: function 113 -/
def spec_l1Put.l0:Nat → List Int → Int → Int → Option (List Int)
 | 0,_,_,_=>none
 | k + 1,x0,x1,x5=>if x5 < (x0.length:Int) then (if 0 ≤ x5 then (if (rd x0 x5) < x1 then (spec_l1Put.l0 k x0 x1 (wrap64 (x5 + 1))) else (if (rd x0 x5) = x1 then (some x0) else ((some (([]:List Int):List Int)).bind fun y558=>(if x5 ≤ (x0.length:Int) then ((some (x0.take (x5:Int).toNat:List Int)).bind fun y561=>(if y558.length + y561.length < 17592186044416 then ((some (y558 ++ y561:List Int)).bind fun y565=>(if y565.length < 17592186044416 then ((some (y565 ++ [x1]:List Int)).bind fun y568=>((some (x0.drop (x5:Int).toNat:List Int)).bind fun y571=>(if y568.length + y571.length < 17592186044416 then (some (y568 ++ y571)) else (none)))) else (none))) else (none))) else (none))))) else (none)) else ((some (([]:List Int):List Int)).bind fun y578=>(if 0 ≤ x5 then (if x5 ≤ (x0.length:Int) then ((some (x0.take (x5:Int).toNat:List Int)).bind fun y581=>(if y578.length + y581.length < 17592186044416 then ((some (y578 ++ y581:List Int)).bind fun y585=>(if y585.length < 17592186044416 then ((some (y585 ++ [x1]:List Int)).bind fun y588=>((some (x0.drop (x5:Int).toNat:List Int)).bind fun y591=>(if y588.length + y591.length < 17592186044416 then (some (y588 ++ y591)) else (none)))) else (none))) else (none))) else (none)) else (none)))
def spec_l1Put.f (k:Nat) (l0:List Int) (a1:Int):Option (List Int):=spec_l1Put.l0 k l0 a1 0
theorem spec_l1Put.mono_l:∀ k,(∀ y0 y1 y2,LeO (spec_l1Put.l0 k y0 y1 y2) (spec_l1Put.l0 (k + 1) y0 y1 y2))
 | 0=>fun _ _ _ r h=>by simp [spec_l1Put.l0] at h
 | k + 1=>by
  have ih0:=spec_l1Put.mono_l k
  ·intro y0 y1 y2
   unfold spec_l1Put.l0
   exact mO
theorem spec_l1Put.mono:∀ a0 a1 k,LeO (spec_l1Put.f k a0 a1) (spec_l1Put.f (k + 1) a0 a1):=by
 intro a0 a1 k
 have ih0:=spec_l1Put.mono_l k
 unfold spec_l1Put.f
 exact mO
set_option maxHeartbeats 8000000 in
set_option maxRecDepth 100000 in
theorem spec_l1Put.calls (k:Nat) (P0_:Nat → Prop) (u9000_:Value) (l0:List Int) (a1:Int) (r:List Int) (w0 w:World) (hB:Below w0.heap.size w0 w) (ho0:Kd.R (Kd.int .i64) 3 w w0.heap.size P0_ u9000_ l0) (h:spec_l1Put.f k l0 a1 = some r) :
  Calls Try.prog 113 #[u9000_,.int .i64 a1] w fun e w'=>∃ v0_:Value,e = .returned (v0_) ∧ Kd.R (Kd.int .i64) 3 w' w0.heap.size (fun k_=>(P0_ k_ ∨ w.heap.size ≤ k_)) v0_ r ∧ Below w0.heap.size w0 w' ∧ Kept w w' (fun k_=>P0_ k_):=by
 have HO0:=Aside0.mk (show Kd.R (Kd.int .i64) 3 w w0.heap.size (fun k_=>(P0_ k_ ∨ w.heap.size ≤ k_)) u9000_ l0 from Kd.R_mono ho0 (fun k_ hk=>(.inl hk)))
 have HK:=Aside0.mk (Kept.refl w (fun k_=>P0_ k_))
 have HW0:=Aside0.mk hB.size
 have HB:=Aside0.mk hB
 clear hB
 have H:(spec_l1Put.l0 k l0 a1 0) = some r:=h
 clear h
 have H':=Aside0.mk H
 clear H
 go_enter Try.func113,Try.ntmps113
 go_wp2
 go_loopg [5] k (fun kq v5 w'=>∃ (x5_1:Int),v5 = .int .i64 x5_1 ∧ Aside0 (spec_l1Put.l0 kq l0 a1 x5_1 = some r) ∧ Aside0 (kq ≤ k) ∧ Aside0 (Kd.R (Kd.int .i64) 3 w' w0.heap.size (fun k_=>(P0_ k_ ∨ w.heap.size ≤ k_)) u9000_ l0) ∧ Aside0 (Kept w w' (fun k_=>P0_ k_)) ∧ Aside0 (Below w0.heap.size w0 w'))
 case atStart=>exact ⟨(0),Yd,H',⟨Nat.le_refl _⟩,⟨rR HO0⟩,⟨kH⟩,⟨bH⟩⟩
 case round =>
  clear H'
  obtain ⟨x5_1,rfl,HA,HK1,HO_0,HK,HB⟩:=hrel
  cases gk with
  | zero=>exact absurd HA.out (by simp [spec_l1Put.l0])
  | succ k1 =>
   have H:=HA.out
   clear HA
   simp only [spec_l1Put.l0] at H
   by_cases c3:x5_1 < (l0.length:Int)
   ·rw [if_pos c3] at H
    have c3b0:=decide_eq_true c3
    clear c3
    replace H:=gI H;obtain ⟨c4b0,H⟩:=H
    by_cases c5:(rd l0 x5_1) < a1
    ·rw [if_pos c5] at H
     have c5b0:=decide_eq_true c5
     clear c5
     have H':=Aside0.mk H
     clear H
     obtain ⟨Ao6,co6,eo6⟩:=Kd.R_slice HO_0.out
     subst eo6
     obtain ⟨p556,q556,ad556,e556,hx556_0⟩:=aI (Kd.R_reads' HO_0.out).2.2 x5_1;cases e556
     go_wp2
     go_roundg k1
     case measure=>have:=HK1.out;omega
     case rel=>exact ⟨(wrap64 (x5_1 + 1)),Yd,H',⟨YH⟩,⟨rR HO_0⟩,⟨kH⟩,⟨bH⟩⟩
    ·rw [if_neg c5] at H
     have c5b0:decide ((rd l0 x5_1) < a1) = false:=decide_eq_false c5
     clear c5
     by_cases c7:(rd l0 x5_1) = a1
     ·rw [if_pos c7] at H
      have c7b0:((rd l0 x5_1) == a1) = true:=beq_iff_eq.mpr c7
      have c7b1:((rd l0 x5_1) != a1) = false:=bne_eq_false_iff_eq.mpr c7
      clear c7
      obtain rfl:=Option.some.inj H
      obtain ⟨Ao8,co8,eo8⟩:=Kd.R_slice HO_0.out
      subst eo8
      obtain ⟨p556,q556,ad556,e556,hx556_0⟩:=aI (Kd.R_reads' HO_0.out).2.2 x5_1;cases e556
      have p557:0 ≤ (x5_1:Int):=oD
      have q557:x5_1 < (l0.length:Int):=oD
      obtain ⟨ad557,e557,hx557_0⟩:=Kd.at_int (Kd.R_reads' HO_0.out).2.2 x5_1 p557 q557
      obtain rfl:ad556 = ad557:=(by injection e557)
      replace p557:=eq_true p557
      replace q557:=eq_true q557
      go_wp2
      go_ret
      exact ⟨_,Yb,rR HO_0,bH,kH⟩
     ·rw [if_neg c7] at H
      have c7b0:((rd l0 x5_1) == a1) = false:=beq_eq_false_iff_ne.mpr c7
      have c7b1:((rd l0 x5_1) != a1) = true:=bne_iff_ne.mpr c7
      obtain ⟨y558,hy558⟩:∃ y_:List Int,y_ = (([]:List Int)):=⟨_,rfl⟩
      replace H:(if x5_1 ≤ (l0.length:Int) then ((some (l0.take (x5_1:Int).toNat:List Int)).bind fun y561=>(if y558.length + y561.length < 17592186044416 then ((some (y558 ++ y561:List Int)).bind fun y565=>(if y565.length < 17592186044416 then ((some (y565 ++ [a1]:List Int)).bind fun y568=>((some (l0.drop (x5_1:Int).toNat:List Int)).bind fun y571=>(if y568.length + y571.length < 17592186044416 then (some (y568 ++ y571)) else (none)))) else (none))) else (none))) else (none)) = some r:=by first|(rw [hy558];with_reducible exact H)|(have H2_:=(Option.bind_some _ _).symm.trans H;rw [hy558];with_reducible exact H2_)|(have H2_:=(Option.bind_some _ _).symm.trans H;with_reducible exact H2_)|with_reducible exact H|(rw [hy558];exact H)|exact H
      have Ny558:=Aside0.mk hy558
      clear hy558
      have c9b0:=eq_true (oD:0 ≤ x5_1)
      replace H:=gJ H;obtain ⟨c10,H⟩:=H
      have c10b0:=eq_true c10
      have c10b1:=decide_eq_true c10
      clear c10
      obtain ⟨y561,hy561⟩:∃ y_:List Int,y_ = (l0.take (x5_1:Int).toNat):=⟨_,rfl⟩
      replace H:(if y558.length + y561.length < 17592186044416 then ((some (y558 ++ y561:List Int)).bind fun y565=>(if y565.length < 17592186044416 then ((some (y565 ++ [a1]:List Int)).bind fun y568=>((some (l0.drop (x5_1:Int).toNat:List Int)).bind fun y571=>(if y568.length + y571.length < 17592186044416 then (some (y568 ++ y571)) else (none)))) else (none))) else (none)) = some r:=by first|(rw [hy561];with_reducible exact H)|(have H2_:=(Option.bind_some _ _).symm.trans H;rw [hy561];with_reducible exact H2_)|(have H2_:=(Option.bind_some _ _).symm.trans H;with_reducible exact H2_)|with_reducible exact H|(rw [hy561];exact H)|exact H
      have Ny561:=Aside0.mk hy561
      clear hy561
      replace H:=gK H;obtain ⟨LMc11,H⟩:=H
      obtain ⟨y565,hy565⟩:∃ y_:List Int,y_ = (y558 ++ y561):=⟨_,rfl⟩
      replace H:(if y565.length < 17592186044416 then ((some (y565 ++ [a1]:List Int)).bind fun y568=>((some (l0.drop (x5_1:Int).toNat:List Int)).bind fun y571=>(if y568.length + y571.length < 17592186044416 then (some (y568 ++ y571)) else (none)))) else (none)) = some r:=by first|(rw [hy565];with_reducible exact H)|(have H2_:=(Option.bind_some _ _).symm.trans H;rw [hy565];with_reducible exact H2_)|(have H2_:=(Option.bind_some _ _).symm.trans H;with_reducible exact H2_)|with_reducible exact H|(rw [hy565];exact H)|exact H
      have Ny565:=Aside0.mk hy565
      clear hy565
      replace H:=gK H;obtain ⟨LMc12,H⟩:=H
      obtain ⟨y568,hy568⟩:∃ y_:List Int,y_ = (y565 ++ [a1]):=⟨_,rfl⟩
      replace H:((some (l0.drop (x5_1:Int).toNat:List Int)).bind fun y571=>(if y568.length + y571.length < 17592186044416 then (some (y568 ++ y571)) else (none))) = some r:=by first|(rw [hy568];with_reducible exact H)|(have H2_:=(Option.bind_some _ _).symm.trans H;rw [hy568];with_reducible exact H2_)|(have H2_:=(Option.bind_some _ _).symm.trans H;with_reducible exact H2_)|with_reducible exact H|(rw [hy568];exact H)|exact H
      have Ny568:=Aside0.mk hy568
      clear hy568
      have c13b0:=eq_true (oD:0 ≤ x5_1)
      have c14b0:=eq_true (oD:x5_1 ≤ (l0.length:Int))
      obtain ⟨y571,hy571⟩:∃ y_:List Int,y_ = (l0.drop (x5_1:Int).toNat):=⟨_,rfl⟩
      replace H:(if y568.length + y571.length < 17592186044416 then (some (y568 ++ y571)) else (none)) = some r:=by first|(rw [hy571];with_reducible exact H)|(have H2_:=(Option.bind_some _ _).symm.trans H;rw [hy571];with_reducible exact H2_)|(have H2_:=(Option.bind_some _ _).symm.trans H;with_reducible exact H2_)|with_reducible exact H|(rw [hy571];exact H)|exact H
      have Ny571:=Aside0.mk hy571
      clear hy571
      replace H:=gK H;obtain ⟨LMc15,H⟩:=H
      obtain ⟨y575,hy575⟩:∃ y_:List Int,y_ = (y568 ++ y571):=⟨_,rfl⟩
      replace H:(some y575) = some r:=by first|(rw [hy575];with_reducible exact H)|(have H2_:=(Option.bind_some _ _).symm.trans H;rw [hy575];with_reducible exact H2_)|(have H2_:=(Option.bind_some _ _).symm.trans H;with_reducible exact H2_)|with_reducible exact H|(rw [hy575];exact H)|exact H
      have Ny575:=Aside0.mk hy575
      clear hy575
      obtain rfl:=Option.some.inj H
      obtain ⟨Ao16,co16,eo16⟩:=Kd.R_slice HO_0.out
      subst eo16
      obtain ⟨p556,q556,ad556,e556,hx556_0⟩:=aI (Kd.R_reads' HO_0.out).2.2 x5_1;cases e556
      have p557:0 ≤ (x5_1:Int):=oD
      have q557:x5_1 < (l0.length:Int):=oD
      obtain ⟨ad557,e557,hx557_0⟩:=Kd.at_int (Kd.R_reads' HO_0.out).2.2 x5_1 p557 q557
      obtain rfl:ad556 = ad557:=(by injection e557)
      replace p557:=eq_true p557
      replace q557:=eq_true q557
      go_wp2_with (first|((with_reducible refine gate_dst (N:=34) rfl ?_);refine Kd.R_lit (Kd.int .i64) _ 3 ?hg (N:=34) ?hd (xs:=([]:List Int)) (inner:=[]) (ok:=fun _=>True) (okp:=fun _=>True) ?hr ?hp (fun _ hk=>hk) trivial (Below.refl _ _) (Nat.le_refl _) (by simp) ?_;(case hd=>rfl);(case hg=>rfl);(case hr=>exact Yc);(case hp=>exact (Reps.none _ _));intro v559 w17 ho18 hb hg_ hnew_;clear hg_ hnew_;(first|rw [← Ny558.out] at ho18|(simp only [Int.reduceToNat] at ho18;rw [← Ny558.out] at ho18));have HO560:=Aside0.mk (Kd.R_lower (Kd.R_new' (Kd.R_newM (M:=fun k_=>(P0_ k_ ∨ w.heap.size ≤ k_)) ho18 (by first|exact HK.out.1|exact (show Kept w _ (fun k_=>P0_ k_) from kH).1) (fun k_ h_=>.inr h_)) (Kd.R_lt (rR HO_0))) (below_size bH));replace HO_0:=Aside0.mk (Kd.R_elder' (rR HO_0) (Kd.R_base ho18) hb);replace HK:=Aside0.mk (Kept.below (S:=(fun k_=>P0_ k_)) kH hb);replace HB:=bS hb;clear hb ho18;have q19:(x5_1:Int) ≤ ((l0.length:Int):Int):=oD;obtain ⟨i019,hi019,_,hsz19,_⟩:=info_parts info3;have hroom19:l0.length ≤ co16:=(Kd.R_reads' HO_0.out).2.1;have hC19:Kd.C (Kd.int .i64) _ (some ad556) l0.length l0:=(Kd.R_reads' HO_0.out).2.2;have hcut19:=cut_to (P:=Try.prog) 24 3 .i64 Try.underlying24 hi019 (some ad556) l0.length co16 x5_1 (oD) q19 hroom19;have hr19:=Kd.C_take (m:=(x5_1:Int).toNat) hC19 (by omega);have hy19:y561.length = (x5_1:Int).toNat:=(by rw [Ny561.out,List.length_take];omega);rw [← Ny561.out] at hr19;rw [← hy19] at hcut19;have HR564:=Aside0.mk hr19;have HC564:=Aside0.mk (show y561.length ≤ co16 from by omega);clear hr19 hC19 hroom19 hi019 hsz19;have KY19:=Aside0.mk hy19;clear hy19;have KL19:=Aside0.mk (show (x5_1:Int).toNat ≤ l0.length from by omega);replace q19:=eq_true q19)|((with_reducible refine gate_builtin (b:=.append) (xs:=#[.tmp 34,.tmp 37]) rfl ?_);at_builtin;refine Kd.R_append_rows (Kd.int .i64) (w0:=w0) w0.heap.size rfl (.tmp 34) (.tmp 37) 24 3 (.int .i64 0) 8 rfl Try.underlying24 info3 rfl (by decide) YP v559 y558 y561 _ _ _ (fun k_=>(P0_ k_ ∨ w.heap.size ≤ k_) ∧ some k_ ≠ (.slice (some ad556) l0.length co16:Value).ownBlock) (fun _=>False) rfl rfl ?aO ?aR (fun _ _ h=>h) (fun _ h=>h.elim) ?aF ?aB ?aS ?aL ?_;(case aR=>repeat (first|exact (by repeat (first|(with_reducible exact HR564.out)|(with_reducible refine Kd.C_alloc ?_ _)|(with_reducible refine Kd.C_drewN ?_ _)|(with_reducible refine Kd.C_drew ?_)|exact HR564.out))|(with_reducible refine Kd.C_alloc ?_ _)|(with_reducible refine Kd.C_drewN ?_ _)|(with_reducible refine Kd.C_drew ?_)));(case aB=>exact bH);(case aF=>exact Yo);(case aO=>exact (by (with_reducible repeat (first|apply Kd.R_alloc|apply Kd.R_drewN|apply Kd.R_drew));exact Kd.R_mono HO560.out (fun _ hk=>⟨hk.1.1,hk.2⟩)));(case aS=>exact YR);(case aL=>have:=LMc11.out;omega);intro v566 w20 ho hb hg hat;rw [← Ny565.out] at ho;have n0_:=Aside0.mk (Kd.R_after (ok:=(fun k_=>(P0_ k_ ∨ w.heap.size ≤ k_))) (rR HO_0) hg hat);have n1_:=Aside0.mk (hb);have n2_:=Aside0.mk (Kept.of_grown (S:=(fun k_=>P0_ k_)) hg kH (fun k_ e_=>(HO560.out.1 k_ e_).1.1));have n3_:=Aside0.mk ((show Kd.C (Kd.int .i64) w20 (some ad556) y561.length y561 from YO));have n4_:=Aside0.mk (ho);clear HO_0;clear HB;clear HK;clear HR564;clear HO560;have HO_0:=n0_;have HB:=n1_;have HK:=n2_;have HR564:=n3_;have HO567:=n4_;clear n0_ n1_ n2_ n3_ n4_;clear ho hb hg hat)|((with_reducible refine gate_builtin (b:=.append) (xs:=#[.tmp 39,.tmp 41]) rfl ?_);at_builtin;refine Kd.R_append (Kd.int .i64) (w0:=w0) w0.heap.size rfl (.tmp 39) (.tmp 41) 24 3 (.int .i64 0) 8 rfl Try.underlying24 info3 rfl (by decide) YP v566 y565 a1 [.int .i64 a1] (fun k_=>(P0_ k_ ∨ w.heap.size ≤ k_) ∧ some k_ ≠ (.slice (some ad556) l0.length co16:Value).ownBlock) (fun _=>False) rfl rfl ?aP (fun _ hk=>hk.elim) ?aF ?aO ?aB ?aS ?aL ?_;(case aP=>exact rfl);(case aB=>exact bH);(case aF=>exact Yo);(case aO=>exact (rR HO567));(case aS=>exact YR);(case aL=>have:=LMc12.out;omega);intro v569 w21 ho hb hg hat;rw [← Ny568.out] at ho;have n0_:=Aside0.mk (Kd.R_after (ok:=(fun k_=>(P0_ k_ ∨ w.heap.size ≤ k_))) (rR HO_0) hg hat);have n1_:=Aside0.mk (hb);have n2_:=Aside0.mk (Kept.of_grown (S:=(fun k_=>P0_ k_)) hg kH (fun k_ e_=>(HO567.out.1 k_ e_).1));have n3_:=Aside0.mk ((show Kd.C (Kd.int .i64) w21 (some ad556) y561.length y561 from YO));have n4_:=Aside0.mk (ho);clear HO_0;clear HB;clear HK;clear HR564;clear HO567;have HO_0:=n0_;have HB:=n1_;have HK:=n2_;have HR564:=n3_;have HO570:=n4_;clear n0_ n1_ n2_ n3_ n4_;clear ho hb hg hat;have q22:(x5_1:Int) ≤ ((l0.length:Int):Int):=oD;obtain ⟨i022,hi022,_,hsz22,_⟩:=info_parts info3;have hroom22:l0.length ≤ co16:=(Kd.R_reads' HO_0.out).2.1;have hC22:Kd.C (Kd.int .i64) _ (some ad556) l0.length l0:=(Kd.R_reads' HO_0.out).2.2;have q022:(0:Int) ≤ (x5_1:Int):=oD;have hcut22:=cut_from (P:=Try.prog) 24 3 .i64 Try.underlying24 hi022 1 hsz22 (some ad556) l0.length co16 x5_1 q022 q22;have hr22:=Kd.C_drop (m:=(x5_1:Int).toNat) (c:=co16) hC22 (by omega) hroom22;obtain ⟨A22,hA22⟩:∃ A1_,A1_ = (if co16 = (x5_1:Int).toNat then (some ad556) else ((some ad556):Option Addr).map (·.add ((x5_1:Int).toNat * 1))):=⟨_,rfl⟩;obtain ⟨c22,hc22⟩:∃ c1_,c1_ = co16 - (x5_1:Int).toNat:=⟨_,rfl⟩;have hy22:y571.length = l0.length - (x5_1:Int).toNat:=(by rw [Ny571.out,List.length_drop] <;> omega);rw [show (l0).drop (x5_1:Int).toNat = y571 from Ny571.out.symm] at hr22;replace hr22:Kd.C (Kd.int .i64) _ A22 y571.length y571:=(by rw [hA22];exact hr22);rw [← hy22,← hA22,← hc22] at hcut22;have HR574:=Aside0.mk hr22;have HC574:=Aside0.mk (show y571.length ≤ c22 from by rw [hy22,hc22];exact Nat.sub_le_sub_right hroom22 _);clear hr22 hC22 hroom22 hi022 hsz22 hc22;have KY22:=Aside0.mk hy22;have KA22:=Aside0.mk hA22;clear hy22 hA22;have KL22:=Aside0.mk (show (x5_1:Int).toNat ≤ l0.length from by omega);replace q22:=eq_true q22)|((with_reducible refine gate_builtin (b:=.append) (xs:=#[.tmp 43,.tmp 46]) rfl ?_);at_builtin;refine Kd.R_append_rows (Kd.int .i64) (w0:=w0) w0.heap.size rfl (.tmp 43) (.tmp 46) 24 3 (.int .i64 0) 8 rfl Try.underlying24 info3 rfl (by decide) YP v569 y568 y571 _ _ _ (fun k_=>(P0_ k_ ∨ w.heap.size ≤ k_) ∧ some k_ ≠ (.slice (some ad556) l0.length co16:Value).ownBlock) (fun _=>False) rfl rfl ?aO ?aR (fun _ _ h=>h) (fun _ h=>h.elim) ?aF ?aB ?aS ?aL ?_;(case aR=>repeat (first|exact (by repeat (first|(with_reducible exact HR574.out)|(with_reducible refine Kd.C_alloc ?_ _)|(with_reducible refine Kd.C_drewN ?_ _)|(with_reducible refine Kd.C_drew ?_)|exact HR574.out))|(with_reducible refine Kd.C_alloc ?_ _)|(with_reducible refine Kd.C_drewN ?_ _)|(with_reducible refine Kd.C_drew ?_)));(case aB=>exact bH);(case aF=>exact Yo);(case aO=>exact (rR HO570));(case aS=>exact YR);(case aL=>have:=LMc15.out;omega);intro v576 w23 ho hb hg hat;rw [← Ny575.out] at ho;have n0_:=Aside0.mk (Kd.R_after (ok:=(fun k_=>(P0_ k_ ∨ w.heap.size ≤ k_))) (rR HO_0) hg hat);have n1_:=Aside0.mk (hb);have n2_:=Aside0.mk (Kept.of_grown (S:=(fun k_=>P0_ k_)) hg kH (fun k_ e_=>(HO570.out.1 k_ e_).1));have n3_:=Aside0.mk ((show Kd.C (Kd.int .i64) w23 (some ad556) y561.length y561 from YO));have n4_:=Aside0.mk ((show Kd.C (Kd.int .i64) w23 A22 y571.length y571 from by rw [Ny571.out,KA22.out];exact Kd.C_drop (m:=(x5_1:Int).toNat) (c:=co16) ((Kd.R_reads' (Kd.R_after (ok:=(fun k_=>(P0_ k_ ∨ w.heap.size ≤ k_))) (rR HO_0) hg hat)).2.2) KL22.out ((Kd.R_reads' (Kd.R_after (ok:=(fun k_=>(P0_ k_ ∨ w.heap.size ≤ k_))) (rR HO_0) hg hat)).2.1)));have n5_:=Aside0.mk (ho);clear HO_0;clear HB;clear HK;clear HR564;clear HR574;clear HO570;have HO_0:=n0_;have HB:=n1_;have HK:=n2_;have HR564:=n3_;have HR574:=n4_;have HO577:=n5_;clear n0_ n1_ n2_ n3_ n4_ n5_;clear ho hb hg hat))
      go_ret
      exact ⟨_,Yb,by (with_reducible repeat (first|apply Kd.R_alloc|apply Kd.R_drewN|apply Kd.R_drew));exact Kd.R_mono HO577.out (fun _ hk=>hk.1),bH,kH⟩
   ·rw [if_neg c3] at H
    have c3b0:decide (x5_1 < (l0.length:Int)) = false:=decide_eq_false c3
    clear c3
    obtain ⟨y578,hy578⟩:∃ y_:List Int,y_ = (([]:List Int)):=⟨_,rfl⟩
    replace H:(if 0 ≤ x5_1 then (if x5_1 ≤ (l0.length:Int) then ((some (l0.take (x5_1:Int).toNat:List Int)).bind fun y581=>(if y578.length + y581.length < 17592186044416 then ((some (y578 ++ y581:List Int)).bind fun y585=>(if y585.length < 17592186044416 then ((some (y585 ++ [a1]:List Int)).bind fun y588=>((some (l0.drop (x5_1:Int).toNat:List Int)).bind fun y591=>(if y588.length + y591.length < 17592186044416 then (some (y588 ++ y591)) else (none)))) else (none))) else (none))) else (none)) else (none)) = some r:=by first|(rw [hy578];with_reducible exact H)|(have H2_:=(Option.bind_some _ _).symm.trans H;rw [hy578];with_reducible exact H2_)|(have H2_:=(Option.bind_some _ _).symm.trans H;with_reducible exact H2_)|with_reducible exact H|(rw [hy578];exact H)|exact H
    have Ny578:=Aside0.mk hy578
    clear hy578
    replace H:=gJ H;obtain ⟨c24,H⟩:=H
    have c24b0:=eq_true c24
    have c24b1:=decide_eq_true c24
    clear c24
    replace H:=gJ H;obtain ⟨c25,H⟩:=H
    have c25b0:=eq_true c25
    have c25b1:=decide_eq_true c25
    clear c25
    obtain ⟨y581,hy581⟩:∃ y_:List Int,y_ = (l0.take (x5_1:Int).toNat):=⟨_,rfl⟩
    replace H:(if y578.length + y581.length < 17592186044416 then ((some (y578 ++ y581:List Int)).bind fun y585=>(if y585.length < 17592186044416 then ((some (y585 ++ [a1]:List Int)).bind fun y588=>((some (l0.drop (x5_1:Int).toNat:List Int)).bind fun y591=>(if y588.length + y591.length < 17592186044416 then (some (y588 ++ y591)) else (none)))) else (none))) else (none)) = some r:=by first|(rw [hy581];with_reducible exact H)|(have H2_:=(Option.bind_some _ _).symm.trans H;rw [hy581];with_reducible exact H2_)|(have H2_:=(Option.bind_some _ _).symm.trans H;with_reducible exact H2_)|with_reducible exact H|(rw [hy581];exact H)|exact H
    have Ny581:=Aside0.mk hy581
    clear hy581
    replace H:=gK H;obtain ⟨LMc26,H⟩:=H
    obtain ⟨y585,hy585⟩:∃ y_:List Int,y_ = (y578 ++ y581):=⟨_,rfl⟩
    replace H:(if y585.length < 17592186044416 then ((some (y585 ++ [a1]:List Int)).bind fun y588=>((some (l0.drop (x5_1:Int).toNat:List Int)).bind fun y591=>(if y588.length + y591.length < 17592186044416 then (some (y588 ++ y591)) else (none)))) else (none)) = some r:=by first|(rw [hy585];with_reducible exact H)|(have H2_:=(Option.bind_some _ _).symm.trans H;rw [hy585];with_reducible exact H2_)|(have H2_:=(Option.bind_some _ _).symm.trans H;with_reducible exact H2_)|with_reducible exact H|(rw [hy585];exact H)|exact H
    have Ny585:=Aside0.mk hy585
    clear hy585
    replace H:=gK H;obtain ⟨LMc27,H⟩:=H
    obtain ⟨y588,hy588⟩:∃ y_:List Int,y_ = (y585 ++ [a1]):=⟨_,rfl⟩
    replace H:((some (l0.drop (x5_1:Int).toNat:List Int)).bind fun y591=>(if y588.length + y591.length < 17592186044416 then (some (y588 ++ y591)) else (none))) = some r:=by first|(rw [hy588];with_reducible exact H)|(have H2_:=(Option.bind_some _ _).symm.trans H;rw [hy588];with_reducible exact H2_)|(have H2_:=(Option.bind_some _ _).symm.trans H;with_reducible exact H2_)|with_reducible exact H|(rw [hy588];exact H)|exact H
    have Ny588:=Aside0.mk hy588
    clear hy588
    have c28b0:=eq_true (oD:0 ≤ x5_1)
    have c29b0:=eq_true (oD:x5_1 ≤ (l0.length:Int))
    obtain ⟨y591,hy591⟩:∃ y_:List Int,y_ = (l0.drop (x5_1:Int).toNat):=⟨_,rfl⟩
    replace H:(if y588.length + y591.length < 17592186044416 then (some (y588 ++ y591)) else (none)) = some r:=by first|(rw [hy591];with_reducible exact H)|(have H2_:=(Option.bind_some _ _).symm.trans H;rw [hy591];with_reducible exact H2_)|(have H2_:=(Option.bind_some _ _).symm.trans H;with_reducible exact H2_)|with_reducible exact H|(rw [hy591];exact H)|exact H
    have Ny591:=Aside0.mk hy591
    clear hy591
    replace H:=gK H;obtain ⟨LMc30,H⟩:=H
    obtain ⟨y595,hy595⟩:∃ y_:List Int,y_ = (y588 ++ y591):=⟨_,rfl⟩
    replace H:(some y595) = some r:=by first|(rw [hy595];with_reducible exact H)|(have H2_:=(Option.bind_some _ _).symm.trans H;rw [hy595];with_reducible exact H2_)|(have H2_:=(Option.bind_some _ _).symm.trans H;with_reducible exact H2_)|with_reducible exact H|(rw [hy595];exact H)|exact H
    have Ny595:=Aside0.mk hy595
    clear hy595
    obtain rfl:=Option.some.inj H
    obtain ⟨Ao31,co31,eo31⟩:=Kd.R_slice HO_0.out
    subst eo31
    go_wp2_with (first|((with_reducible refine gate_dst (N:=34) rfl ?_);refine Kd.R_lit (Kd.int .i64) _ 3 ?hg (N:=34) ?hd (xs:=([]:List Int)) (inner:=[]) (ok:=fun _=>True) (okp:=fun _=>True) ?hr ?hp (fun _ hk=>hk) trivial (Below.refl _ _) (Nat.le_refl _) (by simp) ?_;(case hd=>rfl);(case hg=>rfl);(case hr=>exact Yc);(case hp=>exact (Reps.none _ _));intro v579 w32 ho33 hb hg_ hnew_;clear hg_ hnew_;(first|rw [← Ny578.out] at ho33|(simp only [Int.reduceToNat] at ho33;rw [← Ny578.out] at ho33));have HO580:=Aside0.mk (Kd.R_lower (Kd.R_new' (Kd.R_newM (M:=fun k_=>(P0_ k_ ∨ w.heap.size ≤ k_)) ho33 (by first|exact HK.out.1|exact (show Kept w _ (fun k_=>P0_ k_) from kH).1) (fun k_ h_=>.inr h_)) (Kd.R_lt (rR HO_0))) (below_size bH));replace HO_0:=Aside0.mk (Kd.R_elder' (rR HO_0) (Kd.R_base ho33) hb);replace HK:=Aside0.mk (Kept.below (S:=(fun k_=>P0_ k_)) kH hb);replace HB:=bS hb;clear hb ho33;have q34:(x5_1:Int) ≤ ((l0.length:Int):Int):=oD;obtain ⟨i034,hi034,_,hsz34,_⟩:=info_parts info3;have hroom34:l0.length ≤ co31:=(Kd.R_reads' HO_0.out).2.1;have hC34:Kd.C (Kd.int .i64) _ Ao31 l0.length l0:=(Kd.R_reads' HO_0.out).2.2;have hcut34:=cut_to (P:=Try.prog) 24 3 .i64 Try.underlying24 hi034 Ao31 l0.length co31 x5_1 (oD) q34 hroom34;have hr34:=Kd.C_take (m:=(x5_1:Int).toNat) hC34 (by omega);have hy34:y581.length = (x5_1:Int).toNat:=(by rw [Ny581.out,List.length_take];omega);rw [← Ny581.out] at hr34;rw [← hy34] at hcut34;have HR584:=Aside0.mk hr34;have HC584:=Aside0.mk (show y581.length ≤ co31 from by omega);clear hr34 hC34 hroom34 hi034 hsz34;have KY34:=Aside0.mk hy34;clear hy34;have KL34:=Aside0.mk (show (x5_1:Int).toNat ≤ l0.length from by omega);replace q34:=eq_true q34)|((with_reducible refine gate_builtin (b:=.append) (xs:=#[.tmp 34,.tmp 37]) rfl ?_);at_builtin;refine Kd.R_append_rows (Kd.int .i64) (w0:=w0) w0.heap.size rfl (.tmp 34) (.tmp 37) 24 3 (.int .i64 0) 8 rfl Try.underlying24 info3 rfl (by decide) YP v579 y578 y581 _ _ _ (fun k_=>(P0_ k_ ∨ w.heap.size ≤ k_) ∧ some k_ ≠ (.slice Ao31 l0.length co31:Value).ownBlock) (fun _=>False) rfl rfl ?aO ?aR (fun _ _ h=>h) (fun _ h=>h.elim) ?aF ?aB ?aS ?aL ?_;(case aR=>repeat (first|exact (by repeat (first|(with_reducible exact HR584.out)|(with_reducible refine Kd.C_alloc ?_ _)|(with_reducible refine Kd.C_drewN ?_ _)|(with_reducible refine Kd.C_drew ?_)|exact HR584.out))|(with_reducible refine Kd.C_alloc ?_ _)|(with_reducible refine Kd.C_drewN ?_ _)|(with_reducible refine Kd.C_drew ?_)));(case aB=>exact bH);(case aF=>exact Yo);(case aO=>exact (by (with_reducible repeat (first|apply Kd.R_alloc|apply Kd.R_drewN|apply Kd.R_drew));exact Kd.R_mono HO580.out (fun _ hk=>⟨hk.1.1,hk.2⟩)));(case aS=>exact YR);(case aL=>have:=LMc26.out;omega);intro v586 w35 ho hb hg hat;rw [← Ny585.out] at ho;have n0_:=Aside0.mk (Kd.R_after (ok:=(fun k_=>(P0_ k_ ∨ w.heap.size ≤ k_))) (rR HO_0) hg hat);have n1_:=Aside0.mk (hb);have n2_:=Aside0.mk (Kept.of_grown (S:=(fun k_=>P0_ k_)) hg kH (fun k_ e_=>(HO580.out.1 k_ e_).1.1));have n3_:=Aside0.mk ((show Kd.C (Kd.int .i64) w35 Ao31 y581.length y581 from YN));have n4_:=Aside0.mk (ho);clear HO_0;clear HB;clear HK;clear HR584;clear HO580;have HO_0:=n0_;have HB:=n1_;have HK:=n2_;have HR584:=n3_;have HO587:=n4_;clear n0_ n1_ n2_ n3_ n4_;clear ho hb hg hat)|((with_reducible refine gate_builtin (b:=.append) (xs:=#[.tmp 39,.tmp 41]) rfl ?_);at_builtin;refine Kd.R_append (Kd.int .i64) (w0:=w0) w0.heap.size rfl (.tmp 39) (.tmp 41) 24 3 (.int .i64 0) 8 rfl Try.underlying24 info3 rfl (by decide) YP v586 y585 a1 [.int .i64 a1] (fun k_=>(P0_ k_ ∨ w.heap.size ≤ k_) ∧ some k_ ≠ (.slice Ao31 l0.length co31:Value).ownBlock) (fun _=>False) rfl rfl ?aP (fun _ hk=>hk.elim) ?aF ?aO ?aB ?aS ?aL ?_;(case aP=>exact rfl);(case aB=>exact bH);(case aF=>exact Yo);(case aO=>exact (rR HO587));(case aS=>exact YR);(case aL=>have:=LMc27.out;omega);intro v589 w36 ho hb hg hat;rw [← Ny588.out] at ho;have n0_:=Aside0.mk (Kd.R_after (ok:=(fun k_=>(P0_ k_ ∨ w.heap.size ≤ k_))) (rR HO_0) hg hat);have n1_:=Aside0.mk (hb);have n2_:=Aside0.mk (Kept.of_grown (S:=(fun k_=>P0_ k_)) hg kH (fun k_ e_=>(HO587.out.1 k_ e_).1));have n3_:=Aside0.mk ((show Kd.C (Kd.int .i64) w36 Ao31 y581.length y581 from YN));have n4_:=Aside0.mk (ho);clear HO_0;clear HB;clear HK;clear HR584;clear HO587;have HO_0:=n0_;have HB:=n1_;have HK:=n2_;have HR584:=n3_;have HO590:=n4_;clear n0_ n1_ n2_ n3_ n4_;clear ho hb hg hat;have q37:(x5_1:Int) ≤ ((l0.length:Int):Int):=oD;obtain ⟨i037,hi037,_,hsz37,_⟩:=info_parts info3;have hroom37:l0.length ≤ co31:=(Kd.R_reads' HO_0.out).2.1;have hC37:Kd.C (Kd.int .i64) _ Ao31 l0.length l0:=(Kd.R_reads' HO_0.out).2.2;have q037:(0:Int) ≤ (x5_1:Int):=oD;have hcut37:=cut_from (P:=Try.prog) 24 3 .i64 Try.underlying24 hi037 1 hsz37 Ao31 l0.length co31 x5_1 q037 q37;have hr37:=Kd.C_drop (m:=(x5_1:Int).toNat) (c:=co31) hC37 (by omega) hroom37;obtain ⟨A37,hA37⟩:∃ A1_,A1_ = (if co31 = (x5_1:Int).toNat then Ao31 else (Ao31:Option Addr).map (·.add ((x5_1:Int).toNat * 1))):=⟨_,rfl⟩;obtain ⟨c37,hc37⟩:∃ c1_,c1_ = co31 - (x5_1:Int).toNat:=⟨_,rfl⟩;have hy37:y591.length = l0.length - (x5_1:Int).toNat:=(by rw [Ny591.out,List.length_drop] <;> omega);rw [show (l0).drop (x5_1:Int).toNat = y591 from Ny591.out.symm] at hr37;replace hr37:Kd.C (Kd.int .i64) _ A37 y591.length y591:=(by rw [hA37];exact hr37);rw [← hy37,← hA37,← hc37] at hcut37;have HR594:=Aside0.mk hr37;have HC594:=Aside0.mk (show y591.length ≤ c37 from by rw [hy37,hc37];exact Nat.sub_le_sub_right hroom37 _);clear hr37 hC37 hroom37 hi037 hsz37 hc37;have KY37:=Aside0.mk hy37;have KA37:=Aside0.mk hA37;clear hy37 hA37;have KL37:=Aside0.mk (show (x5_1:Int).toNat ≤ l0.length from by omega);replace q37:=eq_true q37)|((with_reducible refine gate_builtin (b:=.append) (xs:=#[.tmp 43,.tmp 46]) rfl ?_);at_builtin;refine Kd.R_append_rows (Kd.int .i64) (w0:=w0) w0.heap.size rfl (.tmp 43) (.tmp 46) 24 3 (.int .i64 0) 8 rfl Try.underlying24 info3 rfl (by decide) YP v589 y588 y591 _ _ _ (fun k_=>(P0_ k_ ∨ w.heap.size ≤ k_) ∧ some k_ ≠ (.slice Ao31 l0.length co31:Value).ownBlock) (fun _=>False) rfl rfl ?aO ?aR (fun _ _ h=>h) (fun _ h=>h.elim) ?aF ?aB ?aS ?aL ?_;(case aR=>repeat (first|exact (by repeat (first|(with_reducible exact HR594.out)|(with_reducible refine Kd.C_alloc ?_ _)|(with_reducible refine Kd.C_drewN ?_ _)|(with_reducible refine Kd.C_drew ?_)|exact HR594.out))|(with_reducible refine Kd.C_alloc ?_ _)|(with_reducible refine Kd.C_drewN ?_ _)|(with_reducible refine Kd.C_drew ?_)));(case aB=>exact bH);(case aF=>exact Yo);(case aO=>exact (rR HO590));(case aS=>exact YR);(case aL=>have:=LMc30.out;omega);intro v596 w38 ho hb hg hat;rw [← Ny595.out] at ho;have n0_:=Aside0.mk (Kd.R_after (ok:=(fun k_=>(P0_ k_ ∨ w.heap.size ≤ k_))) (rR HO_0) hg hat);have n1_:=Aside0.mk (hb);have n2_:=Aside0.mk (Kept.of_grown (S:=(fun k_=>P0_ k_)) hg kH (fun k_ e_=>(HO590.out.1 k_ e_).1));have n3_:=Aside0.mk ((show Kd.C (Kd.int .i64) w38 Ao31 y581.length y581 from YN));have n4_:=Aside0.mk ((show Kd.C (Kd.int .i64) w38 A37 y591.length y591 from by rw [Ny591.out,KA37.out];exact Kd.C_drop (m:=(x5_1:Int).toNat) (c:=co31) ((Kd.R_reads' (Kd.R_after (ok:=(fun k_=>(P0_ k_ ∨ w.heap.size ≤ k_))) (rR HO_0) hg hat)).2.2) KL37.out ((Kd.R_reads' (Kd.R_after (ok:=(fun k_=>(P0_ k_ ∨ w.heap.size ≤ k_))) (rR HO_0) hg hat)).2.1)));have n5_:=Aside0.mk (ho);clear HO_0;clear HB;clear HK;clear HR584;clear HR594;clear HO590;have HO_0:=n0_;have HB:=n1_;have HK:=n2_;have HR584:=n3_;have HR594:=n4_;have HO597:=n5_;clear n0_ n1_ n2_ n3_ n4_ n5_;clear ho hb hg hat))
    go_ret
    exact ⟨_,Yb,by (with_reducible repeat (first|apply Kd.R_alloc|apply Kd.R_drewN|apply Kd.R_drew));exact Kd.R_mono HO597.out (fun _ hk=>hk.1),bH,kH⟩

/-! ### spec_l1Vars: function 112 -/
def spec_l1Vars.l0:Nat → List Int → List Int → Int → Int → Option (List Int)
 | 0,_,_,_,_=>none
 | k + 1,x3,x6,x7,x8=>if x8 < x7 then (if 0 ≤ x8 then (if x8 < (x6.length:Int) then (if (rd x6 x8) < 0 then ((spec_l1Put.f k x3 (wrap64 ((-1) - (rd x6 x8)))).bind fun t599=>(spec_l1Vars.l0 k t599 x6 x7 (wrap64 (x8 + 1)))) else (spec_l1Vars.l0 k x3 x6 x7 (wrap64 (x8 + 1)))) else (none)) else (none)) else (some x3)
def spec_l1Vars.f (k:Nat) (l0:List Int):Option (List Int):=spec_l1Vars.l0 k ([]:List Int) l0 (l0.length:Int) 0
theorem spec_l1Vars.mono_l:∀ k,(∀ y0 y1 y2 y3,LeO (spec_l1Vars.l0 k y0 y1 y2 y3) (spec_l1Vars.l0 (k + 1) y0 y1 y2 y3))
 | 0=>fun _ _ _ _ r h=>by simp [spec_l1Vars.l0] at h
 | k + 1=>by
  have ih0:=spec_l1Vars.mono_l k
  ·intro y0 y1 y2 y3
   unfold spec_l1Vars.l0
   have m0:=@spec_l1Put.mono
   exact mO
theorem spec_l1Vars.mono:∀ a0 k,LeO (spec_l1Vars.f k a0) (spec_l1Vars.f (k + 1) a0):=by
 intro a0 k
 have ih0:=spec_l1Vars.mono_l k
 unfold spec_l1Vars.f
 have m0:=@spec_l1Put.mono
 exact mO
set_option maxHeartbeats 8000000 in
set_option maxRecDepth 100000 in
theorem spec_l1Vars.calls (k:Nat) (A0:Option Addr) (c0:Nat) (l0:List Int) (r:List Int) (w:World) (hr0:Kd.C (Kd.int .i64) w A0 l0.length l0) (hc0:l0.length ≤ c0) (h:spec_l1Vars.f k l0 = some r) :
  Calls Try.prog 112 #[.slice A0 l0.length c0] w fun e w'=>∃ v0_:Value,e = .returned (v0_) ∧ Kd.R (Kd.int .i64) 3 w' w.heap.size (fun _=>True) v0_ r ∧ Below w.heap.size w w':=by
 have HR0:=Aside0.mk hr0
 have HC0:=Aside0.mk hc0
 clear hr0 hc0
 have HB:=Aside0.mk (Below.refl w.heap.size w)
 have H:(spec_l1Vars.l0 k ([]:List Int) l0 (l0.length:Int) 0) = some r:=h
 clear h
 have H':=Aside0.mk H
 clear H
 go_enter Try.func112,Try.ntmps112
 go_wp2
 go_loopg [3,8] k (fun kq v3 v8 w'=>∃ (x3_1:List Int) (x8_1:Int),v8 = .int .i64 x8_1 ∧ Aside0 (spec_l1Vars.l0 kq x3_1 l0 (l0.length:Int) x8_1 = some r) ∧ Aside0 (kq ≤ k) ∧ Aside0 (Kd.R (Kd.int .i64) 3 w' w.heap.size (fun _=>True) v3 x3_1) ∧ Aside0 (Below w.heap.size w w'))
 case atStart=>exact ⟨(([]:List Int)),(0),Yd,H',⟨Nat.le_refl _⟩,⟨Yi⟩,⟨bH⟩⟩
 case round =>
  clear H'
  obtain ⟨x3_1,x8_1,rfl,HA,HK1,HO_3,HB⟩:=hrel
  cases gk with
  | zero=>exact absurd HA.out (by simp [spec_l1Vars.l0])
  | succ k1 =>
   have H:=HA.out
   clear HA
   simp only [spec_l1Vars.l0] at H
   by_cases c2:x8_1 < (l0.length:Int)
   ·rw [if_pos c2] at H
    have c2b0:=decide_eq_true c2
    clear c2
    replace H:=gI H;obtain ⟨c3b0,H⟩:=H
    replace H:=gI H;obtain ⟨c4b0,H⟩:=H
    by_cases c5:(rd l0 x8_1) < 0
    ·rw [if_pos c5] at H
     have c5b0:=decide_eq_true c5
     clear c5
     replace H:=bI H;obtain ⟨t599,A6,H⟩:=H
     have H':=Aside0.mk H
     clear H
     have p598:0 ≤ (x8_1:Int):=oD
     have q598:x8_1 < (l0.length:Int):=oD
     obtain ⟨ad598,e598,hx598_0⟩:=Kd.at_int HR0.out x8_1 p598 q598
     cases e598
     replace hx598_0:=(HB.out.cell (World.block_lt_of_cell? w _ hx598_0)).trans hx598_0
     replace p598:=eq_true p598
     replace q598:=eq_true q598
     obtain ⟨Ao7,co7,eo7⟩:=Kd.R_slice HO_3.out
     subst eo7
     go_wp2_with (first|((with_reducible refine gate_callee (f:=113) rfl ?_);refine goesL_ (some 17) rfl rfl Try.func113 (by kernel_rfl) rfl #[.slice Ao7 x3_1.length co7,.int .i64 (wrap64 ((-1) - (rd l0 x8_1)))] rfl Ya ?_;(with_reducible refine (spec_l1Put.calls k1 (fun k_=>some k_ = (.slice Ao7 x3_1.length co7:Value).ownBlock) (.slice Ao7 x3_1.length co7) x3_1 (wrap64 ((-1) - (rd l0 x8_1))) t599 w _ ?side1 ?side2 A6.out).mono ?_);(case side1=>exact bH);(case side2=>exact Kd.R_tight rfl HO_3.out);rintro e w8 ⟨v600,rfl,ho0,hb,hkp⟩;refine ⟨_,rfl,?_⟩;have n0_:=Aside0.mk (Kd.R_mono (ok':=fun k_=>True) ho0 (fun k_ hk_=>trivial));have n1_:=Aside0.mk (hb);clear HB;clear HO_3;have HO601:=n0_;have HB:=n1_;clear n0_ n1_;(try clear hb);(try clear hkp);clear ho0))
     go_roundg k1
     case measure=>have:=HK1.out;omega
     case rel=>exact ⟨(t599),(wrap64 (x8_1 + 1)),Yd,H',⟨YH⟩,⟨rR HO601⟩,⟨bH⟩⟩
    ·rw [if_neg c5] at H
     have c5b0:decide ((rd l0 x8_1) < 0) = false:=decide_eq_false c5
     clear c5
     have H':=Aside0.mk H
     clear H
     have p598:0 ≤ (x8_1:Int):=oD
     have q598:x8_1 < (l0.length:Int):=oD
     obtain ⟨ad598,e598,hx598_0⟩:=Kd.at_int HR0.out x8_1 p598 q598
     cases e598
     replace hx598_0:=(HB.out.cell (World.block_lt_of_cell? w _ hx598_0)).trans hx598_0
     replace p598:=eq_true p598
     replace q598:=eq_true q598
     go_wp2
     go_roundg k1
     case measure=>have:=HK1.out;omega
     case rel=>exact ⟨(x3_1),(wrap64 (x8_1 + 1)),Yd,H',⟨YH⟩,⟨rR HO_3⟩,⟨bH⟩⟩
   ·rw [if_neg c2] at H
    have c2b0:decide (x8_1 < (l0.length:Int)) = false:=decide_eq_false c2
    clear c2
    obtain rfl:=Option.some.inj H
    go_wp2
    go_ret
    exact ⟨_,Yb,rR HO_3,bH⟩

end Go.Proofs.Ytmgkflkfoccgkaa.QFnTidied
