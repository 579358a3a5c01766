-- Written by this session's own program (wip/x/xprint.py, over the kit's printer); Lean checks it.
import Derived.Test.YtmgkflkfoccgkaaQFnTidiedx0
import Derived.Test.YtmgkflkfoccgkaaQFnTidiedx10
namespace Go.Proofs.Ytmgkflkfoccgkaa.QFnTidied
open Go.RowKit Go.Proofs.YtmgkflkfoccgkaaW.PrintWords Go.Proofs.YtmgkflkfoccgkaaW.PrintLast Go.Proofs.YtmgkflkfoccgkaaW.PrintMore
attribute [local go_sem] max2_int min2_int max_two min_two max_three min_three max_four min_four   -- for this text's walks alone
set_option linter.unusedVariables false
set_option linter.unusedSimpArgs false

/-! ### spec_l1All: function 85 -/
def spec_l1All.l0:Nat → Int → Int → List Int → Int → Int → Option (Bool)
 | 0,_,_,_,_,_=>none
 | k + 1,x1,x2,x9,x10,x11=>if x11 < x10 then (if 0 ≤ x11 then (if x11 < (x9.length:Int) then ((spec_l1In.f (rd x9 x11) x1 x2).bind fun t387=>(if t387 = true then (spec_l1All.l0 k x1 x2 x9 x10 (wrap64 (x11 + 1))) else (some false))) else (none)) else (none)) else (some true)
def spec_l1All.f (k:Nat) (l0:List Int) (a1:Int) (a2:Int):Option (Bool):=spec_l1All.l0 k a1 a2 l0 (l0.length:Int) 0
theorem spec_l1All.mono_l:∀ k,(∀ y0 y1 y2 y3 y4,LeO (spec_l1All.l0 k y0 y1 y2 y3 y4) (spec_l1All.l0 (k + 1) y0 y1 y2 y3 y4))
 | 0=>fun _ _ _ _ _ r h=>by simp [spec_l1All.l0] at h
 | k + 1=>by
  have ih0:=spec_l1All.mono_l k
  ·intro y0 y1 y2 y3 y4
   unfold spec_l1All.l0
   exact mO
theorem spec_l1All.mono:∀ a0 a1 a2 k,LeO (spec_l1All.f k a0 a1 a2) (spec_l1All.f (k + 1) a0 a1 a2):=by
 intro a0 a1 a2 k
 have ih0:=spec_l1All.mono_l k
 unfold spec_l1All.f
 exact mO
set_option maxHeartbeats 8000000 in
set_option maxRecDepth 100000 in
theorem spec_l1All.calls (k:Nat) (A0:Option Addr) (c0:Nat) (l0:List Int) (a1:Int) (a2:Int) (r:Bool) (w:World) (hr0:Kd.C (Kd.int .i64) w A0 l0.length l0) (hc0:l0.length ≤ c0) (h:spec_l1All.f k l0 a1 a2 = some r) :
  Calls Try.prog 85 #[.slice A0 l0.length c0,.int .i64 a1,.int .i64 a2] w fun e w'=>e = .returned (.bool r) ∧ Drawn0 w w':=by
 have HR0:=Aside0.mk hr0
 have HC0:=Aside0.mk hc0
 clear hr0 hc0
 have H:(spec_l1All.l0 k a1 a2 l0 (l0.length:Int) 0) = some r:=h
 clear h
 have H':=Aside0.mk H
 clear H
 go_enter Try.func85,Try.ntmps85
 go_wp2
 go_loopg [11] k (fun kq v11 w'=>∃ (x11_1:Int),v11 = .int .i64 x11_1 ∧ Aside0 (spec_l1All.l0 kq a1 a2 l0 (l0.length:Int) x11_1 = some r) ∧ Aside0 (kq ≤ k) ∧ Drawn0 w w')
 case atStart=>exact ⟨(0),Yd,H',⟨Nat.le_refl _⟩,Yh⟩
 case round =>
  clear H'
  obtain ⟨x11_1,rfl,HA,HK1,⟨m1,rfl⟩⟩:=hrel
  cases gk with
  | zero=>exact absurd HA.out (by simp [spec_l1All.l0])
  | succ k1 =>
   have H:=HA.out
   clear HA
   simp only [spec_l1All.l0] at H
   by_cases c4:x11_1 < (l0.length:Int)
   ·rw [if_pos c4] at H
    have c4b0:=decide_eq_true c4
    clear c4
    replace H:=gI H;obtain ⟨c5b0,H⟩:=H
    replace H:=gI H;obtain ⟨c6b0,H⟩:=H
    replace H:=bI H;obtain ⟨t387,A7,H⟩:=H
    by_cases c8:t387 = true
    ·subst c8
     replace H:=pT H
     have H':=Aside0.mk H
     clear H
     obtain ⟨p386,q386,ad386,e386,hx386_0⟩:=aI HR0.out x11_1;cases e386
     go_wp2_with (first|((with_reducible refine gate_callee (f:=83) rfl ?_);refine goesL_ (some 18) rfl rfl Try.func83 (by kernel_rfl) rfl #[.int .i64 (rd l0 x11_1),.int .i64 a1,.int .i64 a2] rfl Ya ?_;(with_reducible refine (spec_l1In.calls (rd l0 x11_1) a1 a2 true _ A7.out).mono ?_);rintro e w' ⟨rfl,⟨nd,rfl⟩⟩;refine ⟨_,rfl,?_⟩))
     go_roundg k1
     case measure=>have:=HK1.out;omega
     case rel=>exact ⟨(wrap64 (x11_1 + 1)),Yd,H',⟨YH⟩,Yh⟩
    ·replace c8:=Bool.eq_false_iff.mpr c8
     subst c8
     replace H:=pF H
     obtain rfl:=Option.some.inj H
     obtain ⟨p386,q386,ad386,e386,hx386_0⟩:=aI HR0.out x11_1;cases e386
     go_wp2_with (first|((with_reducible refine gate_callee (f:=83) rfl ?_);refine goesL_ (some 18) rfl rfl Try.func83 (by kernel_rfl) rfl #[.int .i64 (rd l0 x11_1),.int .i64 a1,.int .i64 a2] rfl Ya ?_;(with_reducible refine (spec_l1In.calls (rd l0 x11_1) a1 a2 false _ A7.out).mono ?_);rintro e w' ⟨rfl,⟨nd,rfl⟩⟩;refine ⟨_,rfl,?_⟩))
     go_ret
     exact ⟨Yd,Yh⟩
   ·rw [if_neg c4] at H
    have c4b0:decide (x11_1 < (l0.length:Int)) = false:=decide_eq_false c4
    clear c4
    obtain rfl:=Option.some.inj H
    go_wp2
    go_ret
    exact ⟨Yd,Yh⟩

/-! ### spec_GoodSign: function 56 -/
def spec_GoodSign.f (k:Nat) (l0_0:List Int):Option (Bool):=(spec_l1In.f (l0_0.length:Int) 1 10).bind fun t389=>(if t389 = true then ((spec_l1All.f k l0_0 0 3).bind fun t390=>(if t390 = true then (if 0 < (l0_0.length:Int) then (some ((rd l0_0 0) == 0)) else (none)) else (some false))) else (some false))
theorem spec_GoodSign.mono:∀ a0 k,LeO (spec_GoodSign.f k a0) (spec_GoodSign.f (k + 1) a0):=by
 intro a0 k
 unfold spec_GoodSign.f
 have m0:=@spec_l1All.mono
 exact mO
set_option maxHeartbeats 8000000 in
set_option maxRecDepth 100000 in
theorem spec_GoodSign.calls (k:Nat) (A0_0:Option Addr) (c0_0:Nat) (l0_0:List Int) (r:Bool) (w:World) (hr0_0:Kd.C (Kd.int .i64) w A0_0 l0_0.length l0_0) (hc0_0:l0_0.length ≤ c0_0) (h:spec_GoodSign.f k l0_0 = some r) :
  Calls Try.prog 56 #[.agg #[.slice A0_0 l0_0.length c0_0]] w fun e w'=>e = .returned (.bool r) ∧ Below w.heap.size w w':=by
 have hu26:=Try.underlying26
 have HR0_0:=Aside0.mk hr0_0
 have HC0_0:=Aside0.mk hc0_0
 clear hr0_0 hc0_0
 have HB:=Aside0.mk (Below.refl w.heap.size w)
 have H:((spec_l1In.f (l0_0.length:Int) 1 10).bind fun t389=>(if t389 = true then ((spec_l1All.f k l0_0 0 3).bind fun t390=>(if t390 = true then (if 0 < (l0_0.length:Int) then (some ((rd l0_0 0) == 0)) else (none)) else (some false))) else (some false))) = some r:=h
 clear h
 replace H:=bI H;obtain ⟨t389,A2,H⟩:=H
 by_cases c3:t389 = true
 ·subst c3
  replace H:=pT H
  replace H:=bI H;obtain ⟨t390,A4,H⟩:=H
  by_cases c5:t390 = true
  ·subst c5
   replace H:=pT H
   replace H:=gJ H;obtain ⟨c6,H⟩:=H
   have c6b0:=decide_eq_true c6
   have c6b1:decide (0 < l0_0.length) = true:=decide_eq_true (by omega)
   clear c6
   obtain rfl:=Option.some.inj H
   go_enter Try.func56,Try.ntmps56
   go_wp2_with (first|(refine xB 1 #[.slice A0_0 l0_0.length c0_0] 26 ?_;intro gb388 hg w7 hbox hb;have BK388:=Aside0.mk (hbox);have GW388:=gZ w gb388;have GE388:=GW388;replace HB:=bS hb;clear hb hbox hg;have hcz8_0:=qc1_0 BK388;have hfz8_0:=fz BK388 0)|((with_reducible refine gate_callee (f:=83) rfl ?_);refine goesL_ (some 6) rfl rfl Try.func83 (by kernel_rfl) rfl #[.int .i64 (l0_0.length:Int),.int .i64 1,.int .i64 10] rfl Ya ?_;(with_reducible refine (spec_l1In.calls (l0_0.length:Int) 1 10 true _ A2.out).mono ?_);rintro e w' ⟨rfl,⟨nd,rfl⟩⟩;refine ⟨_,rfl,?_⟩)|(go_at_call 85;(with_reducible refine (spec_l1All.calls k _ _ l0_0 0 3 true _ ?side1 ?side2 A4.out).mono ?_);(case side1=>repeat (first|exact (Kd.C_below HR0_0.out bH)|(with_reducible refine Kd.C_alloc ?_ _)|(with_reducible refine Kd.C_drewN ?_ _)|(with_reducible refine Kd.C_drew ?_)));(case side2=>exact Yw);rintro e w' ⟨rfl,⟨nd,rfl⟩⟩;have p391:0 ≤ (0:Int):=(by omega);have q391:0 < (l0_0.length:Int):=oD;obtain ⟨ad391,e391,hx391_0⟩:=Kd.at_int HR0_0.out 0 p391 q391;cases e391;have qi391:(0 < l0_0.length) = True:=eq_true (by omega);(try rw [show ((0:Int)).toNat = 0 from rfl] at hx391_0);(try rw [Addr.add_zero'] at hx391_0);replace hx391_0:=(HB.out.cell (World.block_lt_of_cell? w _ hx391_0)).trans hx391_0;replace p391:=eq_true p391;replace q391:=eq_true q391))
   go_ret
   exact ⟨Yb,bH⟩
  ·replace c5:=Bool.eq_false_iff.mpr c5
   subst c5
   replace H:=pF H
   obtain rfl:=Option.some.inj H
   go_enter Try.func56,Try.ntmps56
   go_wp2_with (first|(refine xB 1 #[.slice A0_0 l0_0.length c0_0] 26 ?_;intro gb388 hg w9 hbox hb;have BK388:=Aside0.mk (hbox);have GW388:=gZ w gb388;have GE388:=GW388;replace HB:=bS hb;clear hb hbox hg;have hcz10_0:=qc1_0 BK388;have hfz10_0:=fz BK388 0)|((with_reducible refine gate_callee (f:=83) rfl ?_);refine goesL_ (some 6) rfl rfl Try.func83 (by kernel_rfl) rfl #[.int .i64 (l0_0.length:Int),.int .i64 1,.int .i64 10] rfl Ya ?_;(with_reducible refine (spec_l1In.calls (l0_0.length:Int) 1 10 true _ A2.out).mono ?_);rintro e w' ⟨rfl,⟨nd,rfl⟩⟩;refine ⟨_,rfl,?_⟩)|(go_at_call 85;(with_reducible refine (spec_l1All.calls k _ _ l0_0 0 3 false _ ?side1 ?side2 A4.out).mono ?_);(case side1=>repeat (first|exact (Kd.C_below HR0_0.out bH)|(with_reducible refine Kd.C_alloc ?_ _)|(with_reducible refine Kd.C_drewN ?_ _)|(with_reducible refine Kd.C_drew ?_)));(case side2=>exact Yw);rintro e w' ⟨rfl,⟨nd,rfl⟩⟩))
   go_ret
   exact ⟨Yb,bH⟩
 ·replace c3:=Bool.eq_false_iff.mpr c3
  subst c3
  replace H:=pF H
  obtain rfl:=Option.some.inj H
  go_enter Try.func56,Try.ntmps56
  go_wp2_with (first|(refine xB 1 #[.slice A0_0 l0_0.length c0_0] 26 ?_;intro gb388 hg w11 hbox hb;have BK388:=Aside0.mk (hbox);have GW388:=gZ w gb388;have GE388:=GW388;replace HB:=bS hb;clear hb hbox hg;have hcz12_0:=qc1_0 BK388;have hfz12_0:=fz BK388 0)|((with_reducible refine gate_callee (f:=83) rfl ?_);refine goesL_ (some 6) rfl rfl Try.func83 (by kernel_rfl) rfl #[.int .i64 (l0_0.length:Int),.int .i64 1,.int .i64 10] rfl Ya ?_;(with_reducible refine (spec_l1In.calls (l0_0.length:Int) 1 10 false _ A2.out).mono ?_);rintro e w' ⟨rfl,⟨nd,rfl⟩⟩;refine ⟨_,rfl,?_⟩))
  go_ret
  exact ⟨Yb,bH⟩

/-! ### spec_GoodClause: function 27 -/
def spec_GoodClause.f (k:Nat) (l0_0:List Int) (l1:List (S83)):Option (Bool):=(spec_GoodSign.f k l0_0).bind fun t393=>(if t393 = true then ((spec_l4Clause.f k l0_0 l1).bind fun t394=>(some t394)) else (some false))
theorem spec_GoodClause.mono:∀ a0 a1 k,LeO (spec_GoodClause.f k a0 a1) (spec_GoodClause.f (k + 1) a0 a1):=by
 intro a0 a1 k
 unfold spec_GoodClause.f
 have m0:=@spec_GoodSign.mono
 have m1:=@spec_l4Clause.mono
 exact mO
set_option maxHeartbeats 8000000 in
set_option maxRecDepth 100000 in
theorem spec_GoodClause.calls (k:Nat) (A0_0:Option Addr) (c0_0:Nat) (l0_0:List Int) (A1:Option Addr) (c1:Nat) (l1:List (S83)) (r:Bool) (w:World) (hr0_0:Kd.C (Kd.int .i64) w A0_0 l0_0.length l0_0) (hc0_0:l0_0.length ≤ c0_0) (hr1:Kd.C k83 w A1 l1.length l1) (hc1:l1.length ≤ c1) (h:spec_GoodClause.f k l0_0 l1 = some r) :
  Calls Try.prog 27 #[.agg #[.slice A0_0 l0_0.length c0_0],.slice A1 l1.length c1] w fun e w'=>e = .returned (.bool r) ∧ Below w.heap.size w w':=by
 have hu26:=Try.underlying26
 have HR0_0:=Aside0.mk hr0_0
 have HC0_0:=Aside0.mk hc0_0
 clear hr0_0 hc0_0
 have HR1:=Aside0.mk hr1
 have HC1:=Aside0.mk hc1
 clear hr1 hc1
 have HB:=Aside0.mk (Below.refl w.heap.size w)
 have H:((spec_GoodSign.f k l0_0).bind fun t393=>(if t393 = true then ((spec_l4Clause.f k l0_0 l1).bind fun t394=>(some t394)) else (some false))) = some r:=h
 clear h
 replace H:=bI H;obtain ⟨t393,A3,H⟩:=H
 by_cases c4:t393 = true
 ·subst c4
  replace H:=pT H
  replace H:=bI H;obtain ⟨t394,A5,H⟩:=H
  obtain rfl:=Option.some.inj H
  go_enter Try.func27,Try.ntmps27
  go_wp2_with (first|(refine xB 2 #[.slice A0_0 l0_0.length c0_0] 26 ?_;intro gb392 hg w6 hbox hb;have BK392:=Aside0.mk (hbox);have GW392:=gZ w gb392;have GE392:=GW392;replace HB:=bS hb;clear hb hbox hg;have hcz7_0:=qc1_0 BK392;have hfz7_0:=fz BK392 0)|((with_reducible refine gate_callee (f:=56) rfl ?_);refine goesL_ (some 6) rfl rfl Try.func56 (by kernel_rfl) rfl #[.agg #[.slice A0_0 l0_0.length c0_0]] rfl Ya ?_;(with_reducible refine (spec_GoodSign.calls k _ _ l0_0 true _ ?side1 ?side2 A3.out).mono ?_);(case side1=>exact Yx);(case side2=>exact Yw);rintro e w8 ⟨rfl,hb⟩;refine ⟨_,rfl,?_⟩;replace BK392:=bb BK392 hb;replace HB:=bS hb;(try clear hb);(try clear hb2);(try clear hk);(try clear hi);have hcz9_0:=qc1_0 BK392;have hfz9_0:=fz BK392 0)|(go_at_call 52;(with_reducible refine (spec_l4Clause.calls k _ _ l0_0 _ _ l1 t394 _ ?side1 ?side2 ?side3 ?side4 A5.out).mono ?_);(case side1=>exact Yx);(case side2=>exact Yw);(case side3=>exact sC HR1);(case side4=>exact HC1.out);rintro e w10 ⟨rfl,hb⟩;replace BK392:=bb BK392 hb;replace HB:=bS hb;clear hb))
  go_ret
  exact ⟨Yb,bH⟩
 ·replace c4:=Bool.eq_false_iff.mpr c4
  subst c4
  replace H:=pF H
  obtain rfl:=Option.some.inj H
  go_enter Try.func27,Try.ntmps27
  go_wp2_with (first|(refine xB 2 #[.slice A0_0 l0_0.length c0_0] 26 ?_;intro gb392 hg w11 hbox hb;have BK392:=Aside0.mk (hbox);have GW392:=gZ w gb392;have GE392:=GW392;replace HB:=bS hb;clear hb hbox hg;have hcz12_0:=qc1_0 BK392;have hfz12_0:=fz BK392 0)|((with_reducible refine gate_callee (f:=56) rfl ?_);refine goesL_ (some 6) rfl rfl Try.func56 (by kernel_rfl) rfl #[.agg #[.slice A0_0 l0_0.length c0_0]] rfl Ya ?_;(with_reducible refine (spec_GoodSign.calls k _ _ l0_0 false _ ?side1 ?side2 A3.out).mono ?_);(case side1=>exact Yx);(case side2=>exact Yw);rintro e w13 ⟨rfl,hb⟩;refine ⟨_,rfl,?_⟩;replace BK392:=bb BK392 hb;replace HB:=bS hb;clear hb))
  go_ret
  exact ⟨Yb,bH⟩

/-! ### spec_l1Same: function 101 -/
def spec_l1Same.l0:Nat → List Int → List Int → Int → Int → Option (Bool)
 | 0,_,_,_,_=>none
 | k + 1,x0,x1,x12,x13=>if x13 < x12 then (if 0 ≤ x13 then (if x13 < (x0.length:Int) then (if x13 < (x1.length:Int) then (if (rd x0 x13) = (rd x1 x13) then (spec_l1Same.l0 k x0 x1 x12 (wrap64 (x13 + 1))) else (some false)) else (none)) else (none)) else (none)) else (some true)
def spec_l1Same.f (k:Nat) (l0:List Int) (l1:List Int):Option (Bool):=if (l0.length:Int) = (l1.length:Int) then (spec_l1Same.l0 k l0 l1 (l0.length:Int) 0) else (some false)
theorem spec_l1Same.mono_l:∀ k,(∀ y0 y1 y2 y3,LeO (spec_l1Same.l0 k y0 y1 y2 y3) (spec_l1Same.l0 (k + 1) y0 y1 y2 y3))
 | 0=>fun _ _ _ _ r h=>by simp [spec_l1Same.l0] at h
 | k + 1=>by
  have ih0:=spec_l1Same.mono_l k
  ·intro y0 y1 y2 y3
   unfold spec_l1Same.l0
   exact mO
theorem spec_l1Same.mono:∀ a0 a1 k,LeO (spec_l1Same.f k a0 a1) (spec_l1Same.f (k + 1) a0 a1):=by
 intro a0 a1 k
 have ih0:=spec_l1Same.mono_l k
 unfold spec_l1Same.f
 exact mO
set_option maxHeartbeats 8000000 in
set_option maxRecDepth 100000 in
theorem spec_l1Same.calls (k:Nat) (A0:Option Addr) (c0:Nat) (l0:List Int) (A1:Option Addr) (c1:Nat) (l1:List Int) (r:Bool) (w:World) (hr0:Kd.C (Kd.int .i64) w A0 l0.length l0) (hc0:l0.length ≤ c0) (hr1:Kd.C (Kd.int .i64) w A1 l1.length l1) (hc1:l1.length ≤ c1) (h:spec_l1Same.f k l0 l1 = some r) :
  Calls Try.prog 101 #[.slice A0 l0.length c0,.slice A1 l1.length c1] w fun e w'=>e = .returned (.bool r) ∧ Drawn0 w w':=by
 have HR0:=Aside0.mk hr0
 have HC0:=Aside0.mk hc0
 clear hr0 hc0
 have HR1:=Aside0.mk hr1
 have HC1:=Aside0.mk hc1
 clear hr1 hc1
 have H:(if (l0.length:Int) = (l1.length:Int) then (spec_l1Same.l0 k l0 l1 (l0.length:Int) 0) else (some false)) = some r:=h
 clear h
 by_cases c3:(l0.length:Int) = (l1.length:Int)
 ·rw [if_pos c3] at H
  have c3b0:((l0.length:Int) == (l1.length:Int)) = true:=beq_iff_eq.mpr c3
  have c3b1:((l0.length:Int) != (l1.length:Int)) = false:=bne_eq_false_iff_eq.mpr c3
  have c3b2:(l0.length == l1.length) = true:=by first|simpa using c3|(simp at c3 ⊢;omega)
  clear c3
  have H':=Aside0.mk H
  clear H
  go_enter Try.func101,Try.ntmps101
  go_wp2
  repeat (go_quiet (fail);try go_wp2)
  go_loopg [13] k (fun kq v13 w'=>∃ (x13_1:Int),v13 = .int .i64 x13_1 ∧ Aside0 (spec_l1Same.l0 kq l0 l1 (l0.length:Int) x13_1 = some r) ∧ Aside0 (kq ≤ k) ∧ Drawn0 w w')
  case atStart=>exact ⟨(0),Yd,H',⟨Nat.le_refl _⟩,Yh⟩
  case round =>
   clear H'
   (try clear c1);(try clear c3);(try clear c3b0);(try clear c3b1);(try clear c3b2)
   obtain ⟨x13_1,rfl,HA,HK1,⟨m1,rfl⟩⟩:=hrel
   cases gk with
   | zero=>exact absurd HA.out (by simp [spec_l1Same.l0])
   | succ k1 =>
    have H:=HA.out
    clear HA
    simp only [spec_l1Same.l0] at H
    by_cases c4:x13_1 < (l0.length:Int)
    ·rw [if_pos c4] at H
     have c4b0:=decide_eq_true c4
     clear c4
     replace H:=gI H;obtain ⟨c5b0,H⟩:=H
     replace H:=gI H;obtain ⟨c6b0,H⟩:=H
     replace H:=gI H;obtain ⟨c7b0,H⟩:=H
     by_cases c8:(rd l0 x13_1) = (rd l1 x13_1)
     ·rw [if_pos c8] at H
      have c8b0:((rd l0 x13_1) == (rd l1 x13_1)) = true:=beq_iff_eq.mpr c8
      have c8b1:((rd l0 x13_1) != (rd l1 x13_1)) = false:=bne_eq_false_iff_eq.mpr c8
      clear c8
      have H':=Aside0.mk H
      clear H
      obtain ⟨p395,q395,ad395,e395,hx395_0⟩:=aI HR0.out x13_1;cases e395
      obtain ⟨p396,q396,ad396,e396,hx396_0⟩:=aI HR1.out x13_1;cases e396
      go_wp2
      repeat (go_quiet (fail);try go_wp2)
      go_roundg k1
      case measure=>have:=HK1.out;omega
      case rel=>exact ⟨(wrap64 (x13_1 + 1)),Yd,H',⟨YH⟩,Yh⟩
     ·rw [if_neg c8] at H
      have c8b0:((rd l0 x13_1) == (rd l1 x13_1)) = false:=beq_eq_false_iff_ne.mpr c8
      have c8b1:((rd l0 x13_1) != (rd l1 x13_1)) = true:=bne_iff_ne.mpr c8
      obtain rfl:=Option.some.inj H
      obtain ⟨p395,q395,ad395,e395,hx395_0⟩:=aI HR0.out x13_1;cases e395
      obtain ⟨p396,q396,ad396,e396,hx396_0⟩:=aI HR1.out x13_1;cases e396
      go_wp2
      repeat (go_quiet (fail);try go_wp2)
      go_ret
      exact ⟨Yd,Yh⟩
    ·rw [if_neg c4] at H
     have c4b0:decide (x13_1 < (l0.length:Int)) = false:=decide_eq_false c4
     clear c4
     obtain rfl:=Option.some.inj H
     go_wp2
     repeat (go_quiet (fail);try go_wp2)
     go_ret
     exact ⟨Yd,Yh⟩
 ·rw [if_neg c3] at H
  have c3b0:((l0.length:Int) == (l1.length:Int)) = false:=beq_eq_false_iff_ne.mpr c3
  have c3b1:((l0.length:Int) != (l1.length:Int)) = true:=bne_iff_ne.mpr c3
  have c3b2:(l0.length == l1.length) = false:=by first|simpa using c3|(simp at c3 ⊢;omega)
  obtain rfl:=Option.some.inj H
  go_enter Try.func101,Try.ntmps101
  go_wp2
  repeat (go_quiet (fail);try go_wp2)
  go_ret
  exact ⟨Yd,Yh⟩

/-! ### spec_l4SameTerms: function 102, by a walk of this session's own -/
def spec_l4SameTerms.f (k:Nat) (a0_0:Bool) (l0_1:List Int) (l0_2:List Int) (a1_0:Bool) (l1_1:List Int) (l1_2:List Int):Option Bool:=(spec_l1Same.f k l0_1 l1_1).bind fun t1=>(if t1 = true then ((spec_l1Same.f k l0_2 l1_2).bind fun t2=>(if t2 = true then (some true) else ((spec_l1Same.f k l0_1 l1_2).bind fun t3=>(if t3 = true then ((spec_l1Same.f k l0_2 l1_1).bind fun t4=>(some t4)) else (some false))))) else ((spec_l1Same.f k l0_1 l1_2).bind fun t3=>(if t3 = true then ((spec_l1Same.f k l0_2 l1_1).bind fun t4=>(some t4)) else (some false))))
theorem spec_l4SameTerms.mono (a0_0:Bool) (l0_1:List Int) (l0_2:List Int) (a1_0:Bool) (l1_1:List Int) (l1_2:List Int) (k:Nat):LeO (spec_l4SameTerms.f k a0_0 l0_1 l0_2 a1_0 l1_1 l1_2) (spec_l4SameTerms.f (k + 1) a0_0 l0_1 l0_2 a1_0 l1_1 l1_2):=by
 unfold spec_l4SameTerms.f
 exact LeO.bind (spec_l1Same.mono _ _ _) (fun _=>LeO.ite (LeO.bind (spec_l1Same.mono _ _ _) (fun _=>LeO.ite (LeO.refl _) (LeO.bind (spec_l1Same.mono _ _ _) (fun _=>LeO.ite (LeO.bind (spec_l1Same.mono _ _ _) (fun _=>LeO.refl _)) (LeO.refl _))))) (LeO.bind (spec_l1Same.mono _ _ _) (fun _=>LeO.ite (LeO.bind (spec_l1Same.mono _ _ _) (fun _=>LeO.refl _)) (LeO.refl _))))
set_option maxHeartbeats 8000000 in
set_option maxRecDepth 1000000 in
theorem spec_l4SameTerms.calls (k:Nat) (a0_0:Bool) (A0_1:Option Addr) (c0_1:Nat) (l0_1:List Int) (A0_2:Option Addr) (c0_2:Nat) (l0_2:List Int) (a1_0:Bool) (A1_1:Option Addr) (c1_1:Nat) (l1_1:List Int) (A1_2:Option Addr) (c1_2:Nat) (l1_2:List Int) (r:Bool) (w:World) (hr0_1:Kd.C (Kd.int .i64) w A0_1 l0_1.length l0_1) (hc0_1:l0_1.length ≤ c0_1) (hr0_2:Kd.C (Kd.int .i64) w A0_2 l0_2.length l0_2) (hc0_2:l0_2.length ≤ c0_2) (hr1_1:Kd.C (Kd.int .i64) w A1_1 l1_1.length l1_1) (hc1_1:l1_1.length ≤ c1_1) (hr1_2:Kd.C (Kd.int .i64) w A1_2 l1_2.length l1_2) (hc1_2:l1_2.length ≤ c1_2) (h:spec_l4SameTerms.f k a0_0 l0_1 l0_2 a1_0 l1_1 l1_2 = some r) :
  Calls Try.prog 102 #[.agg #[.bool a0_0,.slice A0_1 l0_1.length c0_1,.slice A0_2 l0_2.length c0_2],.agg #[.bool a1_0,.slice A1_1 l1_1.length c1_1,.slice A1_2 l1_2.length c1_2]] w fun e w'=>e = .returned (.bool r) ∧ Below w.heap.size w w':=by
 have P1:=Aside0.mk hr0_1
 have P2:=Aside0.mk hr0_2
 have Q1:=Aside0.mk hr1_1
 have Q2:=Aside0.mk hr1_2
 unfold spec_l4SameTerms.f at h
 have HH:=Aside0.mk h
 clear hr0_1 hr0_2 hr1_1 hr1_2 h
 go_enter Try.func102,Try.ntmps102
 go_upto_region 1 with fail
 have HX:=Aside0.mk (blk_alloc (heap_alloc_new w (.cells #[.bool a0_0,.slice A0_1 l0_1.length c0_1,.slice A0_2 l0_2.length c0_2] 83)) (.cells #[.bool a1_0,.slice A1_1 l1_1.length c1_1,.slice A1_2 l1_2.length c1_2] 83))
 have HY:=Aside0.mk (heap_alloc_new (w.alloc (.cells #[.bool a0_0,.slice A0_1 l0_1.length c0_1,.slice A0_2 l0_2.length c0_2] 83)) (.cells #[.bool a1_0,.slice A1_1 l1_1.length c1_1,.slice A1_2 l1_2.length c1_2] 83))
 have HB:=Aside0.mk (below_step (below_alloc (Below.refl w.heap.size w) (.cells #[.bool a0_0,.slice A0_1 l0_1.length c0_1,.slice A0_2 l0_2.length c0_2] 83)) (below_alloc (Below.refl _ _) (.cells #[.bool a1_0,.slice A1_1 l1_1.length c1_1,.slice A1_2 l1_2.length c1_2] 83)))
 have hsz:(w.alloc (.cells #[.bool a0_0,.slice A0_1 l0_1.length c0_1,.slice A0_2 l0_2.length c0_2] 83)).heap.size = w.heap.size + 1:=by unfold World.alloc;exact Array.size_push _
 rw [hsz] at HY
 clear hsz
 obtain ⟨gx,hgx⟩:∃ g,g = w.heap.size:=⟨_,rfl⟩
 obtain ⟨gy,hgy⟩:∃ g,g = w.heap.size + 1:=⟨_,rfl⟩
 generalize (w.alloc (.cells #[.bool a0_0,.slice A0_1 l0_1.length c0_1,.slice A0_2 l0_2.length c0_2] 83)).alloc (.cells #[.bool a1_0,.slice A1_1 l1_1.length c1_1,.slice A1_2 l1_2.length c1_2] 83) = W at HX HY HB ⊢
 rw [← hgy] at HY ⊢
 rw [← hgx] at HX ⊢
 clear hgx hgy
 have xa1:W.cell? ⟨gx,1,none⟩ = some (.slice A0_1 l0_1.length c0_1):=(blk_cell HX.out 1).trans rfl
 have xa2:W.cell? ⟨gx,2,none⟩ = some (.slice A0_2 l0_2.length c0_2):=(blk_cell HX.out 2).trans rfl
 have ya1:W.cell? ⟨gy,1,none⟩ = some (.slice A1_1 l1_1.length c1_1):=(blk_cell HY.out 1).trans rfl
 have ya2:W.cell? ⟨gy,2,none⟩ = some (.slice A1_2 l1_2.length c1_2):=(blk_cell HY.out 2).trans rfl
 have h9:=HH.out
 clear HH
 obtain ⟨t1,e1,h9⟩:=Option.bind_eq_some_iff.1 h9
 have E1:=Aside0.mk e1
 clear e1
 cases t1 with
 | false =>
  simp only [Bool.false_eq_true,if_false] at h9
  obtain ⟨t3,e3,h9⟩:=Option.bind_eq_some_iff.1 h9
  have E3:=Aside0.mk e3
  cases t3 with
  | false =>
   simp only [Bool.false_eq_true,if_false,Option.some.injEq] at h9
   subst h9
   clear e3
   have c1:=spec_l1Same.calls k A0_1 c0_1 l0_1 A1_1 c1_1 l1_1 false W (Kd.C_below P1.out HB.out) hc0_1 (Kd.C_below Q1.out HB.out) hc1_1 E1.out
   go_wp2_with (first|(go_at_call 101;refine c1.mono ?_;clear c1;first|rintro e_ W1 rfl hd|rintro e_ W1 ⟨rfl,hd⟩;have HX:=Aside0.mk ((hd.below.block gx (blk_lt HX.out)).trans HX.out);have HY:=Aside0.mk ((hd.below.block gy (blk_lt HY.out)).trans HY.out);have HB:=Aside0.mk (below_step HB.out hd.below);clear hd;have xb1:W1.cell? ⟨gx,1,none⟩ = some (.slice A0_1 l0_1.length c0_1):=(blk_cell HX.out 1).trans rfl;have xb2:W1.cell? ⟨gx,2,none⟩ = some (.slice A0_2 l0_2.length c0_2):=(blk_cell HX.out 2).trans rfl;have yb1:W1.cell? ⟨gy,1,none⟩ = some (.slice A1_1 l1_1.length c1_1):=(blk_cell HY.out 1).trans rfl;have yb2:W1.cell? ⟨gy,2,none⟩ = some (.slice A1_2 l1_2.length c1_2):=(blk_cell HY.out 2).trans rfl;have c2:=spec_l1Same.calls k A0_1 c0_1 l0_1 A1_2 c1_2 l1_2 false W1 (Kd.C_below P1.out HB.out) hc0_1 (Kd.C_below Q2.out HB.out) hc1_2 E3.out)|(go_at_call 101;refine c2.mono ?_;clear c2;first|rintro e_ W2 rfl hd|rintro e_ W2 ⟨rfl,hd⟩;have HX:=Aside0.mk ((hd.below.block gx (blk_lt HX.out)).trans HX.out);have HY:=Aside0.mk ((hd.below.block gy (blk_lt HY.out)).trans HY.out);have HB:=Aside0.mk (below_step HB.out hd.below);clear hd))
   go_ret
   exact ⟨rfl,HB.out⟩
  | true =>
   simp only [if_true] at h9
   obtain ⟨t4,e4,h9⟩:=Option.bind_eq_some_iff.1 h9
   have E4:=Aside0.mk e4
   simp only [Option.some.injEq] at h9
   subst h9
   clear e3 e4
   have c1:=spec_l1Same.calls k A0_1 c0_1 l0_1 A1_1 c1_1 l1_1 false W (Kd.C_below P1.out HB.out) hc0_1 (Kd.C_below Q1.out HB.out) hc1_1 E1.out
   go_wp2_with (first|(go_at_call 101;refine c1.mono ?_;clear c1;first|rintro e_ W1 rfl hd|rintro e_ W1 ⟨rfl,hd⟩;have HX:=Aside0.mk ((hd.below.block gx (blk_lt HX.out)).trans HX.out);have HY:=Aside0.mk ((hd.below.block gy (blk_lt HY.out)).trans HY.out);have HB:=Aside0.mk (below_step HB.out hd.below);clear hd;have xb1:W1.cell? ⟨gx,1,none⟩ = some (.slice A0_1 l0_1.length c0_1):=(blk_cell HX.out 1).trans rfl;have xb2:W1.cell? ⟨gx,2,none⟩ = some (.slice A0_2 l0_2.length c0_2):=(blk_cell HX.out 2).trans rfl;have yb1:W1.cell? ⟨gy,1,none⟩ = some (.slice A1_1 l1_1.length c1_1):=(blk_cell HY.out 1).trans rfl;have yb2:W1.cell? ⟨gy,2,none⟩ = some (.slice A1_2 l1_2.length c1_2):=(blk_cell HY.out 2).trans rfl;have c2:=spec_l1Same.calls k A0_1 c0_1 l0_1 A1_2 c1_2 l1_2 true W1 (Kd.C_below P1.out HB.out) hc0_1 (Kd.C_below Q2.out HB.out) hc1_2 E3.out)|(go_at_call 101;refine c2.mono ?_;clear c2;first|rintro e_ W2 rfl hd|rintro e_ W2 ⟨rfl,hd⟩;have HX:=Aside0.mk ((hd.below.block gx (blk_lt HX.out)).trans HX.out);have HY:=Aside0.mk ((hd.below.block gy (blk_lt HY.out)).trans HY.out);have HB:=Aside0.mk (below_step HB.out hd.below);clear hd;have xc1:W2.cell? ⟨gx,1,none⟩ = some (.slice A0_1 l0_1.length c0_1):=(blk_cell HX.out 1).trans rfl;have xc2:W2.cell? ⟨gx,2,none⟩ = some (.slice A0_2 l0_2.length c0_2):=(blk_cell HX.out 2).trans rfl;have yc1:W2.cell? ⟨gy,1,none⟩ = some (.slice A1_1 l1_1.length c1_1):=(blk_cell HY.out 1).trans rfl;have yc2:W2.cell? ⟨gy,2,none⟩ = some (.slice A1_2 l1_2.length c1_2):=(blk_cell HY.out 2).trans rfl;have c3:=spec_l1Same.calls k A0_2 c0_2 l0_2 A1_1 c1_1 l1_1 t4 W2 (Kd.C_below P2.out HB.out) hc0_2 (Kd.C_below Q1.out HB.out) hc1_1 E4.out)|(go_at_call 101;refine c3.mono ?_;clear c3;first|rintro e_ W3 rfl hd|rintro e_ W3 ⟨rfl,hd⟩;have HX:=Aside0.mk ((hd.below.block gx (blk_lt HX.out)).trans HX.out);have HY:=Aside0.mk ((hd.below.block gy (blk_lt HY.out)).trans HY.out);have HB:=Aside0.mk (below_step HB.out hd.below);clear hd))
   go_ret
   exact ⟨rfl,HB.out⟩
 | true =>
  simp only [if_true] at h9
  obtain ⟨t2,e2,h9⟩:=Option.bind_eq_some_iff.1 h9
  have E2:=Aside0.mk e2
  clear e2
  cases t2 with
  | true =>
   simp only [if_true,Option.some.injEq] at h9
   subst h9
   have c1:=spec_l1Same.calls k A0_1 c0_1 l0_1 A1_1 c1_1 l1_1 true W (Kd.C_below P1.out HB.out) hc0_1 (Kd.C_below Q1.out HB.out) hc1_1 E1.out
   go_wp2_with (first|(go_at_call 101;refine c1.mono ?_;clear c1;first|rintro e_ W1 rfl hd|rintro e_ W1 ⟨rfl,hd⟩;have HX:=Aside0.mk ((hd.below.block gx (blk_lt HX.out)).trans HX.out);have HY:=Aside0.mk ((hd.below.block gy (blk_lt HY.out)).trans HY.out);have HB:=Aside0.mk (below_step HB.out hd.below);clear hd;have xb1:W1.cell? ⟨gx,1,none⟩ = some (.slice A0_1 l0_1.length c0_1):=(blk_cell HX.out 1).trans rfl;have xb2:W1.cell? ⟨gx,2,none⟩ = some (.slice A0_2 l0_2.length c0_2):=(blk_cell HX.out 2).trans rfl;have yb1:W1.cell? ⟨gy,1,none⟩ = some (.slice A1_1 l1_1.length c1_1):=(blk_cell HY.out 1).trans rfl;have yb2:W1.cell? ⟨gy,2,none⟩ = some (.slice A1_2 l1_2.length c1_2):=(blk_cell HY.out 2).trans rfl;have c2:=spec_l1Same.calls k A0_2 c0_2 l0_2 A1_2 c1_2 l1_2 true W1 (Kd.C_below P2.out HB.out) hc0_2 (Kd.C_below Q2.out HB.out) hc1_2 E2.out)|(go_at_call 101;refine c2.mono ?_;clear c2;first|rintro e_ W2 rfl hd|rintro e_ W2 ⟨rfl,hd⟩;have HX:=Aside0.mk ((hd.below.block gx (blk_lt HX.out)).trans HX.out);have HY:=Aside0.mk ((hd.below.block gy (blk_lt HY.out)).trans HY.out);have HB:=Aside0.mk (below_step HB.out hd.below);clear hd))
   go_ret
   exact ⟨rfl,HB.out⟩
  | false =>
   simp only [Bool.false_eq_true,if_false] at h9
   obtain ⟨t3,e3,h9⟩:=Option.bind_eq_some_iff.1 h9
   have E3:=Aside0.mk e3
   cases t3 with
   | false =>
    simp only [Bool.false_eq_true,if_false,Option.some.injEq] at h9
    subst h9
    clear e3
    have c1:=spec_l1Same.calls k A0_1 c0_1 l0_1 A1_1 c1_1 l1_1 true W (Kd.C_below P1.out HB.out) hc0_1 (Kd.C_below Q1.out HB.out) hc1_1 E1.out
    go_wp2_with (first|(go_at_call 101;refine c1.mono ?_;clear c1;first|rintro e_ W1 rfl hd|rintro e_ W1 ⟨rfl,hd⟩;have HX:=Aside0.mk ((hd.below.block gx (blk_lt HX.out)).trans HX.out);have HY:=Aside0.mk ((hd.below.block gy (blk_lt HY.out)).trans HY.out);have HB:=Aside0.mk (below_step HB.out hd.below);clear hd;have xb1:W1.cell? ⟨gx,1,none⟩ = some (.slice A0_1 l0_1.length c0_1):=(blk_cell HX.out 1).trans rfl;have xb2:W1.cell? ⟨gx,2,none⟩ = some (.slice A0_2 l0_2.length c0_2):=(blk_cell HX.out 2).trans rfl;have yb1:W1.cell? ⟨gy,1,none⟩ = some (.slice A1_1 l1_1.length c1_1):=(blk_cell HY.out 1).trans rfl;have yb2:W1.cell? ⟨gy,2,none⟩ = some (.slice A1_2 l1_2.length c1_2):=(blk_cell HY.out 2).trans rfl;have c2:=spec_l1Same.calls k A0_2 c0_2 l0_2 A1_2 c1_2 l1_2 false W1 (Kd.C_below P2.out HB.out) hc0_2 (Kd.C_below Q2.out HB.out) hc1_2 E2.out)|(go_at_call 101;refine c2.mono ?_;clear c2;first|rintro e_ W2 rfl hd|rintro e_ W2 ⟨rfl,hd⟩;have HX:=Aside0.mk ((hd.below.block gx (blk_lt HX.out)).trans HX.out);have HY:=Aside0.mk ((hd.below.block gy (blk_lt HY.out)).trans HY.out);have HB:=Aside0.mk (below_step HB.out hd.below);clear hd;have xc1:W2.cell? ⟨gx,1,none⟩ = some (.slice A0_1 l0_1.length c0_1):=(blk_cell HX.out 1).trans rfl;have xc2:W2.cell? ⟨gx,2,none⟩ = some (.slice A0_2 l0_2.length c0_2):=(blk_cell HX.out 2).trans rfl;have yc1:W2.cell? ⟨gy,1,none⟩ = some (.slice A1_1 l1_1.length c1_1):=(blk_cell HY.out 1).trans rfl;have yc2:W2.cell? ⟨gy,2,none⟩ = some (.slice A1_2 l1_2.length c1_2):=(blk_cell HY.out 2).trans rfl;have c3:=spec_l1Same.calls k A0_1 c0_1 l0_1 A1_2 c1_2 l1_2 false W2 (Kd.C_below P1.out HB.out) hc0_1 (Kd.C_below Q2.out HB.out) hc1_2 E3.out)|(go_at_call 101;refine c3.mono ?_;clear c3;first|rintro e_ W3 rfl hd|rintro e_ W3 ⟨rfl,hd⟩;have HX:=Aside0.mk ((hd.below.block gx (blk_lt HX.out)).trans HX.out);have HY:=Aside0.mk ((hd.below.block gy (blk_lt HY.out)).trans HY.out);have HB:=Aside0.mk (below_step HB.out hd.below);clear hd))
    go_ret
    exact ⟨rfl,HB.out⟩
   | true =>
    simp only [if_true] at h9
    obtain ⟨t4,e4,h9⟩:=Option.bind_eq_some_iff.1 h9
    have E4:=Aside0.mk e4
    simp only [Option.some.injEq] at h9
    subst h9
    clear e3 e4
    have c1:=spec_l1Same.calls k A0_1 c0_1 l0_1 A1_1 c1_1 l1_1 true W (Kd.C_below P1.out HB.out) hc0_1 (Kd.C_below Q1.out HB.out) hc1_1 E1.out
    go_wp2_with (first|(go_at_call 101;refine c1.mono ?_;clear c1;first|rintro e_ W1 rfl hd|rintro e_ W1 ⟨rfl,hd⟩;have HX:=Aside0.mk ((hd.below.block gx (blk_lt HX.out)).trans HX.out);have HY:=Aside0.mk ((hd.below.block gy (blk_lt HY.out)).trans HY.out);have HB:=Aside0.mk (below_step HB.out hd.below);clear hd;have xb1:W1.cell? ⟨gx,1,none⟩ = some (.slice A0_1 l0_1.length c0_1):=(blk_cell HX.out 1).trans rfl;have xb2:W1.cell? ⟨gx,2,none⟩ = some (.slice A0_2 l0_2.length c0_2):=(blk_cell HX.out 2).trans rfl;have yb1:W1.cell? ⟨gy,1,none⟩ = some (.slice A1_1 l1_1.length c1_1):=(blk_cell HY.out 1).trans rfl;have yb2:W1.cell? ⟨gy,2,none⟩ = some (.slice A1_2 l1_2.length c1_2):=(blk_cell HY.out 2).trans rfl;have c2:=spec_l1Same.calls k A0_2 c0_2 l0_2 A1_2 c1_2 l1_2 false W1 (Kd.C_below P2.out HB.out) hc0_2 (Kd.C_below Q2.out HB.out) hc1_2 E2.out)|(go_at_call 101;refine c2.mono ?_;clear c2;first|rintro e_ W2 rfl hd|rintro e_ W2 ⟨rfl,hd⟩;have HX:=Aside0.mk ((hd.below.block gx (blk_lt HX.out)).trans HX.out);have HY:=Aside0.mk ((hd.below.block gy (blk_lt HY.out)).trans HY.out);have HB:=Aside0.mk (below_step HB.out hd.below);clear hd;have xc1:W2.cell? ⟨gx,1,none⟩ = some (.slice A0_1 l0_1.length c0_1):=(blk_cell HX.out 1).trans rfl;have xc2:W2.cell? ⟨gx,2,none⟩ = some (.slice A0_2 l0_2.length c0_2):=(blk_cell HX.out 2).trans rfl;have yc1:W2.cell? ⟨gy,1,none⟩ = some (.slice A1_1 l1_1.length c1_1):=(blk_cell HY.out 1).trans rfl;have yc2:W2.cell? ⟨gy,2,none⟩ = some (.slice A1_2 l1_2.length c1_2):=(blk_cell HY.out 2).trans rfl;have c3:=spec_l1Same.calls k A0_1 c0_1 l0_1 A1_2 c1_2 l1_2 true W2 (Kd.C_below P1.out HB.out) hc0_1 (Kd.C_below Q2.out HB.out) hc1_2 E3.out)|(go_at_call 101;refine c3.mono ?_;clear c3;first|rintro e_ W3 rfl hd|rintro e_ W3 ⟨rfl,hd⟩;have HX:=Aside0.mk ((hd.below.block gx (blk_lt HX.out)).trans HX.out);have HY:=Aside0.mk ((hd.below.block gy (blk_lt HY.out)).trans HY.out);have HB:=Aside0.mk (below_step HB.out hd.below);clear hd;have xd1:W3.cell? ⟨gx,1,none⟩ = some (.slice A0_1 l0_1.length c0_1):=(blk_cell HX.out 1).trans rfl;have xd2:W3.cell? ⟨gx,2,none⟩ = some (.slice A0_2 l0_2.length c0_2):=(blk_cell HX.out 2).trans rfl;have yd1:W3.cell? ⟨gy,1,none⟩ = some (.slice A1_1 l1_1.length c1_1):=(blk_cell HY.out 1).trans rfl;have yd2:W3.cell? ⟨gy,2,none⟩ = some (.slice A1_2 l1_2.length c1_2):=(blk_cell HY.out 2).trans rfl;have c4:=spec_l1Same.calls k A0_2 c0_2 l0_2 A1_1 c1_1 l1_1 t4 W3 (Kd.C_below P2.out HB.out) hc0_2 (Kd.C_below Q1.out HB.out) hc1_1 E4.out)|(go_at_call 101;refine c4.mono ?_;clear c4;first|rintro e_ W4 rfl hd|rintro e_ W4 ⟨rfl,hd⟩;have HX:=Aside0.mk ((hd.below.block gx (blk_lt HX.out)).trans HX.out);have HY:=Aside0.mk ((hd.below.block gy (blk_lt HY.out)).trans HY.out);have HB:=Aside0.mk (below_step HB.out hd.below);clear hd))
    go_ret
    exact ⟨rfl,HB.out⟩

/-! ### spec_l1Own: function 120 -/
def spec_l1Own.f (l0:List Int):Option (List Int):=(some (([]:List Int):List Int)).bind fun y397=>(if y397.length + l0.length < 17592186044416 then (some (y397 ++ l0)) else (none))
set_option maxHeartbeats 8000000 in
set_option maxRecDepth 100000 in
theorem spec_l1Own.calls (A0:Option Addr) (c0:Nat) (l0:List Int) (r:List Int) (w:World) (hr0:Kd.C (Kd.int .i64) w A0 l0.length l0) (hc0:l0.length ≤ c0) (h:spec_l1Own.f l0 = some r) :
  Calls Try.prog 120 #[.slice A0 l0.length c0] w fun e w'=>∃ v0_:Value,e = .returned (v0_) ∧ Kd.R (Kd.int .i64) 3 w' w.heap.size (fun _=>True) v0_ r ∧ Below w.heap.size w w':=by
 have HR0:=Aside0.mk hr0
 have HC0:=Aside0.mk hc0
 clear hr0 hc0
 have HB:=Aside0.mk (Below.refl w.heap.size w)
 have H:((some (([]:List Int):List Int)).bind fun y397=>(if y397.length + l0.length < 17592186044416 then (some (y397 ++ l0)) else (none))) = some r:=h
 clear h
 obtain ⟨y397,hy397⟩:∃ y_:List Int,y_ = (([]:List Int)):=⟨_,rfl⟩
 replace H:(if y397.length + l0.length < 17592186044416 then (some (y397 ++ l0)) else (none)) = some r:=by first|(rw [hy397];with_reducible exact H)|(have H2_:=(Option.bind_some _ _).symm.trans H;rw [hy397];with_reducible exact H2_)|(have H2_:=(Option.bind_some _ _).symm.trans H;with_reducible exact H2_)|with_reducible exact H|(rw [hy397];exact H)|exact H
 have Ny397:=Aside0.mk hy397
 clear hy397
 replace H:=gK H;obtain ⟨LMc2,H⟩:=H
 obtain ⟨y400,hy400⟩:∃ y_:List Int,y_ = (y397 ++ l0):=⟨_,rfl⟩
 replace H:(some y400) = some r:=by first|(rw [hy400];with_reducible exact H)|(have H2_:=(Option.bind_some _ _).symm.trans H;rw [hy400];with_reducible exact H2_)|(have H2_:=(Option.bind_some _ _).symm.trans H;with_reducible exact H2_)|with_reducible exact H|(rw [hy400];exact H)|exact H
 have Ny400:=Aside0.mk hy400
 clear hy400
 obtain rfl:=Option.some.inj H
 go_enter Try.func120,Try.ntmps120
 go_wp2_with (first|((with_reducible refine gate_dst (N:=3) rfl ?_);refine Kd.R_lit (Kd.int .i64) _ 3 ?hg (N:=3) ?hd (xs:=([]:List Int)) (inner:=[]) (ok:=fun _=>True) (okp:=fun _=>True) ?hr ?hp (fun _ hk=>hk) trivial (Below.refl _ _) (Nat.le_refl _) (by simp) ?_;(case hd=>rfl);(case hg=>rfl);(case hr=>exact Yc);(case hp=>exact (Reps.none _ _));intro v398 w3 ho4 hb hg_ hnew_;clear hg_ hnew_;(first|rw [← Ny397.out] at ho4|(simp only [Int.reduceToNat] at ho4;rw [← Ny397.out] at ho4));have HO399:=Aside0.mk (Kd.R_lower ho4 (below_size bH));replace HB:=bS hb;clear hb ho4)|((with_reducible refine gate_builtin (b:=.append) (xs:=#[.tmp 3,.tmp 4]) rfl ?_);at_builtin;refine Kd.R_append_rows (Kd.int .i64) (w0:=w) w.heap.size rfl (.tmp 3) (.tmp 4) 24 3 (.int .i64 0) 8 rfl Try.underlying24 info3 rfl (by decide) YP v398 y397 l0 _ _ _ (fun _=>True) (fun _=>False) rfl rfl ?aO ?aR (fun _ _ h=>h) (fun _ h=>h.elim) ?aF ?aB ?aS ?aL ?_;(case aR=>exact sC HR0);(case aB=>exact bH);(case aF=>exact (fun _ _=>trivial));(case aO=>exact (rR HO399));(case aS=>exact YR);(case aL=>have:=LMc2.out;omega);intro v401 w5 ho hb hg hat;rw [← Ny400.out] at ho;have n0_:=Aside0.mk (hb);have n1_:=Aside0.mk (ho);clear HB;clear HO399;have HB:=n0_;have HO402:=n1_;clear n0_ n1_;clear ho hb hg hat))
 go_ret
 exact ⟨_,Yb,rR HO402,bH⟩

/-! ### spec_l4Own: function 103 -/
def spec_l4Own.l0:Nat → List (S83) → List (S83) → Int → Int → Option ((List (S83)))
 | 0,_,_,_,_=>none
 | k + 1,x3,x6,x7,x8=>if x8 < x7 then (if 0 ≤ x8 then (if x8 < (x6.length:Int) then ((spec_l1Own.f ((rd_T83 x6 x8).f1)).bind fun t405=>((spec_l1Own.f ((rd_T83 x6 x8).f2)).bind fun t408=>(if x3.length < 2513169434916 then (spec_l4Own.l0 k (x3 ++ [(⟨(rd_T83 x6 x8).f0,t405,t408⟩:S83)]) x6 x7 (wrap64 (x8 + 1))) else (none)))) else (none)) else (none)) else (some x3)
def spec_l4Own.f (k:Nat) (l0:List (S83)):Option ((List (S83))):=spec_l4Own.l0 k ([]:List (S83)) l0 (l0.length:Int) 0
theorem spec_l4Own.mono_l:∀ k,(∀ y0 y1 y2 y3,LeO (spec_l4Own.l0 k y0 y1 y2 y3) (spec_l4Own.l0 (k + 1) y0 y1 y2 y3))
 | 0=>fun _ _ _ _ r h=>by simp [spec_l4Own.l0] at h
 | k + 1=>by
  have ih0:=spec_l4Own.mono_l k
  ·intro y0 y1 y2 y3
   unfold spec_l4Own.l0
   exact mO
theorem spec_l4Own.mono:∀ a0 k,LeO (spec_l4Own.f k a0) (spec_l4Own.f (k + 1) a0):=by
 intro a0 k
 have ih0:=spec_l4Own.mono_l k
 unfold spec_l4Own.f
 exact mO
def spec_l4Own.T5:Bool × List (List Nat × List Nat):=(true,[([],[]),([],[]),([1],[1]),([],[]),([3],[3]),([4],[4]),([],[]),([6],[6]),([7,5],[7]),([2,5,8],[2,5,8]),([9],[9]),([0,10,8],[0,10]),([11,11,0,1,2,3,4,5,6,7,8,9,10,11],[0,11])])
def spec_l4Own.B5:List Nat:=[0,0,2,0,8,24,0,64,248,510,1022,2047,4095]
theorem spec_l4Own.tab5:rtab .any (opsOf Try.f103 5) = spec_l4Own.T5:=by kernel_rfl
theorem spec_l4Own.bits5:waitsOk spec_l4Own.T5.2 spec_l4Own.B5 = true:=by kernel_rfl
set_option maxHeartbeats 8000000 in
set_option maxRecDepth 100000 in
theorem spec_l4Own.calls (k:Nat) (A0:Option Addr) (c0:Nat) (l0:List (S83)) (r:List (S83)) (w:World) (hr0:Kd.C k83 w A0 l0.length l0) (hc0:l0.length ≤ c0) (h:spec_l4Own.f k l0 = some r) :
  Calls Try.prog 103 #[.slice A0 l0.length c0] w fun e w'=>∃ v0_:Value,e = .returned (v0_) ∧ Kd.S k83 83 w' w.heap.size (fun _=>True) v0_ r ∧ Below w.heap.size w w':=by
 have hu83:=Try.underlying83
 have HR0:=Aside0.mk hr0
 have HC0:=Aside0.mk hc0
 clear hr0 hc0
 have HB:=Aside0.mk (Below.refl w.heap.size w)
 have H:(spec_l4Own.l0 k ([]:List (S83)) l0 (l0.length:Int) 0) = some r:=h
 clear h
 have H':=Aside0.mk H
 clear H
 go_enter Try.func103,Try.ntmps103
 go_wp2
 go_loopg [3,8] k (fun kq v3 v8 w'=>∃ (x3_1:List (S83)) (x8_1:Int),v8 = .int .i64 x8_1 ∧ Aside0 (spec_l4Own.l0 kq x3_1 l0 (l0.length:Int) x8_1 = some r) ∧ Aside0 (kq ≤ k) ∧ Aside0 (Kd.S k83 83 w' w.heap.size (fun _=>True) v3 x3_1) ∧ Aside0 (Below w.heap.size w w'))
 case atStart=>exact ⟨(([]:List (S83))),(0),Yd,H',⟨Nat.le_refl _⟩,⟨Yl⟩,⟨bH⟩⟩
 case round =>
  clear H'
  obtain ⟨x3_1,x8_1,rfl,HA,HK1,HO_3,HB⟩:=hrel
  cases gk with
  | zero=>exact absurd HA.out (by simp [spec_l4Own.l0])
  | succ k1 =>
   have H:=HA.out
   clear HA
   simp only [spec_l4Own.l0] at H
   by_cases c2:x8_1 < (l0.length:Int)
   ·rw [if_pos c2] at H
    have c2b0:=decide_eq_true c2
    clear c2
    replace H:=gI H;obtain ⟨c3b0,H⟩:=H
    replace H:=gI H;obtain ⟨c4b0,H⟩:=H
    replace H:=bI H;obtain ⟨t405,A5,H⟩:=H
    replace H:=bI H;obtain ⟨t408,A6,H⟩:=H
    replace H:=gK H;obtain ⟨LMc7,H⟩:=H
    obtain ⟨y411,hy411⟩:∃ y_:List (S83),y_ = (x3_1 ++ [(⟨(rd_T83 l0 x8_1).f0,t405,t408⟩:S83)]):=⟨_,rfl⟩
    replace H:(spec_l4Own.l0 k1 y411 l0 (l0.length:Int) (wrap64 (x8_1 + 1))) = some r:=by first|(rw [hy411];with_reducible exact H)|(have H2_:=(Option.bind_some _ _).symm.trans H;rw [hy411];with_reducible exact H2_)|(have H2_:=(Option.bind_some _ _).symm.trans H;with_reducible exact H2_)|with_reducible exact H|(rw [hy411];exact H)|exact H
    have Ny411:=Aside0.mk hy411
    clear hy411
    have H':=Aside0.mk H
    clear H
    have p403:0 ≤ (x8_1:Int):=oD
    have q403:x8_1 < (l0.length:Int):=oD
    obtain ⟨ad403,A403_1,c403_1,A403_2,c403_2,e403,hx403_0,hx403_1,hx403_2,hl403_1,hi403_1,hl403_2,hi403_2⟩:=at_T83 HR0.out x8_1 p403 q403
    cases e403
    replace hx403_0:=(HB.out.cell (World.block_lt_of_cell? w _ hx403_0)).trans hx403_0
    replace hx403_1:=(HB.out.cell (World.block_lt_of_cell? w _ hx403_1)).trans hx403_1
    replace hx403_2:=(HB.out.cell (World.block_lt_of_cell? w _ hx403_2)).trans hx403_2
    have HR403_1:=Aside0.mk hi403_1
    have HC403_1:=Aside0.mk hl403_1
    clear hi403_1 hl403_1
    have HR403_2:=Aside0.mk hi403_2
    have HC403_2:=Aside0.mk hl403_2
    clear hi403_2 hl403_2
    replace p403:=eq_true p403
    replace q403:=eq_true q403
    try go_wp2_with (first|(refine xB 5 #[.bool false,.slice none 0 0,.slice none 0 0] 83 ?_;intro gb404 hg w8 hbox hb;replace HO_3:=Aside0.mk (Kd.S_below (Kd.S_elderB (rS HO_3) gb404 (Nat.le_of_eq hg.symm)) hb);have BK404:=Aside0.mk (hbox);have GW404:=gZ w gb404;have GE404:=GW404;replace HB:=bS hb;clear hb hbox hg;have hcz9_0:=qc3_0 BK404;have hcz9_1:=qc3_1 BK404;have hcz9_2:=qc3_2 BK404;have hfz9_0:=fz BK404 0;have hfz9_1:=fz BK404 1;have hfz9_2:=fz BK404 2))
    have n0_:Aside0 (Kd.S k83 83 (((w8.setCell ⟨gb404,0,none⟩ (.bool ((rd_T83 l0 x8_1).f0))).setCell ⟨gb404,1,none⟩ (.slice A403_1 ((rd_T83 l0 x8_1).f1).length c403_1)).setCell ⟨gb404,2,none⟩ (.slice A403_2 ((rd_T83 l0 x8_1).f2).length c403_2)) w.heap.size (fun k_=>k_ ≠ gb404) u3 x3_1):=⟨by (with_reducible repeat (first|apply Kd.S_alloc|apply Kd.S_drewN|apply Kd.S_drew));exact Kd.S_mono (Kd.S_far (p:=⟨gb404,2,none⟩) (Kd.S_far (p:=⟨gb404,1,none⟩) (Kd.S_far (p:=⟨gb404,0,none⟩) (Kd.S_mono HO_3.out (fun k_ hk=>(⟨hk,hk.2⟩:_ ∧ k_ ≠ gb404))) (fun _ hk=>hk.2) (.bool ((rd_T83 l0 x8_1).f0))) (fun _ hk=>hk.2) (.slice A403_1 ((rd_T83 l0 x8_1).f1).length c403_1)) (fun _ hk=>hk.2) (.slice A403_2 ((rd_T83 l0 x8_1).f2).length c403_2)) (fun _ hk=>hk.1.2)⟩
    have n1_:Aside0 ((((w8.setCell ⟨gb404,0,none⟩ (.bool ((rd_T83 l0 x8_1).f0))).setCell ⟨gb404,1,none⟩ (.slice A403_1 ((rd_T83 l0 x8_1).f1).length c403_1)).setCell ⟨gb404,2,none⟩ (.slice A403_2 ((rd_T83 l0 x8_1).f2).length c403_2)).heap[gb404]? = some (.cells #[.bool ((rd_T83 l0 x8_1).f0),.slice A403_1 ((rd_T83 l0 x8_1).f1).length c403_1,.slice A403_2 ((rd_T83 l0 x8_1).f2).length c403_2] 83 (0,0))):=⟨by (with_reducible repeat (first|refine blk_drewN ?_ _|refine blk_drew ?_|refine blk_alloc ?_ _));refine blk_put (cs:=#[.bool ((rd_T83 l0 x8_1).f0),.slice A403_1 ((rd_T83 l0 x8_1).f1).length c403_1,.slice none 0 0]) ?_ 2 _ rfl;(with_reducible repeat (first|refine blk_drewN ?_ _|refine blk_drew ?_|refine blk_alloc ?_ _));refine blk_put (cs:=#[.bool ((rd_T83 l0 x8_1).f0),.slice none 0 0,.slice none 0 0]) ?_ 1 _ rfl;(with_reducible repeat (first|refine blk_drewN ?_ _|refine blk_drew ?_|refine blk_alloc ?_ _));refine blk_put (cs:=#[.bool false,.slice none 0 0,.slice none 0 0]) ?_ 0 _ rfl;(with_reducible repeat (first|refine blk_drewN ?_ _|refine blk_drew ?_|refine blk_alloc ?_ _));exact BK404.out⟩
    have n2_:Aside0 (Below w.heap.size w (((w8.setCell ⟨gb404,0,none⟩ (.bool ((rd_T83 l0 x8_1).f0))).setCell ⟨gb404,1,none⟩ (.slice A403_1 ((rd_T83 l0 x8_1).f1).length c403_1)).setCell ⟨gb404,2,none⟩ (.slice A403_2 ((rd_T83 l0 x8_1).f2).length c403_2))):=⟨bH⟩
    (try clear HO_3);(try clear BK404);(try clear HB)
    generalize (((w8.setCell ⟨gb404,0,none⟩ (.bool ((rd_T83 l0 x8_1).f0))).setCell ⟨gb404,1,none⟩ (.slice A403_1 ((rd_T83 l0 x8_1).f1).length c403_1)).setCell ⟨gb404,2,none⟩ (.slice A403_2 ((rd_T83 l0 x8_1).f2).length c403_2)) = w10 at n0_ n1_ n2_ ⊢
    have HO_3:=n0_
    have BK404:=n1_
    have HB:=n2_
    clear n0_ n1_ n2_
    replace HO_3:=Aside0.mk (Kd.S_drew HO_3.out);replace BK404:=Aside0.mk (blk_drew BK404.out);replace HB:=Aside0.mk (below_drew1 HB.out)
    refine start_ (n:=13) (S:=fun w'=>w'.cell? ⟨gb404,0,none⟩ = some (.bool ((rd_T83 l0 x8_1).f0)) ∧ w'.cell? ⟨gb404,1,none⟩ = some (.slice A403_1 ((rd_T83 l0 x8_1).f1).length c403_1) ∧ w'.cell? ⟨gb404,2,none⟩ = some (.slice A403_2 ((rd_T83 l0 x8_1).f2).length c403_2)) (ds:=[]) #[false,false,false,false,false,false,false,false,false,false,false,false,false] (by kernel_rfl) rfl rfl (qA3 BK404) (fun hHeld=>?_);refine with_tabW spec_l4Own.tab5 spec_l4Own.bits5 (fun HT_ HW_=>?_)
    generalize w10.drew = w11 at HO_3 BK404 HB hHeld ⊢
    refine pV 0 (some 12) (bs 13 1) HT_ ?_
    refine pV 1 (some 13) (bs 13 3) HT_ ?_
    refine pV 3 (some 15) (bs 13 11) HT_ ?_
    refine pV 6 (some 18) (bs 13 75) HT_ ?_
    refine tV3 2 (some 14) (bs 13 79) HT_ HW_ hHeld ?_
    refine tV3 4 (some 16) (bs 13 95) HT_ HW_ hHeld ?_
    refine tV3 7 (some 19) (bs 13 223) HT_ HW_ hHeld ?_
    refine oN 5 (some 17) (bs 13 255) HT_ fun K hK=>?_
    refine goes_ Try.func120 (by kernel_rfl) rfl #[.slice A403_1 ((rd_T83 l0 x8_1).f1).length c403_1] (by rfl) rfl rfl Ya ?_
    with_reducible refine (spec_l1Own.calls _ _ ((rd_T83 l0 x8_1).f1) t405 _ ?side1 ?side2 A5.out).mono ?_
    (case side1=>exact sC HR403_1)
    (case side2=>exact HC403_1.out)
    rintro e w12 ⟨v406,rfl,ho0,hb⟩
    refine ⟨_,rfl,?_⟩
    replace HO_3:=Aside0.mk (Kd.S_elder' (rS HO_3) (Kd.R_base ho0) hb);have HO407:=Aside0.mk (Kd.R_lower ho0 (below_size bH));replace BK404:=bb BK404 hb;replace HB:=bS hb
    (try clear hb);(try clear hk);(try clear ho0)
    refine hK.out _ _ (qA3 BK404) (fun hHeld=>?_)
    clear hK K
    refine nM (N:=some 17) ?_
    refine oN 8 (some 20) (bs 13 511) HT_ fun K hK=>?_
    refine goes_ Try.func120 (by kernel_rfl) rfl #[.slice A403_2 ((rd_T83 l0 x8_1).f2).length c403_2] (by rfl) rfl rfl Ya ?_
    with_reducible refine (spec_l1Own.calls _ _ ((rd_T83 l0 x8_1).f2) t408 _ ?side1 ?side2 A6.out).mono ?_
    (case side1=>exact sC HR403_2)
    (case side2=>exact HC403_2.out)
    rintro e w13 ⟨v409,rfl,ho0,hb⟩
    refine ⟨_,rfl,?_⟩
    replace HO_3:=Aside0.mk (Kd.S_elder' (rS HO_3) (Kd.R_base ho0) hb);have HO410:=Aside0.mk (Kd.R_lower (Kd.R_new' ho0 (Kd.R_lt (rR HO407))) (below_size bH));replace HO407:=Aside0.mk (Kd.R_elder' (rR HO407) (Kd.R_base ho0) hb);replace BK404:=bb BK404 hb;replace HB:=bS hb
    (try clear hb);(try clear hk);(try clear ho0)
    obtain ⟨Ao14,co14,eo14⟩:=Kd.R_slice HO410.out
    (first|subst eo14|(injection eo14 with f1_ f2_ f3_;have f4_:=f1_.symm;have f5_:=f3_.symm;clear f1_ f2_ f3_;subst f4_;subst f5_))
    obtain ⟨Ao15,co15,eo15⟩:=Kd.R_slice HO407.out
    (first|subst eo15|(injection eo15 with f1_ f2_ f3_;have f4_:=f1_.symm;have f5_:=f3_.symm;clear f1_ f2_ f3_;subst f4_;subst f5_))
    refine hK.out _ _ (qA3 BK404) (fun hHeld=>?_)
    clear hK K
    refine nM (N:=some 20) ?_
    refine pV 9 (some 21) (bs 13 1023) HT_ ?_
    refine oN 10 (some 22) (bs 13 2047) HT_ fun K hK=>?_
    refine value_ (w1:=?_) (v:=?_) (by rfl) rfl ?_ ?_
    rotate_left 2
    ·go_simp
     constructor
     ·rfl
     ·rfl
    refine hK.out _ _ ⟨(blk_cell (blk_alloc BK404.out _) 0).trans rfl,(blk_cell (blk_alloc BK404.out _) 1).trans rfl,(blk_cell (blk_alloc BK404.out _) 2).trans rfl⟩ (fun hHeld=>?_)
    clear hK K
    refine nM (N:=some 22) ?_
    refine oN 11 (some 23) (bs 13 4095) HT_ fun K hK=>?_
    refine Kd.S_append_step k83 (w0:=w) w.heap.size (by rfl) (.tmp 12) (.tmp 22) 40 83 (.agg #[(.bool false),(.slice none 0 0),(.slice none 0 0)]) 56 rfl Try.underlying40 info83 rfl (by decide) YP u3 x3_1 (⟨(rd_T83 l0 x8_1).f0,t405,t408⟩:S83) [.bool ((rd_T83 l0 x8_1).f0),.slice Ao15 t405.length co15,.slice Ao14 t408.length co14] (fun k_=>k_ ≠ gb404) (fun k_=>some k_ = (.slice Ao15 t405.length co15:Value).ownBlock ∨ some k_ = (.slice Ao14 t408.length co14:Value).ownBlock) rfl rfl ?aP (fun k_ hk_=>hk_.elim (fun h_=>((Kd.R_mono (ok':=fun k_=>((fun k_=>k_ ≠ gb404)) k_ ∧ some k_ ≠ (u3:Value).ownBlock) (Kd.R_types (Kd.R_apart' (HO407.out) (Kd.S_typed HO_3.out) (by decide)) BK404.out (by decide)) (fun k_ hk=>⟨hk.2,hk.1.2⟩))).1 k_ h_.symm) (fun h_=>((Kd.R_mono (ok':=fun k_=>((fun k_=>k_ ≠ gb404)) k_ ∧ some k_ ≠ (u3:Value).ownBlock) (Kd.R_types (Kd.R_apart' (HO410.out) (Kd.S_typed HO_3.out) (by decide)) BK404.out (by decide)) (fun k_ hk=>⟨hk.2,hk.1.2⟩))).1 k_ h_.symm)) ?aF ?aO ?aB ?aS ?aL ?_
    (case aP=>exact k83_mkM _ _ _ (⟨(rd_T83 l0 x8_1).f0,t405,t408⟩:S83) (Kd.R_mono (Kd.R_tight rfl (Kd.R_mono (ok':=fun k_=>((fun k_=>k_ ≠ gb404)) k_ ∧ some k_ ≠ (u3:Value).ownBlock) (Kd.R_types (Kd.R_apart' (HO407.out) (Kd.S_typed HO_3.out) (by decide)) BK404.out (by decide)) (fun k_ hk=>⟨hk.2,hk.1.2⟩))) (fun _ h_=>Or.inl h_)) (Kd.R_mono (Kd.R_tight rfl (Kd.R_mono (ok':=fun k_=>((fun k_=>k_ ≠ gb404)) k_ ∧ some k_ ≠ (u3:Value).ownBlock) (Kd.R_types (Kd.R_apart' (HO410.out) (Kd.S_typed HO_3.out) (by decide)) BK404.out (by decide)) (fun k_ hk=>⟨hk.2,hk.1.2⟩))) (fun _ h_=>Or.inr (h_))))
    (case aB=>exact bH)
    (case aF=>exact (fun k_ hk=>Kd.freshB (bB BK404) k_ hk))
    (case aO=>exact (by (with_reducible repeat (first|apply Kd.S_alloc|apply Kd.S_drewN|apply Kd.S_drew));exact Kd.S_mono HO_3.out (fun k_ hk=>⟨hk.1.1,fun e_=>e_.elim (fun h_=>hk.1.2 h_) (fun h_=>hk.2 h_)⟩)))
    (case aS=>exact YR)
    (case aL=>have:=LMc7.out;omega)
    intro v412 w16 ho hb hg hat
    rw [← Ny411.out] at ho
    have n0_:=Aside0.mk (blk_grown (bB BK404) hg (Kd.S_away HO_3.out (fun _ hk=>hk.1.1)));have n1_:=Aside0.mk (hb);have n2_:=Aside0.mk (ho);clear BK404;clear HB;clear HO_3;clear HO407;clear HO410;have BK404:=n0_;have HB:=n1_;have HO413:=n2_;clear n0_ n1_ n2_
    clear ho hb hg hat
    refine hK.out _ _ (qA3 BK404) (fun hHeld=>?_)
    clear hK K
    refine nM (N:=some 23) ?_
    refine pV 12 (some 3) (bs 13 8191) HT_ ?_
    refine done_ (done_of HT_.out (by kernel_rfl)) ?_
    try go_wp2
    go_roundg k1
    case measure=>have:=HK1.out;omega
    case rel=>exact ⟨(y411),(wrap64 (x8_1 + 1)),Yd,H',⟨YH⟩,⟨by (with_reducible repeat (first|apply Kd.S_alloc|apply Kd.S_drewN|apply Kd.S_drew));exact Kd.S_mono HO413.out (fun _ hk=>trivial)⟩,⟨bH⟩⟩
   ·rw [if_neg c2] at H
    have c2b0:decide (x8_1 < (l0.length:Int)) = false:=decide_eq_false c2
    clear c2
    obtain rfl:=Option.some.inj H
    go_wp2
    go_ret
    exact ⟨_,Yb,rS HO_3,bH⟩

end Go.Proofs.Ytmgkflkfoccgkaa.QFnTidied
