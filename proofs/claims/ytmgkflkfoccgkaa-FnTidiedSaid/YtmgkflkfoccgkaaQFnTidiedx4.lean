-- Written by this session's own program (wip/x/xprint.py, over the kit's printer); Lean checks it.
import Derived.Test.YtmgkflkfoccgkaaQFnTidiedx0
import Derived.Test.YtmgkflkfoccgkaaQFnTidiedx1
import Derived.Test.YtmgkflkfoccgkaaQFnTidiedx2
import Derived.Test.YtmgkflkfoccgkaaQFnTidiedx3
namespace Go.Proofs.Ytmgkflkfoccgkaa.QFnTidied
open Go.RowKit Go.Proofs.YtmgkflkfoccgkaaW.PrintWords Go.Proofs.YtmgkflkfoccgkaaW.PrintLast Go.Proofs.YtmgkflkfoccgkaaW.PrintMore
attribute [local go_sem] max2_int min2_int max_two min_two max_three min_three max_four min_four   -- for this text's walks alone
set_option linter.unusedVariables false
set_option linter.unusedSimpArgs false

/-! ### impl_GoodWorld: function 16 -/
def impl_GoodWorld.f (k:Nat) (l0_0:List Int) (a1_0:Int) (l1_1:List (List Int)):Option (Bool):=(impl_GoodSign.f l0_0).bind fun t132=>(if t132 = true then ((impl_Sign_isWorld.f k l0_0 a1_0 l1_1).bind fun t133=>(some t133)) else (some false))
theorem impl_GoodWorld.mono:∀ a0 a1 a2 k,LeO (impl_GoodWorld.f k a0 a1 a2) (impl_GoodWorld.f (k + 1) a0 a1 a2):=by
 intro a0 a1 a2 k
 unfold impl_GoodWorld.f
 have m0:=@impl_Sign_isWorld.mono
 exact mO
set_option maxHeartbeats 8000000 in
set_option maxRecDepth 100000 in
theorem impl_GoodWorld.calls (k:Nat) (A0_0:Option Addr) (c0_0:Nat) (l0_0:List Int) (a1_0:Int) (A1_1:Option Addr) (c1_1:Nat) (l1_1:List (List Int)) (r:Bool) (w:World) (hr0_0:Kd.C (Kd.int .i64) w A0_0 l0_0.length l0_0) (hc0_0:l0_0.length ≤ c0_0) (hr1_1:Kd.C (Kd.slice 3 (Kd.int .i64)) w A1_1 l1_1.length l1_1) (hc1_1:l1_1.length ≤ c1_1) (h:impl_GoodWorld.f k l0_0 a1_0 l1_1 = some r) :
  Calls Try.prog 16 #[.agg #[.slice A0_0 l0_0.length c0_0],.agg #[.int .i64 a1_0,.slice A1_1 l1_1.length c1_1]] w fun e w'=>e = .returned (.bool r) ∧ Below w.heap.size w w':=by
 have hu26:=Try.underlying26
 have hu31:=Try.underlying31
 have HR0_0:=Aside0.mk hr0_0
 have HC0_0:=Aside0.mk hc0_0
 clear hr0_0 hc0_0
 have HR1_1:=Aside0.mk hr1_1
 have HC1_1:=Aside0.mk hc1_1
 clear hr1_1 hc1_1
 have HB:=Aside0.mk (Below.refl w.heap.size w)
 have H:((impl_GoodSign.f l0_0).bind fun t132=>(if t132 = true then ((impl_Sign_isWorld.f k l0_0 a1_0 l1_1).bind fun t133=>(some t133)) else (some false))) = some r:=h
 clear h
 replace H:=bI H;obtain ⟨t132,A3,H⟩:=H
 by_cases c4:t132 = true
 ·subst c4
  replace H:=pT H
  replace H:=bI H;obtain ⟨t133,A5,H⟩:=H
  obtain rfl:=Option.some.inj H
  go_enter Try.func16,Try.ntmps16
  go_wp2_with (first|(refine xB 2 #[.slice A0_0 l0_0.length c0_0] 26 ?_;intro gb130 hg w6 hbox hb;have BK130:=Aside0.mk (hbox);have GW130:=gZ w gb130;have GE130:=GW130;replace HB:=bS hb;clear hb hbox hg)|(refine xB 3 #[.int .i64 a1_0,.slice A1_1 l1_1.length c1_1] 31 ?_;intro gb131 hg w7 hbox hb;have BK131:=Aside0.mk (hbox);have GW131:=gZ w gb131;have GE131:=GW131;replace HB:=bS hb;have NB130_131:=nl BK130 gb130 gb131;have NB131_130:=nr NB130_131;replace BK130:=bb BK130 hb;clear hb hbox hg;have hnb8:=NB130_131.out;have hnc8:=NB131_130.out;have hcz9_0:=qc1_0 BK130;have hfz9_0:=fz BK130 0)|((with_reducible refine gate_callee (f:=54) rfl ?_);refine goesL_ (some 6) rfl rfl Try.func54 (by kernel_rfl) rfl #[.agg #[.slice A0_0 l0_0.length c0_0]] rfl Ya ?_;(with_reducible refine (impl_GoodSign.calls _ _ l0_0 true _ ?side1 ?side2 A3.out).mono ?_);(case side1=>exact Yx);(case side2=>exact Yw);rintro e w10 ⟨rfl,hb⟩;refine ⟨_,rfl,?_⟩;replace BK130:=bb BK130 hb;replace BK131:=bb BK131 hb;replace HB:=bS hb;(try clear hb);(try clear hb2);(try clear hk);(try clear hi);have hcz11_0:=qc1_0 BK130;have hfz11_0:=fz BK130 0;have hcz12_0:=qc2_0 BK131;have hcz12_1:=qc2_1 BK131;have hfz12_0:=fz BK131 0;have hfz12_1:=fz BK131 1)|(go_at_call 55;(with_reducible refine (impl_Sign_isWorld.calls k _ _ l0_0 a1_0 _ _ l1_1 t133 _ ?side1 ?side2 ?side3 ?side4 A5.out).mono ?_);(case side1=>exact Yx);(case side2=>exact Yw);(case side3=>exact YY);(case side4=>exact YW);rintro e w13 ⟨rfl,hb⟩;replace BK130:=bb BK130 hb;replace BK131:=bb BK131 hb;replace HB:=bS hb;clear hb))
  go_ret
  exact ⟨Yb,bH⟩
 ·replace c4:=Bool.eq_false_iff.mpr c4
  subst c4
  replace H:=pF H
  obtain rfl:=Option.some.inj H
  go_enter Try.func16,Try.ntmps16
  go_wp2_with (first|(refine xB 2 #[.slice A0_0 l0_0.length c0_0] 26 ?_;intro gb130 hg w14 hbox hb;have BK130:=Aside0.mk (hbox);have GW130:=gZ w gb130;have GE130:=GW130;replace HB:=bS hb;clear hb hbox hg)|(refine xB 3 #[.int .i64 a1_0,.slice A1_1 l1_1.length c1_1] 31 ?_;intro gb131 hg w15 hbox hb;have BK131:=Aside0.mk (hbox);have GW131:=gZ w gb131;have GE131:=GW131;replace HB:=bS hb;have NB130_131:=nl BK130 gb130 gb131;have NB131_130:=nr NB130_131;replace BK130:=bb BK130 hb;clear hb hbox hg;have hnb16:=NB130_131.out;have hnc16:=NB131_130.out;have hcz17_0:=qc1_0 BK130;have hfz17_0:=fz BK130 0)|((with_reducible refine gate_callee (f:=54) rfl ?_);refine goesL_ (some 6) rfl rfl Try.func54 (by kernel_rfl) rfl #[.agg #[.slice A0_0 l0_0.length c0_0]] rfl Ya ?_;(with_reducible refine (impl_GoodSign.calls _ _ l0_0 false _ ?side1 ?side2 A3.out).mono ?_);(case side1=>exact Yx);(case side2=>exact Yw);rintro e w18 ⟨rfl,hb⟩;refine ⟨_,rfl,?_⟩;replace BK130:=bb BK130 hb;replace BK131:=bb BK131 hb;replace HB:=bS hb;clear hb))
  go_ret
  exact ⟨Yb,bH⟩

/-! ### impl_World_isEnv: function 42 -/
def impl_World_isEnv.f (a0_0:Int) (l0_1:List (List Int)) (l1:List Int):Option (Bool):=if (l1.length:Int) = 12 then ((impl_areElements.f a0_0 l1).bind fun t135=>(some t135)) else (some false)
set_option maxHeartbeats 8000000 in
set_option maxRecDepth 100000 in
theorem impl_World_isEnv.calls (a0_0:Int) (A0_1:Option Addr) (c0_1:Nat) (l0_1:List (List Int)) (A1:Option Addr) (c1:Nat) (l1:List Int) (r:Bool) (w:World) (hr0_1:Kd.C (Kd.slice 3 (Kd.int .i64)) w A0_1 l0_1.length l0_1) (hc0_1:l0_1.length ≤ c0_1) (hr1:Kd.C (Kd.int .i64) w A1 l1.length l1) (hc1:l1.length ≤ c1) (h:impl_World_isEnv.f a0_0 l0_1 l1 = some r) :
  Calls Try.prog 42 #[.agg #[.int .i64 a0_0,.slice A0_1 l0_1.length c0_1],.slice A1 l1.length c1] w fun e w'=>e = .returned (.bool r) ∧ Below w.heap.size w w':=by
 have hu31:=Try.underlying31
 have HR0_1:=Aside0.mk hr0_1
 have HC0_1:=Aside0.mk hc0_1
 clear hr0_1 hc0_1
 have HR1:=Aside0.mk hr1
 have HC1:=Aside0.mk hc1
 clear hr1 hc1
 have HB:=Aside0.mk (Below.refl w.heap.size w)
 have H:(if (l1.length:Int) = 12 then ((impl_areElements.f a0_0 l1).bind fun t135=>(some t135)) else (some false)) = some r:=h
 clear h
 by_cases c3:(l1.length:Int) = 12
 ·rw [if_pos c3] at H
  have c3b0:((l1.length:Int) == 12) = true:=beq_iff_eq.mpr c3
  have c3b1:((l1.length:Int) != 12) = false:=bne_eq_false_iff_eq.mpr c3
  clear c3
  replace H:=bI H;obtain ⟨t135,A4,H⟩:=H
  obtain rfl:=Option.some.inj H
  go_enter Try.func42,Try.ntmps42
  go_wp2_with (first|(refine xB 2 #[.int .i64 a0_0,.slice A0_1 l0_1.length c0_1] 31 ?_;intro gb134 hg w5 hbox hb;have BK134:=Aside0.mk (hbox);have GW134:=gZ w gb134;have GE134:=GW134;replace HB:=bS hb;clear hb hbox hg;have hcz6_0:=qc2_0 BK134;have hcz6_1:=qc2_1 BK134;have hfz6_0:=fz BK134 0;have hfz6_1:=fz BK134 1)|(go_at_call 79;(with_reducible refine (impl_areElements.calls a0_0 _ _ l1 t135 _ ?side1 ?side2 A4.out).mono ?_);(case side1=>exact sC HR1);(case side2=>exact HC1.out);rintro e w7 ⟨rfl,hb⟩;replace BK134:=bb BK134 hb;replace HB:=bS hb;clear hb))
  go_ret
  exact ⟨Yb,bH⟩
 ·rw [if_neg c3] at H
  have c3b0:((l1.length:Int) == 12) = false:=beq_eq_false_iff_ne.mpr c3
  have c3b1:((l1.length:Int) != 12) = true:=bne_iff_ne.mpr c3
  obtain rfl:=Option.some.inj H
  go_enter Try.func42,Try.ntmps42
  go_wp2_with (first|(refine xB 2 #[.int .i64 a0_0,.slice A0_1 l0_1.length c0_1] 31 ?_;intro gb134 hg w8 hbox hb;have BK134:=Aside0.mk (hbox);have GW134:=gZ w gb134;have GE134:=GW134;replace HB:=bS hb;clear hb hbox hg))
  go_ret
  exact ⟨Yb,bH⟩

/-! ### impl_Sign_args: function 78 -/
def impl_Sign_args.f (l0_0:List Int) (a1:Int):Option (Int):=if a1 < 0 then (some 0) else (if 0 ≤ a1 then (if a1 < (l0_0.length:Int) then (some (rd l0_0 a1)) else (none)) else (none))
set_option maxHeartbeats 8000000 in
set_option maxRecDepth 100000 in
theorem impl_Sign_args.calls (A0_0:Option Addr) (c0_0:Nat) (l0_0:List Int) (a1:Int) (r:Int) (w:World) (hr0_0:Kd.C (Kd.int .i64) w A0_0 l0_0.length l0_0) (hc0_0:l0_0.length ≤ c0_0) (h:impl_Sign_args.f l0_0 a1 = some r) :
  Calls Try.prog 78 #[.agg #[.slice A0_0 l0_0.length c0_0],.int .i64 a1] w fun e w'=>e = .returned (.int .i64 r) ∧ Below w.heap.size w w':=by
 have hu26:=Try.underlying26
 have HR0_0:=Aside0.mk hr0_0
 have HC0_0:=Aside0.mk hc0_0
 clear hr0_0 hc0_0
 have HB:=Aside0.mk (Below.refl w.heap.size w)
 have H:(if a1 < 0 then (some 0) else (if 0 ≤ a1 then (if a1 < (l0_0.length:Int) then (some (rd l0_0 a1)) else (none)) else (none))) = some r:=h
 clear h
 by_cases c3:a1 < 0
 ·rw [if_pos c3] at H
  have c3b0:=decide_eq_true c3
  clear c3
  obtain rfl:=Option.some.inj H
  go_enter Try.func78,Try.ntmps78
  go_wp2_with (first|(refine xB 2 #[.slice A0_0 l0_0.length c0_0] 26 ?_;intro gb136 hg w4 hbox hb;have BK136:=Aside0.mk (hbox);have GW136:=gZ w gb136;have GE136:=GW136;replace HB:=bS hb;clear hb hbox hg))
  go_ret
  exact ⟨Yb,bH⟩
 ·rw [if_neg c3] at H
  have c3b0:decide (a1 < 0) = false:=decide_eq_false c3
  clear c3
  replace H:=gI H;obtain ⟨c5b0,H⟩:=H
  replace H:=gI H;obtain ⟨c6b0,H⟩:=H
  obtain rfl:=Option.some.inj H
  go_enter Try.func78,Try.ntmps78
  go_wp2_with (first|(refine xB 2 #[.slice A0_0 l0_0.length c0_0] 26 ?_;intro gb136 hg w7 hbox hb;have BK136:=Aside0.mk (hbox);have GW136:=gZ w gb136;have GE136:=GW136;replace HB:=bS hb;clear hb hbox hg;have hcz8_0:=qc1_0 BK136;have hfz8_0:=fz BK136 0;have p137:0 ≤ (a1:Int):=oD;have q137:a1 < (l0_0.length:Int):=oD;obtain ⟨ad137,e137,hx137_0⟩:=Kd.at_int HR0_0.out a1 p137 q137;cases e137;replace hx137_0:=(HB.out.cell (World.block_lt_of_cell? w _ hx137_0)).trans hx137_0;replace p137:=eq_true p137;replace q137:=eq_true q137))
  go_ret
  exact ⟨Yb,bH⟩

/-! ### impl_Sign_isTerm: function 40 -/
def impl_Sign_isTerm.l0:Nat → Int → List Int → Int → Int → List Int → Option (Bool)
 | 0,_,_,_,_,_=>none
 | k + 1,x5,x11,x12,x13,x139000=>if x13 < x12 then (if 0 ≤ x13 then (if x13 < (x11.length:Int) then (if x5 = 0 then (some false) else (if (rd x11 x13) < (-12) then (some false) else (if (rd x11 x13) ≥ (x139000.length:Int) then (some false) else ((impl_Sign_args.f x139000 (rd x11 x13)).bind fun t140=>(impl_Sign_isTerm.l0 k (wrap64 (x5 + (wrap64 (t140 - 1)))) x11 x12 (wrap64 (x13 + 1)) x139000))))) else (none)) else (none)) else (some (x5 == 0))
def impl_Sign_isTerm.f (k:Nat) (l0_0:List Int) (l1:List Int):Option (Bool):=if (l1.length:Int) > 40 then (some false) else (impl_Sign_isTerm.l0 k 1 l1 (l1.length:Int) 0 l0_0)
theorem impl_Sign_isTerm.mono_l:∀ k,(∀ y0 y1 y2 y3 y4,LeO (impl_Sign_isTerm.l0 k y0 y1 y2 y3 y4) (impl_Sign_isTerm.l0 (k + 1) y0 y1 y2 y3 y4))
 | 0=>fun _ _ _ _ _ r h=>by simp [impl_Sign_isTerm.l0] at h
 | k + 1=>by
  have ih0:=impl_Sign_isTerm.mono_l k
  ·intro y0 y1 y2 y3 y4
   unfold impl_Sign_isTerm.l0
   exact mO
theorem impl_Sign_isTerm.mono:∀ a0 a1 k,LeO (impl_Sign_isTerm.f k a0 a1) (impl_Sign_isTerm.f (k + 1) a0 a1):=by
 intro a0 a1 k
 have ih0:=impl_Sign_isTerm.mono_l k
 unfold impl_Sign_isTerm.f
 exact mO
set_option maxHeartbeats 8000000 in
set_option maxRecDepth 100000 in
theorem impl_Sign_isTerm.calls (k:Nat) (A0_0:Option Addr) (c0_0:Nat) (l0_0:List Int) (A1:Option Addr) (c1:Nat) (l1:List Int) (r:Bool) (w:World) (hr0_0:Kd.C (Kd.int .i64) w A0_0 l0_0.length l0_0) (hc0_0:l0_0.length ≤ c0_0) (hr1:Kd.C (Kd.int .i64) w A1 l1.length l1) (hc1:l1.length ≤ c1) (h:impl_Sign_isTerm.f k l0_0 l1 = some r) :
  Calls Try.prog 40 #[.agg #[.slice A0_0 l0_0.length c0_0],.slice A1 l1.length c1] w fun e w'=>e = .returned (.bool r) ∧ Below w.heap.size w w':=by
 have hu26:=Try.underlying26
 have HR0_0:=Aside0.mk hr0_0
 have HC0_0:=Aside0.mk hc0_0
 clear hr0_0 hc0_0
 have HR1:=Aside0.mk hr1
 have HC1:=Aside0.mk hc1
 clear hr1 hc1
 have HB:=Aside0.mk (Below.refl w.heap.size w)
 have H:(if (l1.length:Int) > 40 then (some false) else (impl_Sign_isTerm.l0 k 1 l1 (l1.length:Int) 0 l0_0)) = some r:=h
 clear h
 by_cases c3:(l1.length:Int) > 40
 ·rw [if_pos c3] at H
  have c3b0:decide (40 < (l1.length:Int)) = true:=decide_eq_true c3
  have c3b1:decide (40 < l1.length) = true:=decide_eq_true (by omega)
  clear c3
  obtain rfl:=Option.some.inj H
  go_enter Try.func40,Try.ntmps40
  go_wp2_with (first|((with_reducible refine gate_dst (N:=2) rfl ?_);(try (refine gate_guard (by rfl) ?_;dsimp only));refine box_event ?hg (N:=2) ?hd (cs:=#[.slice A0_0 l0_0.length c0_0]) (t:=26) ?hr ?_;(case hd=>rfl);(case hg=>rfl);(case hr=>exact Yc);intro gb138 hg w4 hbox hb;have BK138:=Aside0.mk (hbox);have GW138:=gZ w gb138;have GE138:=GW138;replace HB:=bS hb;clear hb hbox hg))
  go_ret
  exact ⟨Yb,bH⟩
 ·rw [if_neg c3] at H
  have c3b0:decide (40 < (l1.length:Int)) = false:=decide_eq_false c3
  have c3b1:decide (40 < l1.length) = false:=decide_eq_false (by omega)
  clear c3
  have H':=Aside0.mk H
  clear H
  go_enter Try.func40,Try.ntmps40
  go_wp2_with (first|((with_reducible refine gate_dst (N:=2) rfl ?_);(try (refine gate_guard (by rfl) ?_;dsimp only));refine box_event ?hg (N:=2) ?hd (cs:=#[.slice A0_0 l0_0.length c0_0]) (t:=26) ?hr ?_;(case hd=>rfl);(case hg=>rfl);(case hr=>exact Yc);intro gb138 hg w5 hbox hb;have BK138:=Aside0.mk (hbox);have GW138:=gZ w gb138;have GE138:=GW138;replace HB:=bS hb;clear hb hbox hg))
  go_loopg [5,13] k (fun kq v5 v13 w'=>∃ (x5_1:Int) (x13_1:Int),v5 = .int .i64 x5_1 ∧ v13 = .int .i64 x13_1 ∧ Aside0 (impl_Sign_isTerm.l0 kq x5_1 l1 (l1.length:Int) x13_1 l0_0 = some r) ∧ Aside0 (kq ≤ k) ∧ Aside0 (w'.heap[gb138]? = some (.cells #[(.slice A0_0 l0_0.length c0_0)] 26 (0,0))) ∧ Aside0 (Below w.heap.size w w'))
  case atStart=>exact ⟨(1),(0),Yd,Yd,H',⟨Nat.le_refl _⟩,⟨by (with_reducible repeat (first|refine blk_drewN ?_ _|refine blk_drew ?_|refine blk_alloc ?_ _));exact BK138.out⟩,⟨bH⟩⟩
  case round =>
   clear H'
   (try clear c1);(try clear c3);(try clear c3b0);(try clear c3b1)
   obtain ⟨x5_1,x13_1,rfl,rfl,HA,HK1,BK138,HB⟩:=hrel
   cases gk with
   | zero=>exact absurd HA.out (by simp [impl_Sign_isTerm.l0])
   | succ k1 =>
    have H:=HA.out
    clear HA
    simp only [impl_Sign_isTerm.l0] at H
    by_cases c6:x13_1 < (l1.length:Int)
    ·rw [if_pos c6] at H
     have c6b0:=decide_eq_true c6
     clear c6
     replace H:=gI H;obtain ⟨c7b0,H⟩:=H
     replace H:=gI H;obtain ⟨c8b0,H⟩:=H
     by_cases c9:x5_1 = 0
     ·rw [if_pos c9] at H
      have c9b0:(x5_1 == 0) = true:=beq_iff_eq.mpr c9
      have c9b1:(x5_1 != 0) = false:=bne_eq_false_iff_eq.mpr c9
      clear c9
      obtain rfl:=Option.some.inj H
      have p139:0 ≤ (x13_1:Int):=oD
      have q139:x13_1 < (l1.length:Int):=oD
      obtain ⟨ad139,e139,hx139_0⟩:=Kd.at_int HR1.out x13_1 p139 q139
      cases e139
      replace hx139_0:=(HB.out.cell (World.block_lt_of_cell? w _ hx139_0)).trans hx139_0
      replace p139:=eq_true p139
      replace q139:=eq_true q139
      go_wp2
      go_ret
      exact ⟨Yb,bH⟩
     ·rw [if_neg c9] at H
      have c9b0:(x5_1 == 0) = false:=beq_eq_false_iff_ne.mpr c9
      have c9b1:(x5_1 != 0) = true:=bne_iff_ne.mpr c9
      by_cases c10:(rd l1 x13_1) < (-12)
      ·rw [if_pos c10] at H
       have c10b0:=decide_eq_true c10
       clear c10
       obtain rfl:=Option.some.inj H
       have p139:0 ≤ (x13_1:Int):=oD
       have q139:x13_1 < (l1.length:Int):=oD
       obtain ⟨ad139,e139,hx139_0⟩:=Kd.at_int HR1.out x13_1 p139 q139
       cases e139
       replace hx139_0:=(HB.out.cell (World.block_lt_of_cell? w _ hx139_0)).trans hx139_0
       replace p139:=eq_true p139
       replace q139:=eq_true q139
       go_wp2
       go_ret
       exact ⟨Yb,bH⟩
      ·rw [if_neg c10] at H
       have c10b0:decide ((rd l1 x13_1) < (-12)) = false:=decide_eq_false c10
       clear c10
       by_cases c11:(rd l1 x13_1) ≥ (l0_0.length:Int)
       ·rw [if_pos c11] at H
        have c11b0:decide ((l0_0.length:Int) ≤ (rd l1 x13_1)) = true:=decide_eq_true c11
        clear c11
        obtain rfl:=Option.some.inj H
        have p139:0 ≤ (x13_1:Int):=oD
        have q139:x13_1 < (l1.length:Int):=oD
        obtain ⟨ad139,e139,hx139_0⟩:=Kd.at_int HR1.out x13_1 p139 q139
        cases e139
        replace hx139_0:=(HB.out.cell (World.block_lt_of_cell? w _ hx139_0)).trans hx139_0
        replace p139:=eq_true p139
        replace q139:=eq_true q139
        have hcz12_0:=qc1_0 BK138
        have hfz12_0:=fz BK138 0
        go_wp2
        go_ret
        exact ⟨Yb,bH⟩
       ·rw [if_neg c11] at H
        have c11b0:decide ((l0_0.length:Int) ≤ (rd l1 x13_1)) = false:=decide_eq_false c11
        clear c11
        replace H:=bI H;obtain ⟨t140,A13,H⟩:=H
        have H':=Aside0.mk H
        clear H
        have p139:0 ≤ (x13_1:Int):=oD
        have q139:x13_1 < (l1.length:Int):=oD
        obtain ⟨ad139,e139,hx139_0⟩:=Kd.at_int HR1.out x13_1 p139 q139
        cases e139
        replace hx139_0:=(HB.out.cell (World.block_lt_of_cell? w _ hx139_0)).trans hx139_0
        replace p139:=eq_true p139
        replace q139:=eq_true q139
        have hcz14_0:=qc1_0 BK138
        have hfz14_0:=fz BK138 0
        go_wp2_with (first|((with_reducible refine gate_callee (f:=78) rfl ?_);refine goesL_ (some 33) rfl rfl Try.func78 (by kernel_rfl) rfl #[.agg #[.slice A0_0 l0_0.length c0_0],.int .i64 (rd l1 x13_1)] rfl Ya ?_;(with_reducible refine (impl_Sign_args.calls _ _ l0_0 (rd l1 x13_1) t140 _ ?side1 ?side2 A13.out).mono ?_);(case side1=>exact Yx);(case side2=>exact Yw);rintro e w15 ⟨rfl,hb⟩;refine ⟨_,rfl,?_⟩;replace BK138:=bb BK138 hb;replace HB:=bS hb;clear hb))
        go_roundg k1
        case measure=>have:=HK1.out;omega
        case rel=>exact ⟨(wrap64 (x5_1 + (wrap64 (t140 - 1)))),(wrap64 (x13_1 + 1)),Yd,Yd,H',⟨YH⟩,⟨by (with_reducible repeat (first|refine blk_drewN ?_ _|refine blk_drew ?_|refine blk_alloc ?_ _));exact BK138.out⟩,⟨bH⟩⟩
    ·rw [if_neg c6] at H
     have c6b0:decide (x13_1 < (l1.length:Int)) = false:=decide_eq_false c6
     clear c6
     obtain rfl:=Option.some.inj H
     go_wp2
     go_ret
     exact ⟨Yb,bH⟩

/-! ### impl_Sign_isLit: function 90 -/
def impl_Sign_isLit.f (k:Nat) (l0_0:List Int) (a1_0:Bool) (l1_1:List Int) (l1_2:List Int):Option (Bool):=(impl_Sign_isTerm.f k l0_0 l1_1).bind fun t143=>(if t143 = true then ((impl_Sign_isTerm.f k l0_0 l1_2).bind fun t144=>(some t144)) else (some false))
theorem impl_Sign_isLit.mono:∀ a0 a1 a2 a3 k,LeO (impl_Sign_isLit.f k a0 a1 a2 a3) (impl_Sign_isLit.f (k + 1) a0 a1 a2 a3):=by
 intro a0 a1 a2 a3 k
 unfold impl_Sign_isLit.f
 have m0:=@impl_Sign_isTerm.mono
 exact mO
set_option maxHeartbeats 8000000 in
set_option maxRecDepth 100000 in
theorem impl_Sign_isLit.calls (k:Nat) (A0_0:Option Addr) (c0_0:Nat) (l0_0:List Int) (a1_0:Bool) (A1_1:Option Addr) (c1_1:Nat) (l1_1:List Int) (A1_2:Option Addr) (c1_2:Nat) (l1_2:List Int) (r:Bool) (w:World) (hr0_0:Kd.C (Kd.int .i64) w A0_0 l0_0.length l0_0) (hc0_0:l0_0.length ≤ c0_0) (hr1_1:Kd.C (Kd.int .i64) w A1_1 l1_1.length l1_1) (hc1_1:l1_1.length ≤ c1_1) (hr1_2:Kd.C (Kd.int .i64) w A1_2 l1_2.length l1_2) (hc1_2:l1_2.length ≤ c1_2) (h:impl_Sign_isLit.f k l0_0 a1_0 l1_1 l1_2 = some r) :
  Calls Try.prog 90 #[.agg #[.slice A0_0 l0_0.length c0_0],.agg #[.bool a1_0,.slice A1_1 l1_1.length c1_1,.slice A1_2 l1_2.length c1_2]] w fun e w'=>e = .returned (.bool r) ∧ Below w.heap.size w w':=by
 have hu26:=Try.underlying26
 have hu83:=Try.underlying83
 have HR0_0:=Aside0.mk hr0_0
 have HC0_0:=Aside0.mk hc0_0
 clear hr0_0 hc0_0
 have HR1_1:=Aside0.mk hr1_1
 have HC1_1:=Aside0.mk hc1_1
 clear hr1_1 hc1_1
 have HR1_2:=Aside0.mk hr1_2
 have HC1_2:=Aside0.mk hc1_2
 clear hr1_2 hc1_2
 have HB:=Aside0.mk (Below.refl w.heap.size w)
 have H:((impl_Sign_isTerm.f k l0_0 l1_1).bind fun t143=>(if t143 = true then ((impl_Sign_isTerm.f k l0_0 l1_2).bind fun t144=>(some t144)) else (some false))) = some r:=h
 clear h
 replace H:=bI H;obtain ⟨t143,A3,H⟩:=H
 by_cases c4:t143 = true
 ·subst c4
  replace H:=pT H
  replace H:=bI H;obtain ⟨t144,A5,H⟩:=H
  obtain rfl:=Option.some.inj H
  go_enter Try.func90,Try.ntmps90
  go_wp2_with (first|(refine xB 2 #[.slice A0_0 l0_0.length c0_0] 26 ?_;intro gb141 hg w6 hbox hb;have BK141:=Aside0.mk (hbox);have GW141:=gZ w gb141;have GE141:=GW141;replace HB:=bS hb;clear hb hbox hg)|(refine xB 3 #[.bool a1_0,.slice A1_1 l1_1.length c1_1,.slice A1_2 l1_2.length c1_2] 83 ?_;intro gb142 hg w7 hbox hb;have BK142:=Aside0.mk (hbox);have GW142:=gZ w gb142;have GE142:=GW142;replace HB:=bS hb;have NB141_142:=nl BK141 gb141 gb142;have NB142_141:=nr NB141_142;replace BK141:=bb BK141 hb;clear hb hbox hg;have hnb8:=NB141_142.out;have hnc8:=NB142_141.out;have hcz9_0:=qc1_0 BK141;have hfz9_0:=fz BK141 0;have hcz10_0:=qc3_0 BK142;have hcz10_1:=qc3_1 BK142;have hcz10_2:=qc3_2 BK142;have hfz10_0:=fz BK142 0;have hfz10_1:=fz BK142 1;have hfz10_2:=fz BK142 2)|((with_reducible refine gate_callee (f:=40) rfl ?_);refine goesL_ (some 8) rfl rfl Try.func40 (by kernel_rfl) rfl #[.agg #[.slice A0_0 l0_0.length c0_0],.slice A1_1 l1_1.length c1_1] rfl Ya ?_;(with_reducible refine (impl_Sign_isTerm.calls k _ _ l0_0 _ _ l1_1 true _ ?side1 ?side2 ?side3 ?side4 A3.out).mono ?_);(case side1=>exact Yx);(case side2=>exact Yw);(case side3=>exact YY);(case side4=>exact YW);rintro e w11 ⟨rfl,hb⟩;refine ⟨_,rfl,?_⟩;replace BK141:=bb BK141 hb;replace BK142:=bb BK142 hb;replace HB:=bS hb;(try clear hb);(try clear hb2);(try clear hk);(try clear hi);have hcz12_0:=qc1_0 BK141;have hfz12_0:=fz BK141 0;have hcz13_0:=qc3_0 BK142;have hcz13_1:=qc3_1 BK142;have hcz13_2:=qc3_2 BK142;have hfz13_0:=fz BK142 0;have hfz13_1:=fz BK142 1;have hfz13_2:=fz BK142 2)|(go_at_call 40;(with_reducible refine (impl_Sign_isTerm.calls k _ _ l0_0 _ _ l1_2 t144 _ ?side1 ?side2 ?side3 ?side4 A5.out).mono ?_);(case side1=>exact Yx);(case side2=>exact Yw);(case side3=>exact sC HR1_2);(case side4=>exact HC1_2.out);rintro e w14 ⟨rfl,hb⟩;replace BK141:=bb BK141 hb;replace BK142:=bb BK142 hb;replace HB:=bS hb;clear hb))
  go_ret
  exact ⟨Yb,bH⟩
 ·replace c4:=Bool.eq_false_iff.mpr c4
  subst c4
  replace H:=pF H
  obtain rfl:=Option.some.inj H
  go_enter Try.func90,Try.ntmps90
  go_wp2_with (first|(refine xB 2 #[.slice A0_0 l0_0.length c0_0] 26 ?_;intro gb141 hg w15 hbox hb;have BK141:=Aside0.mk (hbox);have GW141:=gZ w gb141;have GE141:=GW141;replace HB:=bS hb;clear hb hbox hg)|(refine xB 3 #[.bool a1_0,.slice A1_1 l1_1.length c1_1,.slice A1_2 l1_2.length c1_2] 83 ?_;intro gb142 hg w16 hbox hb;have BK142:=Aside0.mk (hbox);have GW142:=gZ w gb142;have GE142:=GW142;replace HB:=bS hb;have NB141_142:=nl BK141 gb141 gb142;have NB142_141:=nr NB141_142;replace BK141:=bb BK141 hb;clear hb hbox hg;have hnb17:=NB141_142.out;have hnc17:=NB142_141.out;have hcz18_0:=qc1_0 BK141;have hfz18_0:=fz BK141 0;have hcz19_0:=qc3_0 BK142;have hcz19_1:=qc3_1 BK142;have hcz19_2:=qc3_2 BK142;have hfz19_0:=fz BK142 0;have hfz19_1:=fz BK142 1;have hfz19_2:=fz BK142 2)|((with_reducible refine gate_callee (f:=40) rfl ?_);refine goesL_ (some 8) rfl rfl Try.func40 (by kernel_rfl) rfl #[.agg #[.slice A0_0 l0_0.length c0_0],.slice A1_1 l1_1.length c1_1] rfl Ya ?_;(with_reducible refine (impl_Sign_isTerm.calls k _ _ l0_0 _ _ l1_1 false _ ?side1 ?side2 ?side3 ?side4 A3.out).mono ?_);(case side1=>exact Yx);(case side2=>exact Yw);(case side3=>exact YY);(case side4=>exact YW);rintro e w20 ⟨rfl,hb⟩;refine ⟨_,rfl,?_⟩;replace BK141:=bb BK141 hb;replace BK142:=bb BK142 hb;replace HB:=bS hb;clear hb))
  go_ret
  exact ⟨Yb,bH⟩

/-! ### impl_Sign_isClause_1: function 89 -/
def impl_Sign_isClause_1.f (k:Nat) (a0_0:Bool) (l0_1:List Int) (l0_2:List Int) (l1_0:List Int):Option (Bool):=(impl_Sign_isLit.f k l1_0 a0_0 l0_1 l0_2).bind fun t146=>(some (!t146))
theorem impl_Sign_isClause_1.mono:∀ a0 a1 a2 a3 k,LeO (impl_Sign_isClause_1.f k a0 a1 a2 a3) (impl_Sign_isClause_1.f (k + 1) a0 a1 a2 a3):=by
 intro a0 a1 a2 a3 k
 unfold impl_Sign_isClause_1.f
 have m0:=@impl_Sign_isLit.mono
 exact mO
set_option maxHeartbeats 8000000 in
set_option maxRecDepth 100000 in
theorem impl_Sign_isClause_1.calls (k:Nat) (a0_0:Bool) (A0_1:Option Addr) (c0_1:Nat) (l0_1:List Int) (A0_2:Option Addr) (c0_2:Nat) (l0_2:List Int) (g1_:Nat) (A1_0:Option Addr) (c1_0:Nat) (l1_0:List Int) (r:Bool) (w:World) (hr0_1:Kd.C (Kd.int .i64) w A0_1 l0_1.length l0_1) (hc0_1:l0_1.length ≤ c0_1) (hr0_2:Kd.C (Kd.int .i64) w A0_2 l0_2.length l0_2) (hc0_2:l0_2.length ≤ c0_2) (hr1_0:Kd.C (Kd.int .i64) w A1_0 l1_0.length l1_0) (hc1_0:l1_0.length ≤ c1_0) (hg1:w.heap[g1_]? = some (.cells #[.slice A1_0 l1_0.length c1_0] 26 (0,0))) (h:impl_Sign_isClause_1.f k a0_0 l0_1 l0_2 l1_0 = some r) :
  Calls Try.prog 89 #[.agg #[.bool a0_0,.slice A0_1 l0_1.length c0_1,.slice A0_2 l0_2.length c0_2],.pointer (some ⟨g1_,0,none⟩)] w fun e w'=>e = .returned (.bool r) ∧ Below w.heap.size w w':=by
 have hu83:=Try.underlying83
 have hu26:=Try.underlying26
 have HR0_1:=Aside0.mk hr0_1
 have HC0_1:=Aside0.mk hc0_1
 clear hr0_1 hc0_1
 have HR0_2:=Aside0.mk hr0_2
 have HC0_2:=Aside0.mk hc0_2
 clear hr0_2 hc0_2
 have HR1_0:=Aside0.mk hr1_0
 have HC1_0:=Aside0.mk hc1_0
 clear hr1_0 hc1_0
 have BK1:=Aside0.mk hg1
 clear hg1
 have HB:=Aside0.mk (Below.refl w.heap.size w)
 have H:((impl_Sign_isLit.f k l1_0 a0_0 l0_1 l0_2).bind fun t146=>(some (!t146))) = some r:=h
 clear h
 replace H:=bI H;obtain ⟨t146,A3,H⟩:=H
 obtain rfl:=Option.some.inj H
 go_enter Try.func89,Try.ntmps89
 go_wp2_with (first|(refine xB 2 #[.bool a0_0,.slice A0_1 l0_1.length c0_1,.slice A0_2 l0_2.length c0_2] 83 ?_;intro gb145 hg w4 hbox hb;have BK145:=Aside0.mk (hbox);have GW145:=gZ w gb145;have GE145:=GW145;replace HB:=bS hb;have NB1_145:=nl BK1 g1_ gb145;have NB145_1:=nr NB1_145;replace BK1:=bb BK1 hb;clear hb hbox hg;have hnb5:=NB1_145.out;have hnc5:=NB145_1.out;have hcz6_0:=qc1_0 BK1;have hfz6_0:=fz BK1 0;have hcz7_0:=qc3_0 BK145;have hcz7_1:=qc3_1 BK145;have hcz7_2:=qc3_2 BK145;have hfz7_0:=fz BK145 0;have hfz7_1:=fz BK145 1;have hfz7_2:=fz BK145 2)|((with_reducible refine gate_callee (f:=90) rfl ?_);refine goesL_ (some 6) rfl rfl Try.func90 (by kernel_rfl) rfl #[.agg #[.slice A1_0 l1_0.length c1_0],.agg #[.bool a0_0,.slice A0_1 l0_1.length c0_1,.slice A0_2 l0_2.length c0_2]] rfl Ya ?_;(with_reducible refine (impl_Sign_isLit.calls k _ _ l1_0 a0_0 _ _ l0_1 _ _ l0_2 t146 _ ?side1 ?side2 ?side3 ?side4 ?side5 ?side6 A3.out).mono ?_);(case side1=>exact sC HR1_0);(case side2=>exact HC1_0.out);(case side3=>exact sC HR0_1);(case side4=>exact HC0_1.out);(case side5=>exact sC HR0_2);(case side6=>exact HC0_2.out);rintro e w8 ⟨rfl,hb⟩;refine ⟨_,rfl,?_⟩;replace BK1:=bb BK1 hb;replace BK145:=bb BK145 hb;replace HB:=bS hb;clear hb))
 go_ret
 exact ⟨Yb,bH⟩

/-! ### slices_IndexFunc: function 117 -/
set_option maxHeartbeats 2000000 in
set_option maxRecDepth 100000 in
theorem idx117 (g:Nat) (lb:Array Value) (eg:∀ args w,(callFunc g args).run Try.prog w = .ok (.enter g args) w) (f:S83 → Option Bool) (A:Option Addr) (c:Nat) (l:List S83) (r:Int) (w:World) (hr:Kd.C k83 w A l.length l) (hc:l.length ≤ c)
  (hp:∀ (W:World) (x:S83) (b:Bool) (E1:Option Addr) (e1:Nat) (E2:Option Addr) (e2:Nat),Below w.heap.size w W → Kd.C (Kd.int .i64) W E1 x.f1.length x.f1 → x.f1.length ≤ e1 → Kd.C (Kd.int .i64) W E2 x.f2.length x.f2 → x.f2.length ≤ e2 → f x = some b → Calls Try.prog g (#[.agg #[.bool x.f0,.slice E1 x.f1.length e1,.slice E2 x.f2.length e2]] ++ lb) W fun e w'=>e = .returned (.bool b) ∧ Below W.heap.size W w')
  (h:idxO f 0 l = some r) :
  Calls Try.prog 117 #[.slice A l.length c,.func (.func g) #[] lb] w fun e w'=>e = .returned (.int .i64 r) ∧ Below w.heap.size w w':=by
 have HR:=Aside0.mk hr
 have HP:=Aside0.mk hp
 have HL:=Aside0.mk hr.2.1
 have H:=Aside0.mk h
 clear hr hp h hc
 have hu:=Try.underlying83
 go_enter Try.func117,Try.ntmps117
 go_wp2
 go_loopg [5,8] (l.length + 1) (fun kq _ v8 w'=>∃ kk:Nat,v8 = .int .i64 kk ∧ Aside0 (kk ≤ l.length ∧ l.length + 1 ≤ kq + kk) ∧ Aside0 (idxO f kk (l.drop kk) = some r) ∧ Aside0 (Below w.heap.size w w'))
 case atStart=>exact ⟨0,rfl,⟨Nat.zero_le _,by omega⟩,⟨by simpa using H.out⟩,⟨Below.refl _ _⟩⟩
 case round =>
  obtain ⟨kk,rfl,HK,HI,HB⟩:=hrel
  have hkk:=HK.out.1
  by_cases hlt:kk < l.length
  ·have hd:l.drop kk = l[kk] :: l.drop (kk + 1):=List.drop_eq_getElem_cons hlt
   have hi:=HI.out
   rw [hd] at hi
   simp only [idxO] at hi
   obtain ⟨b,hb,hi⟩:=Option.bind_eq_some_iff.1 hi
   have HW:=Aside0.mk (show wrap64 ((kk:Int) + 1) = ((kk + 1:Nat):Int) from by have:=HL.out;unfold wrap64;omega)
   have p:0 ≤ (kk:Int):=by omega
   have q:(kk:Int) < (l.length:Int):=by omega
   have q1:decide (kk < l.length) = true:=decide_eq_true hlt
   have q2:decide ((kk:Int) < (l.length:Int)) = true:=decide_eq_true q
   obtain ⟨ad,E1,e1,E2,e2,e1,hx0,hx1,hx2,he1,hE1,he2,hE2⟩:=at_T83 HR.out (kk:Int) p q
   cases e1
   have hrd:rd_T83 l (kk:Int) = l[kk]:=by unfold rd_T83;simp [List.getD_eq_getElem?_getD,List.getElem?_eq_getElem hlt]
   rw [hrd] at hx0 hx1 hx2 he1 hE1 he2 hE2
   clear hrd
   replace hx0:=(HB.out.cell (World.block_lt_of_cell? w _ hx0)).trans hx0
   replace hx1:=(HB.out.cell (World.block_lt_of_cell? w _ hx1)).trans hx1
   replace hx2:=(HB.out.cell (World.block_lt_of_cell? w _ hx2)).trans hx2
   replace hE1:=Kd.C_below hE1 HB.out
   replace hE2:=Kd.C_below hE2 HB.out
   rw [Int.toNat_natCast] at hx0 hx1 hx2
   generalize hy:l[kk] = y at hx0 hx1 hx2 he1 hE1 he2 hE2 hb
   clear hy hd
   have HC:=Aside0.mk (HP.out wr y b E1 e1 E2 e2 HB.out hE1 he1 hE2 he2 hb)
   clear HI hkk
   clear he1 hE1 he2 hE2
   cases b with
   | true =>
    have HE:=Aside0.mk (Option.some.inj hi)
    clear hi hb
    go_wp2_with fail
    refine HC.out.mono ?_
    rintro e w' ⟨rfl,hb'⟩
    have HB2:=Aside0.mk (below_step HB.out hb')
    clear HB hb' HC hx0 hx1 hx2
    have HB:=HB2
    clear HB2
    go_wp2_with fail
    go_ret
    exact ⟨by rw [← HE.out];rfl,HB.out⟩
   | false =>
    have HE:=Aside0.mk hi
    clear hi hb
    go_wp2_with fail
    refine HC.out.mono ?_
    rintro e w' ⟨rfl,hb'⟩
    have HB2:=Aside0.mk (below_step HB.out hb')
    clear HB hb' HC hx0 hx1 hx2
    have HB:=HB2
    clear HB2
    go_wp2_with fail
    go_roundg (l.length - kk)
    case measure=>have:=HK.out;omega
    case rel=>exact ⟨kk + 1,by rw [HW.out],⟨by have:=HK.out;omega⟩,⟨by rw [show ((kk + 1:Nat):Int) = (kk:Int) + 1 from by omega];simpa using HE.out⟩,HB⟩
  ·have HE:=Aside0.mk (show -1 = r from Zc)
   have q1:decide (kk < l.length) = false:=decide_eq_false hlt
   have q2:decide ((kk:Int) < (l.length:Int)) = false:=decide_eq_false (by omega)
   clear HI hkk
   go_wp2
   go_ret
   exact ⟨by rw [← HE.out];rfl,HB.out⟩

/-! ### slices_ContainsFunc: function 88 -/
set_option maxHeartbeats 2000000 in
theorem any88 (g:Nat) (lb:Array Value) (eg:∀ args w,(callFunc g args).run Try.prog w = .ok (.enter g args) w) (f:S83 → Option Bool) (A:Option Addr) (c:Nat) (l:List S83) (r:Bool) (w:World) (hr:Kd.C k83 w A l.length l) (hc:l.length ≤ c)
  (hp:∀ (W:World) (x:S83) (b:Bool) (E1:Option Addr) (e1:Nat) (E2:Option Addr) (e2:Nat),Below w.heap.size w W → Kd.C (Kd.int .i64) W E1 x.f1.length x.f1 → x.f1.length ≤ e1 → Kd.C (Kd.int .i64) W E2 x.f2.length x.f2 → x.f2.length ≤ e2 → f x = some b → Calls Try.prog g (#[.agg #[.bool x.f0,.slice E1 x.f1.length e1,.slice E2 x.f2.length e2]] ++ lb) W fun e w'=>e = .returned (.bool b) ∧ Below W.heap.size W w')
  (h:anyO f l = some r) :
  Calls Try.prog 88 #[.slice A l.length c,.func (.func g) #[] lb] w fun e w'=>e = .returned (.bool r) ∧ Below w.heap.size w w':=by
 obtain ⟨j,hj,hr2⟩:=idxO_any f l 0 r (Int.le_refl _) h
 have HR:=Aside0.mk hr2
 have HC:=Aside0.mk (fun W hW=>idx117 g lb eg f A c l j W (Kd.C_below hr hW) hc (fun W' x b E1 e1 E2 e2 h1=>hp W' x b E1 e1 E2 e2 (hW.trans (h1.mono hW.size))) hj)
 clear hr hp h hc hj hr2 eg
 go_enter Try.func88,Try.ntmps88
 go_wp2_with fail
 refine (HC.out _ (Below.refl _ _)).mono ?_
 rintro e w' ⟨rfl,hb⟩
 have HB:=Aside0.mk hb
 clear hb HC
 go_wp2
 go_ret
 exact ⟨by rw [HR.out];rfl,HB.out⟩

/-! ### impl_Sign_isClause_1_any: function 1000002 -/
def impl_Sign_isClause_1_any.f (k:Nat) (l0:List (S83)) (l1_0:List Int):Option (Bool):=anyO (fun x=>impl_Sign_isClause_1.f k x.f0 x.f1 x.f2 l1_0) l0
theorem impl_Sign_isClause_1_any.mono:∀ a0 a1 k,LeO (impl_Sign_isClause_1_any.f k a0 a1) (impl_Sign_isClause_1_any.f (k + 1) a0 a1):=by
 intro a0 a1 k
 unfold impl_Sign_isClause_1_any.f
 exact anyO_mono (fun x=>impl_Sign_isClause_1.mono _ _ _ _ k) _
theorem impl_Sign_isClause_1_any.calls (k:Nat) (A0:Option Addr) (c0:Nat) (l0:List (S83)) (A1_0:Option Addr) (c1_0:Nat) (l1_0:List Int) (g1_:Nat) (r:Bool) (w:World) (hr0:Kd.C k83 w A0 l0.length l0) (hc0:l0.length ≤ c0) (hr1_0:Kd.C (Kd.int .i64) w A1_0 l1_0.length l1_0) (hc1_0:l1_0.length ≤ c1_0) (hg1:w.heap[g1_]? = some (.cells #[.slice A1_0 l1_0.length c1_0] 26 (0,0))) (h:impl_Sign_isClause_1_any.f k l0 l1_0 = some r) :
  Calls Try.prog 88 #[.slice A0 l0.length c0,.func (.func 89) #[] #[.pointer (some ⟨g1_,0,none⟩)]] w fun e w'=>e = .returned (.bool r) ∧ Below w.heap.size w w':=by
 exact any88 89 #[.pointer (some ⟨g1_,0,none⟩)] (enters_of Try.func89 (by kernel_rfl) rfl) (fun x=>impl_Sign_isClause_1.f k x.f0 x.f1 x.f2 l1_0) A0 c0 l0 r w hr0 hc0 (fun W x b E1 e1 E2 e2 hW hE1 he1 hE2 he2 hx=>(impl_Sign_isClause_1.calls k x.f0 E1 e1 x.f1 E2 e2 x.f2 g1_ A1_0 c1_0 l1_0 b W hE1 he1 hE2 he2 (Kd.C_below hr1_0 hW) hc1_0 ((hW.block _ (Array.getElem?_eq_some_iff.1 hg1).1).trans hg1) hx).mono fun _ _ h_=>⟨h_.1,h_.2⟩) h

/-! ### impl_Sign_isClause: function 50 -/
def impl_Sign_isClause.f (k:Nat) (l0_0:List Int) (l1:List (S83)):Option (Bool):=if (l1.length:Int) ≤ 8 then ((impl_Sign_isClause_1_any.f k l1 l0_0).bind fun t148=>(some (!t148))) else (some false)
theorem impl_Sign_isClause.mono:∀ a0 a1 k,LeO (impl_Sign_isClause.f k a0 a1) (impl_Sign_isClause.f (k + 1) a0 a1):=by
 intro a0 a1 k
 unfold impl_Sign_isClause.f
 have m0:=@impl_Sign_isClause_1_any.mono
 exact mO
set_option maxHeartbeats 8000000 in
set_option maxRecDepth 100000 in
theorem impl_Sign_isClause.calls (k:Nat) (A0_0:Option Addr) (c0_0:Nat) (l0_0:List Int) (A1:Option Addr) (c1:Nat) (l1:List (S83)) (r:Bool) (w:World) (hr0_0:Kd.C (Kd.int .i64) w A0_0 l0_0.length l0_0) (hc0_0:l0_0.length ≤ c0_0) (hr1:Kd.C k83 w A1 l1.length l1) (hc1:l1.length ≤ c1) (h:impl_Sign_isClause.f k l0_0 l1 = some r) :
  Calls Try.prog 50 #[.agg #[.slice A0_0 l0_0.length c0_0],.slice A1 l1.length c1] w fun e w'=>e = .returned (.bool r) ∧ Below w.heap.size w w':=by
 have hu26:=Try.underlying26
 have HR0_0:=Aside0.mk hr0_0
 have HC0_0:=Aside0.mk hc0_0
 clear hr0_0 hc0_0
 have HR1:=Aside0.mk hr1
 have HC1:=Aside0.mk hc1
 clear hr1 hc1
 have HB:=Aside0.mk (Below.refl w.heap.size w)
 have H:(if (l1.length:Int) ≤ 8 then ((impl_Sign_isClause_1_any.f k l1 l0_0).bind fun t148=>(some (!t148))) else (some false)) = some r:=h
 clear h
 by_cases c3:(l1.length:Int) ≤ 8
 ·rw [if_pos c3] at H
  have c3b0:=decide_eq_true c3
  have c3b1:decide (l1.length ≤ 8) = true:=decide_eq_true (by omega)
  clear c3
  replace H:=bI H;obtain ⟨t148,A4,H⟩:=H
  obtain rfl:=Option.some.inj H
  go_enter Try.func50,Try.ntmps50
  go_wp2_with (first|(refine xB 2 #[.slice A0_0 l0_0.length c0_0] 26 ?_;intro gb147 hg w5 hbox hb;have BK147:=Aside0.mk (hbox);have GW147:=gZ w gb147;have GE147:=GW147;replace HB:=bS hb;clear hb hbox hg)|(go_at_call 88;(with_reducible refine (impl_Sign_isClause_1_any.calls k _ _ l1 A0_0 c0_0 l0_0 gb147 t148 _ ?side1 ?side2 ?side3 ?side4 ?side5 A4.out).mono ?_);(case side1=>exact sC HR1);(case side2=>exact HC1.out);(case side3=>exact Yx);(case side4=>exact Yw);(case side5=>(with_reducible repeat (first|refine blk_drewN ?_ _|refine blk_drew ?_|refine blk_alloc ?_ _));exact BK147.out);rintro e w6 ⟨rfl,hb⟩;replace BK147:=bb BK147 hb;replace HB:=bS hb;clear hb))
  go_ret
  exact ⟨Yb,bH⟩
 ·rw [if_neg c3] at H
  have c3b0:decide ((l1.length:Int) ≤ 8) = false:=decide_eq_false c3
  have c3b1:decide (l1.length ≤ 8) = false:=decide_eq_false (by omega)
  clear c3
  obtain rfl:=Option.some.inj H
  go_enter Try.func50,Try.ntmps50
  go_wp2_with (first|(refine xB 2 #[.slice A0_0 l0_0.length c0_0] 26 ?_;intro gb147 hg w7 hbox hb;have BK147:=Aside0.mk (hbox);have GW147:=gZ w gb147;have GE147:=GW147;replace HB:=bS hb;clear hb hbox hg))
  go_ret
  exact ⟨Yb,bH⟩

/-! ### impl_Sign_eval: function 80 -/
mutual
def impl_Sign_eval.l0:Nat → List Int → List Int → Int → Int → Int → Int → Int → List Int → Int → List (List Int) → Option (Int × Int)
 | 0,_,_,_,_,_,_,_,_,_,_=>none
 | k + 1,x2,x4,x12,x13,x14,x33,x34,x150000,x151000,x151001=>if x34 < x33 then ((impl_Sign_eval.f k x150000 x151000 x151001 x2 x14 x4).bind fun bt154=>(impl_Sign_eval.l0 k x2 x4 x12 (wrap64 ((wrap64 (x13 * x151000)) + bt154.1)) bt154.2 x33 (wrap64 (x34 + 1)) x150000 x151000 x151001)) else (if 0 ≤ x12 then (if x12 < (x151001.length:Int) then (if 0 ≤ x13 then (if x13 < ((rd_L2 x151001 x12).length:Int) then (some (rd (rd_L2 x151001 x12) x13,x14)) else (none)) else (none)) else (none)) else (none))
def impl_Sign_eval.f:Nat → List Int → Int → List (List Int) → List Int → Int → List Int → Option (Int × Int)
 | 0,_,_,_,_,_,_=>none
 | k + 1,l0_0,a1_0,l1_1,l2,a3,l4=>if 0 ≤ a3 then (if a3 < (l2.length:Int) then (if (rd l2 a3) < 0 then (if 0 ≤ (wrap64 ((-1) - (rd l2 a3))) then (if (wrap64 ((-1) - (rd l2 a3))) < (l4.length:Int) then (some (rd l4 (wrap64 ((-1) - (rd l2 a3))),wrap64 (a3 + 1))) else (none)) else (none)) else ((impl_Sign_args.f l0_0 (rd l2 a3)).bind fun t153=>(impl_Sign_eval.l0 k l2 l4 (rd l2 a3) 0 (wrap64 (a3 + 1)) t153 0 l0_0 a1_0 l1_1))) else (none)) else (none)
end
theorem impl_Sign_eval.mono_l:∀ k,(∀ y0 y1 y2 y3 y4 y5,LeO (impl_Sign_eval.f k y0 y1 y2 y3 y4 y5) (impl_Sign_eval.f (k + 1) y0 y1 y2 y3 y4 y5)) ∧ (∀ y0 y1 y2 y3 y4 y5 y6 y7 y8 y9,LeO (impl_Sign_eval.l0 k y0 y1 y2 y3 y4 y5 y6 y7 y8 y9) (impl_Sign_eval.l0 (k + 1) y0 y1 y2 y3 y4 y5 y6 y7 y8 y9))
 | 0=>⟨fun _ _ _ _ _ _ r h=>by simp [impl_Sign_eval.f] at h,fun _ _ _ _ _ _ _ _ _ _ r h=>by simp [impl_Sign_eval.l0] at h⟩
 | k + 1=>by
  obtain ⟨ih0,ih1⟩:=impl_Sign_eval.mono_l k
  refine ⟨?_,?_⟩
  ·intro y0 y1 y2 y3 y4 y5
   unfold impl_Sign_eval.f
   exact mO
  ·intro y0 y1 y2 y3 y4 y5 y6 y7 y8 y9
   unfold impl_Sign_eval.l0
   exact mO
theorem impl_Sign_eval.mono:∀ a0 a1 a2 a3 a4 a5 k,LeO (impl_Sign_eval.f k a0 a1 a2 a3 a4 a5) (impl_Sign_eval.f (k + 1) a0 a1 a2 a3 a4 a5):=by
 intro a0 a1 a2 a3 a4 a5 k
 obtain ⟨ih0,ih1⟩:=impl_Sign_eval.mono_l k
 exact ih0 a0 a1 a2 a3 a4 a5
set_option maxHeartbeats 8000000 in
set_option maxRecDepth 100000 in
theorem impl_Sign_eval.calls (k:Nat):∀ (A0_0:Option Addr) (c0_0:Nat) (l0_0:List Int) (a1_0:Int) (A1_1:Option Addr) (c1_1:Nat) (l1_1:List (List Int)) (A2:Option Addr) (c2:Nat) (l2:List Int) (a3:Int) (A4:Option Addr) (c4:Nat) (l4:List Int) (r1:Int) (r2:Int) (w:World) (hr0_0:Kd.C (Kd.int .i64) w A0_0 l0_0.length l0_0) (hc0_0:l0_0.length ≤ c0_0) (hr1_1:Kd.C (Kd.slice 3 (Kd.int .i64)) w A1_1 l1_1.length l1_1) (hc1_1:l1_1.length ≤ c1_1) (hr2:Kd.C (Kd.int .i64) w A2 l2.length l2) (hc2:l2.length ≤ c2) (hr4:Kd.C (Kd.int .i64) w A4 l4.length l4) (hc4:l4.length ≤ c4) (h:impl_Sign_eval.f k l0_0 a1_0 l1_1 l2 a3 l4 = some (r1,r2)),
  Calls Try.prog 80 #[.agg #[.slice A0_0 l0_0.length c0_0],.agg #[.int .i64 a1_0,.slice A1_1 l1_1.length c1_1],.slice A2 l2.length c2,.int .i64 a3,.slice A4 l4.length c4] w fun e w'=>e = .returned (.tuple #[.int .i64 r1,.int .i64 r2]) ∧ Below w.heap.size w w':=by
 induction k using Nat.strongRecOn with
 | _ k ih =>
 intro A0_0 c0_0 l0_0 a1_0 A1_1 c1_1 l1_1 A2 c2 l2 a3 A4 c4 l4 r1 r2 w hr0_0 hc0_0 hr1_1 hc1_1 hr2 hc2 hr4 hc4 h
 cases k with
 | zero=>exact absurd h (by simp [impl_Sign_eval.f])
 | succ k =>
 simp only [impl_Sign_eval.f] at h
 have hu26:=Try.underlying26
 have hu31:=Try.underlying31
 have HR0_0:=Aside0.mk hr0_0
 have HC0_0:=Aside0.mk hc0_0
 clear hr0_0 hc0_0
 have HR1_1:=Aside0.mk hr1_1
 have HC1_1:=Aside0.mk hc1_1
 clear hr1_1 hc1_1
 have HR2:=Aside0.mk hr2
 have HC2:=Aside0.mk hc2
 clear hr2 hc2
 have HR4:=Aside0.mk hr4
 have HC4:=Aside0.mk hc4
 clear hr4 hc4
 have HB:=Aside0.mk (Below.refl w.heap.size w)
 have H:(if 0 ≤ a3 then (if a3 < (l2.length:Int) then (if (rd l2 a3) < 0 then (if 0 ≤ (wrap64 ((-1) - (rd l2 a3))) then (if (wrap64 ((-1) - (rd l2 a3))) < (l4.length:Int) then (some (rd l4 (wrap64 ((-1) - (rd l2 a3))),wrap64 (a3 + 1))) else (none)) else (none)) else ((impl_Sign_args.f l0_0 (rd l2 a3)).bind fun t153=>(impl_Sign_eval.l0 k l2 l4 (rd l2 a3) 0 (wrap64 (a3 + 1)) t153 0 l0_0 a1_0 l1_1))) else (none)) else (none)) = some (r1,r2):=h
 clear h
 replace H:=gI H;obtain ⟨c6b0,H⟩:=H
 replace H:=gI H;obtain ⟨c7b0,H⟩:=H
 by_cases c8:(rd l2 a3) < 0
 ·rw [if_pos c8] at H
  have c8b0:=decide_eq_true c8
  clear c8
  obtain ⟨ji9,hji9⟩:∃ j_:Int,(wrap64 ((-1) - (rd l2 a3))) = j_:=⟨_,rfl⟩
  replace H:(if 0 ≤ (ji9) then (if (ji9) < (l4.length:Int) then (some (rd l4 (ji9),wrap64 (a3 + 1))) else (none)) else (none)) = some (r1,r2):=by first|(rw [hji9] at H;exact H)|(simp only [hji9] at H ⊢;exact H)
  have hji9w:(IntKind.i64.wrap ((-1) - (rd l2 a3))) = ji9:=(i64_w _).trans hji9
  replace H:=gI H;obtain ⟨c10b0,H⟩:=H
  replace H:=gI H;obtain ⟨c11b0,H⟩:=H
  simp only [Option.some.injEq,Prod.mk.injEq] at H
  obtain ⟨rfl,rfl⟩:=H
  go_enter Try.func80,Try.ntmps80
  go_wp2_with (first|(refine xB 5 #[.slice A0_0 l0_0.length c0_0] 26 ?_;intro gb149 hg w12 hbox hb;have BK149:=Aside0.mk (hbox);have GW149:=gZ w gb149;have GE149:=GW149;replace HB:=bS hb;clear hb hbox hg)|(refine xB 6 #[.int .i64 a1_0,.slice A1_1 l1_1.length c1_1] 31 ?_;intro gb150 hg w13 hbox hb;have BK150:=Aside0.mk (hbox);have GW150:=gZ w gb150;have GE150:=GW150;replace HB:=bS hb;have NB149_150:=nl BK149 gb149 gb150;have NB150_149:=nr NB149_150;replace BK149:=bb BK149 hb;clear hb hbox hg;have p151:0 ≤ (a3:Int):=oD;have q151:a3 < (l2.length:Int):=oD;obtain ⟨ad151,e151,hx151_0⟩:=Kd.at_int HR2.out a3 p151 q151;cases e151;replace hx151_0:=(HB.out.cell (World.block_lt_of_cell? w _ hx151_0)).trans hx151_0;replace p151:=eq_true p151;replace q151:=eq_true q151;have p152:0 ≤ ((ji9):Int):=oD;have q152:(ji9) < (l4.length:Int):=oD;obtain ⟨ad152,e152,hx152_0⟩:=Kd.at_int HR4.out (ji9) p152 q152;cases e152;replace hx152_0:=(HB.out.cell (World.block_lt_of_cell? w _ hx152_0)).trans hx152_0;replace p152:=eq_true p152;replace q152:=eq_true q152))
  go_ret2
  exact ⟨by first|rfl|(simp [errW_none,errW_some] <;> rfl)|(simp only [← hji9];first|rfl|(simp [errW_none,errW_some] <;> rfl))|(simp [*,errW_none,errW_some] <;> rfl),bH⟩
 ·rw [if_neg c8] at H
  have c8b0:decide ((rd l2 a3) < 0) = false:=decide_eq_false c8
  clear c8
  replace H:=bI H;obtain ⟨t153,A14,H⟩:=H
  have H':=Aside0.mk H
  clear H
  go_enter Try.func80,Try.ntmps80
  go_wp2_with (first|(refine xB 5 #[.slice A0_0 l0_0.length c0_0] 26 ?_;intro gb149 hg w15 hbox hb;have BK149:=Aside0.mk (hbox);have GW149:=gZ w gb149;have GE149:=GW149;replace HB:=bS hb;clear hb hbox hg)|(refine xB 6 #[.int .i64 a1_0,.slice A1_1 l1_1.length c1_1] 31 ?_;intro gb150 hg w16 hbox hb;have BK150:=Aside0.mk (hbox);have GW150:=gZ w gb150;have GE150:=GW150;replace HB:=bS hb;have NB149_150:=nl BK149 gb149 gb150;have NB150_149:=nr NB149_150;replace BK149:=bb BK149 hb;clear hb hbox hg;have p151:0 ≤ (a3:Int):=oD;have q151:a3 < (l2.length:Int):=oD;obtain ⟨ad151,e151,hx151_0⟩:=Kd.at_int HR2.out a3 p151 q151;cases e151;replace hx151_0:=(HB.out.cell (World.block_lt_of_cell? w _ hx151_0)).trans hx151_0;replace p151:=eq_true p151;replace q151:=eq_true q151;have hnb17:=NB149_150.out;have hnc17:=NB150_149.out;have hcz18_0:=qc1_0 BK149;have hfz18_0:=fz BK149 0)|((with_reducible refine gate_callee (f:=78) rfl ?_);refine goesL_ (some 33) rfl rfl Try.func78 (by kernel_rfl) rfl #[.agg #[.slice A0_0 l0_0.length c0_0],.int .i64 (rd l2 a3)] rfl Ya ?_;(with_reducible refine (impl_Sign_args.calls _ _ l0_0 (rd l2 a3) t153 _ ?side1 ?side2 A14.out).mono ?_);(case side1=>exact Yx);(case side2=>exact Yw);rintro e w19 ⟨rfl,hb⟩;refine ⟨_,rfl,?_⟩;replace BK149:=bb BK149 hb;replace BK150:=bb BK150 hb;replace HB:=bS hb;clear hb))
  go_loopg [13,14,34] k (fun kq v13 v14 v34 w'=>∃ (x13_1:Int) (x14_1:Int) (x34_1:Int),v13 = .int .i64 x13_1 ∧ v14 = .int .i64 x14_1 ∧ v34 = .int .i64 x34_1 ∧ Aside0 (impl_Sign_eval.l0 kq l2 l4 (rd l2 a3) x13_1 x14_1 t153 x34_1 l0_0 a1_0 l1_1 = some (r1,r2)) ∧ Aside0 (kq ≤ k) ∧ Aside0 (w'.heap[gb149]? = some (.cells #[(.slice A0_0 l0_0.length c0_0)] 26 (0,0))) ∧ Aside0 (w'.heap[gb150]? = some (.cells #[.int .i64 a1_0,(.slice A1_1 l1_1.length c1_1)] 31 (0,0))) ∧ Aside0 (Below w.heap.size w w'))
  case atStart=>exact ⟨(0),(wrap64 (a3 + 1)),(0),Yd,Yd,Yd,H',⟨Nat.le_refl _⟩,⟨by (with_reducible repeat (first|refine blk_drewN ?_ _|refine blk_drew ?_|refine blk_alloc ?_ _));exact BK149.out⟩,⟨by (with_reducible repeat (first|refine blk_drewN ?_ _|refine blk_drew ?_|refine blk_alloc ?_ _));exact BK150.out⟩,⟨bH⟩⟩
  case round =>
   clear H'
   (try clear c2);(try clear c4);(try clear c6b0);(try clear c7b0);(try clear c8);(try clear c8b0);(try clear c10b0);(try clear c11b0);(try clear hcz18_0);(try clear hfz18_0);(try clear hx151_0);(try clear hx152_0);(try clear p151);(try clear p152);(try clear q151);(try clear q152)
   obtain ⟨x13_1,x14_1,x34_1,rfl,rfl,rfl,HA,HK1,BK149,BK150,HB⟩:=hrel
   cases gk with
   | zero=>exact absurd HA.out (by simp [impl_Sign_eval.l0])
   | succ k1 =>
    have H:=HA.out
    clear HA
    simp only [impl_Sign_eval.l0] at H
    by_cases c20:x34_1 < t153
    ·rw [if_pos c20] at H
     have c20b0:=decide_eq_true c20
     clear c20
     replace H:=bI H;obtain ⟨⟨t154,t155⟩,A21,H⟩:=H
     dsimp only at H
     have H':=Aside0.mk H
     clear H
     have hnb22:=NB149_150.out
     have hnc22:=NB150_149.out
     have hcz23_0:=qc1_0 BK149
     have hfz23_0:=fz BK149 0
     have hcz24_0:=qc2_0 BK150
     have hcz24_1:=qc2_1 BK150
     have hfz24_0:=fz BK150 0
     have hfz24_1:=fz BK150 1
     go_wp2_with (first|((with_reducible refine gate_callee (f:=80) rfl ?_);refine goesL_ (some 42) rfl rfl Try.func80 (by kernel_rfl) rfl #[.agg #[.slice A0_0 l0_0.length c0_0],.agg #[.int .i64 a1_0,.slice A1_1 l1_1.length c1_1],.slice (some ad151) l2.length c2,.int .i64 x14_1,.slice A4 l4.length c4] rfl Ya ?_;(with_reducible refine (ih k1 YH _ _ l0_0 a1_0 _ _ l1_1 _ _ l2 x14_1 _ _ l4 t154 t155 _ ?side1 ?side2 ?side3 ?side4 ?side5 ?side6 ?side7 ?side8 A21.out).mono ?_);(case side1=>exact Yx);(case side2=>exact Yw);(case side3=>exact YY);(case side4=>exact YW);(case side5=>exact sC HR2);(case side6=>exact HC2.out);(case side7=>exact sC HR4);(case side8=>exact HC4.out);rintro e w25 ⟨rfl,hb⟩;refine ⟨_,rfl,?_⟩;replace BK149:=bb BK149 hb;replace BK150:=bb BK150 hb;replace HB:=bS hb;(try clear hb);(try clear hb2);(try clear hk);(try clear hi);have hcz26_0:=qc2_0 BK150;have hcz26_1:=qc2_1 BK150;have hfz26_0:=fz BK150 0;have hfz26_1:=fz BK150 1))
     go_roundg k1
     case measure=>have:=HK1.out;omega
     case rel=>exact ⟨(wrap64 ((wrap64 (x13_1 * a1_0)) + t154)),(t155),(wrap64 (x34_1 + 1)),Yd,Yd,Yd,H',⟨YH⟩,⟨by (with_reducible repeat (first|refine blk_drewN ?_ _|refine blk_drew ?_|refine blk_alloc ?_ _));exact BK149.out⟩,⟨by (with_reducible repeat (first|refine blk_drewN ?_ _|refine blk_drew ?_|refine blk_alloc ?_ _));exact BK150.out⟩,⟨bH⟩⟩
    ·rw [if_neg c20] at H
     have c20b0:decide (x34_1 < t153) = false:=decide_eq_false c20
     clear c20
     replace H:=gI H;obtain ⟨c27b0,H⟩:=H
     replace H:=gI H;obtain ⟨c28b0,H⟩:=H
     replace H:=gI H;obtain ⟨c29b0,H⟩:=H
     replace H:=gI H;obtain ⟨c30b0,H⟩:=H
     simp only [Option.some.injEq,Prod.mk.injEq] at H
     obtain ⟨rfl,rfl⟩:=H
     have hnb31:=NB150_149.out
     have hnc31:=NB149_150.out
     have hcz32_0:=qc2_0 BK150
     have hcz32_1:=qc2_1 BK150
     have hfz32_0:=fz BK150 0
     have hfz32_1:=fz BK150 1
     have p156:0 ≤ ((rd l2 a3):Int):=oD
     have q156:(rd l2 a3) < (l1_1.length:Int):=oD
     obtain ⟨ad156,A156_0,c156_0,e156,hx156_0,hl156_0,hi156_0⟩:=at_L2 HR1_1.out (rd l2 a3) p156 q156
     cases e156
     replace hx156_0:=(HB.out.cell (World.block_lt_of_cell? w _ hx156_0)).trans hx156_0
     have HR156_0:=Aside0.mk hi156_0
     have HC156_0:=Aside0.mk hl156_0
     clear hi156_0 hl156_0
     replace p156:=eq_true p156
     replace q156:=eq_true q156
     have p157:0 ≤ (x13_1:Int):=oD
     have q157:x13_1 < ((rd_L2 l1_1 (rd l2 a3)).length:Int):=oD
     obtain ⟨ad157,e157,hx157_0⟩:=Kd.at_int HR156_0.out x13_1 p157 q157
     cases e157
     replace hx157_0:=(HB.out.cell (World.block_lt_of_cell? w _ hx157_0)).trans hx157_0
     replace p157:=eq_true p157
     replace q157:=eq_true q157
     go_wp2
     go_ret2
     exact ⟨Yb,bH⟩

/-! ### impl_Sign_value: function 43 -/
def impl_Sign_value.f (k:Nat) (l0_0:List Int) (a1_0:Int) (l1_1:List (List Int)) (l2:List Int) (l3:List Int):Option (Int):=(impl_Sign_eval.f k l0_0 a1_0 l1_1 l2 0 l3).bind fun bt160=>(some bt160.1)
theorem impl_Sign_value.mono:∀ a0 a1 a2 a3 a4 k,LeO (impl_Sign_value.f k a0 a1 a2 a3 a4) (impl_Sign_value.f (k + 1) a0 a1 a2 a3 a4):=by
 intro a0 a1 a2 a3 a4 k
 unfold impl_Sign_value.f
 have m0:=@impl_Sign_eval.mono
 exact mO
set_option maxHeartbeats 8000000 in
set_option maxRecDepth 100000 in
theorem impl_Sign_value.calls (k:Nat) (A0_0:Option Addr) (c0_0:Nat) (l0_0:List Int) (a1_0:Int) (A1_1:Option Addr) (c1_1:Nat) (l1_1:List (List Int)) (A2:Option Addr) (c2:Nat) (l2:List Int) (A3:Option Addr) (c3:Nat) (l3:List Int) (r:Int) (w:World) (hr0_0:Kd.C (Kd.int .i64) w A0_0 l0_0.length l0_0) (hc0_0:l0_0.length ≤ c0_0) (hr1_1:Kd.C (Kd.slice 3 (Kd.int .i64)) w A1_1 l1_1.length l1_1) (hc1_1:l1_1.length ≤ c1_1) (hr2:Kd.C (Kd.int .i64) w A2 l2.length l2) (hc2:l2.length ≤ c2) (hr3:Kd.C (Kd.int .i64) w A3 l3.length l3) (hc3:l3.length ≤ c3) (h:impl_Sign_value.f k l0_0 a1_0 l1_1 l2 l3 = some r) :
  Calls Try.prog 43 #[.agg #[.slice A0_0 l0_0.length c0_0],.agg #[.int .i64 a1_0,.slice A1_1 l1_1.length c1_1],.slice A2 l2.length c2,.slice A3 l3.length c3] w fun e w'=>e = .returned (.int .i64 r) ∧ Below w.heap.size w w':=by
 have hu26:=Try.underlying26
 have hu31:=Try.underlying31
 have HR0_0:=Aside0.mk hr0_0
 have HC0_0:=Aside0.mk hc0_0
 clear hr0_0 hc0_0
 have HR1_1:=Aside0.mk hr1_1
 have HC1_1:=Aside0.mk hc1_1
 clear hr1_1 hc1_1
 have HR2:=Aside0.mk hr2
 have HC2:=Aside0.mk hc2
 clear hr2 hc2
 have HR3:=Aside0.mk hr3
 have HC3:=Aside0.mk hc3
 clear hr3 hc3
 have HB:=Aside0.mk (Below.refl w.heap.size w)
 have H:((impl_Sign_eval.f k l0_0 a1_0 l1_1 l2 0 l3).bind fun bt160=>(some bt160.1)) = some r:=h
 clear h
 replace H:=bI H;obtain ⟨⟨t160,t161⟩,A5,H⟩:=H
 dsimp only at H
 obtain rfl:=Option.some.inj H
 go_enter Try.func43,Try.ntmps43
 go_wp2_with (first|(refine xB 4 #[.slice A0_0 l0_0.length c0_0] 26 ?_;intro gb158 hg w6 hbox hb;have BK158:=Aside0.mk (hbox);have GW158:=gZ w gb158;have GE158:=GW158;replace HB:=bS hb;clear hb hbox hg)|(refine xB 5 #[.int .i64 a1_0,.slice A1_1 l1_1.length c1_1] 31 ?_;intro gb159 hg w7 hbox hb;have BK159:=Aside0.mk (hbox);have GW159:=gZ w gb159;have GE159:=GW159;replace HB:=bS hb;have NB158_159:=nl BK158 gb158 gb159;have NB159_158:=nr NB158_159;replace BK158:=bb BK158 hb;clear hb hbox hg;have hnb8:=NB158_159.out;have hnc8:=NB159_158.out;have hcz9_0:=qc1_0 BK158;have hfz9_0:=fz BK158 0;have hcz10_0:=qc2_0 BK159;have hcz10_1:=qc2_1 BK159;have hfz10_0:=fz BK159 0;have hfz10_1:=fz BK159 1)|((with_reducible refine gate_callee (f:=80) rfl ?_);refine goesL_ (some 16) rfl rfl Try.func80 (by kernel_rfl) rfl #[.agg #[.slice A0_0 l0_0.length c0_0],.agg #[.int .i64 a1_0,.slice A1_1 l1_1.length c1_1],.slice A2 l2.length c2,.int .i64 0,.slice A3 l3.length c3] rfl Ya ?_;(with_reducible refine (impl_Sign_eval.calls k _ _ l0_0 a1_0 _ _ l1_1 _ _ l2 0 _ _ l3 t160 t161 _ ?side1 ?side2 ?side3 ?side4 ?side5 ?side6 ?side7 ?side8 A5.out).mono ?_);(case side1=>exact Yx);(case side2=>exact Yw);(case side3=>exact YY);(case side4=>exact YW);(case side5=>exact sC HR2);(case side6=>exact HC2.out);(case side7=>exact sC HR3);(case side8=>exact HC3.out);rintro e w11 ⟨rfl,hb⟩;refine ⟨_,rfl,?_⟩;replace BK158:=bb BK158 hb;replace BK159:=bb BK159 hb;replace HB:=bS hb;clear hb))
 go_ret
 exact ⟨Yb,bH⟩

end Go.Proofs.Ytmgkflkfoccgkaa.QFnTidied
