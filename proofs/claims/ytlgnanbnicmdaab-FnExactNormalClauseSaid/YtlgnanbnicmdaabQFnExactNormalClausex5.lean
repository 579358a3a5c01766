-- Written by this session's own program (wip/x/xprint.py, over the kit's printer); Lean checks it.
import Derived.Test.YtlgnanbnicmdaabQFnExactNormalClausex0
import Derived.Test.YtlgnanbnicmdaabQFnExactNormalClausex3
import Derived.Test.YtlgnanbnicmdaabQFnExactNormalClausex4
namespace Go.Proofs.Ytlgnanbnicmdaab.QFnExactNormalClause
open Go.RowKit Go.Proofs.YtlgnanbnicmdaabW.PrintWords Go.Proofs.YtlgnanbnicmdaabW.PrintLast Go.Proofs.YtlgnanbnicmdaabW.PrintMore
attribute [local go_sem] max2_int min2_int max_two min_two max_three min_three max_four min_four   -- for this text's walks alone
set_option linter.unusedVariables false
set_option linter.unusedSimpArgs false

/-! ### spec_l1Has: function 106 -/
def spec_l1Has.l0:Nat → Int → List Int → Int → Int → Option (Bool)
 | 0,_,_,_,_=>none
 | k + 1,x1,x7,x8,x9=>if x9 < x8 then (if 0 ≤ x9 then (if x9 < (x7.length:Int) then (if (rd x7 x9) = x1 then (some true) else (spec_l1Has.l0 k x1 x7 x8 (wrap64 (x9 + 1)))) else (none)) else (none)) else (some false)
def spec_l1Has.f (k:Nat) (l0:List Int) (a1:Int):Option (Bool):=spec_l1Has.l0 k a1 l0 (l0.length:Int) 0
theorem spec_l1Has.mono_l:∀ k,(∀ y0 y1 y2 y3,LeO (spec_l1Has.l0 k y0 y1 y2 y3) (spec_l1Has.l0 (k + 1) y0 y1 y2 y3))
 | 0=>fun _ _ _ _ r h=>by simp [spec_l1Has.l0] at h
 | k + 1=>by
  have ih0:=spec_l1Has.mono_l k
  ·intro y0 y1 y2 y3
   unfold spec_l1Has.l0
   exact mO
theorem spec_l1Has.mono:∀ a0 a1 k,LeO (spec_l1Has.f k a0 a1) (spec_l1Has.f (k + 1) a0 a1):=by
 intro a0 a1 k
 have ih0:=spec_l1Has.mono_l k
 unfold spec_l1Has.f
 exact mO
set_option maxHeartbeats 8000000 in
set_option maxRecDepth 100000 in
theorem spec_l1Has.calls (k:Nat) (A0:Option Addr) (c0:Nat) (l0:List Int) (a1:Int) (r:Bool) (w:World) (hr0:Kd.C (Kd.int .i64) w A0 l0.length l0) (hc0:l0.length ≤ c0) (h:spec_l1Has.f k l0 a1 = some r) :
  Calls Try.prog 106 #[.slice A0 l0.length c0,.int .i64 a1] w fun e w'=>e = .returned (.bool r) ∧ Drawn0 w w':=by
 have HR0:=Aside0.mk hr0
 have HC0:=Aside0.mk hc0
 clear hr0 hc0
 have H:(spec_l1Has.l0 k a1 l0 (l0.length:Int) 0) = some r:=h
 clear h
 have H':=Aside0.mk H
 clear H
 go_enter Try.func106,Try.ntmps106
 go_wp2
 go_loopg [9] k (fun kq v9 w'=>∃ (x9_1:Int),v9 = .int .i64 x9_1 ∧ Aside0 (spec_l1Has.l0 kq a1 l0 (l0.length:Int) x9_1 = some r) ∧ Aside0 (kq ≤ k) ∧ Drawn0 w w')
 case atStart=>exact ⟨(0),Yb,H',⟨Nat.le_refl _⟩,by repeat (first|exact Drawn0.refl _|apply Drawn0.step)⟩
 case round =>
  clear H'
  try clear c1
  try clear p2
  obtain ⟨x9_1,rfl,HA,HK1,⟨m1,rfl⟩⟩:=hrel
  cases gk with
  | zero=>exact absurd HA.out (by simp [spec_l1Has.l0])
  | succ k1 =>
   have H:=HA.out
   clear HA
   simp only [spec_l1Has.l0] at H
   by_cases c3:x9_1 < (l0.length:Int)
   ·rw [if_pos c3] at H
    have c3b0:=decide_eq_true c3
    clear c3
    by_cases c4:0 ≤ x9_1
    ·rw [if_pos c4] at H
     have c4b0:=decide_eq_true c4
     clear c4
     by_cases c5:x9_1 < (l0.length:Int)
     ·rw [if_pos c5] at H
      have c5b0:=decide_eq_true c5
      clear c5
      by_cases c6:(rd l0 x9_1) = a1
      ·rw [if_pos c6] at H
       have c6b0:((rd l0 x9_1) == a1) = true:=beq_iff_eq.mpr c6
       have c6b1:((rd l0 x9_1) != a1) = false:=bne_eq_false_iff_eq.mpr c6
       clear c6
       obtain rfl:=Option.some.inj H
       have p256:0 ≤ (x9_1:Int):=oD
       have q256:x9_1 < (l0.length:Int):=oD
       obtain ⟨ad256,e256,hx256_0⟩:=Kd.at_int HR0.out x9_1 p256 q256
       cases e256
       replace p256:=eq_true p256
       replace q256:=eq_true q256
       go_wp2
       go_ret
       exact ⟨by first|rfl|(simp;done)|(simp [*];done),by repeat (first|exact Drawn0.refl _|apply Drawn0.step)⟩
      ·rw [if_neg c6] at H
       have c6b0:((rd l0 x9_1) == a1) = false:=beq_eq_false_iff_ne.mpr c6
       have c6b1:((rd l0 x9_1) != a1) = true:=bne_iff_ne.mpr c6
       have H':=Aside0.mk H
       clear H
       have p256:0 ≤ (x9_1:Int):=oD
       have q256:x9_1 < (l0.length:Int):=oD
       obtain ⟨ad256,e256,hx256_0⟩:=Kd.at_int HR0.out x9_1 p256 q256
       cases e256
       replace p256:=eq_true p256
       replace q256:=eq_true q256
       go_wp2
       go_roundg k1
       case measure=>have:=HK1.out;omega
       case rel=>exact ⟨(wrap64 (x9_1 + 1)),Yb,H',⟨by have:=HK1.out;omega⟩,by repeat (first|exact Drawn0.refl _|apply Drawn0.step)⟩
     ·rw [if_neg c5] at H
      exact absurd H (by simp)
    ·rw [if_neg c4] at H
     exact absurd H (by simp)
   ·rw [if_neg c3] at H
    have c3b0:decide (x9_1 < (l0.length:Int)) = false:=decide_eq_false c3
    clear c3
    obtain rfl:=Option.some.inj H
    go_wp2
    go_ret
    exact ⟨by first|rfl|(simp;done)|(simp [*];done),by repeat (first|exact Drawn0.refl _|apply Drawn0.step)⟩

/-! ### spec_l1Count: function 155 -/
def spec_l1Count.l0:Nat → Int → Int → List Int → Int → Int → Option (Int)
 | 0,_,_,_,_,_=>none
 | k + 1,x1,x5,x8,x9,x10=>if x10 < x9 then (if 0 ≤ x10 then (if x10 < (x8.length:Int) then (if (rd x8 x10) = x1 then (spec_l1Count.l0 k x1 (wrap64 (x5 + 1)) x8 x9 (wrap64 (x10 + 1))) else (spec_l1Count.l0 k x1 x5 x8 x9 (wrap64 (x10 + 1)))) else (none)) else (none)) else (some x5)
def spec_l1Count.f (k:Nat) (l0:List Int) (a1:Int):Option (Int):=spec_l1Count.l0 k a1 0 l0 (l0.length:Int) 0
theorem spec_l1Count.mono_l:∀ k,(∀ y0 y1 y2 y3 y4,LeO (spec_l1Count.l0 k y0 y1 y2 y3 y4) (spec_l1Count.l0 (k + 1) y0 y1 y2 y3 y4))
 | 0=>fun _ _ _ _ _ r h=>by simp [spec_l1Count.l0] at h
 | k + 1=>by
  have ih0:=spec_l1Count.mono_l k
  ·intro y0 y1 y2 y3 y4
   unfold spec_l1Count.l0
   exact mO
theorem spec_l1Count.mono:∀ a0 a1 k,LeO (spec_l1Count.f k a0 a1) (spec_l1Count.f (k + 1) a0 a1):=by
 intro a0 a1 k
 have ih0:=spec_l1Count.mono_l k
 unfold spec_l1Count.f
 exact mO
set_option maxHeartbeats 8000000 in
set_option maxRecDepth 100000 in
theorem spec_l1Count.calls (k:Nat) (A0:Option Addr) (c0:Nat) (l0:List Int) (a1:Int) (r:Int) (w:World) (hr0:Kd.C (Kd.int .i64) w A0 l0.length l0) (hc0:l0.length ≤ c0) (h:spec_l1Count.f k l0 a1 = some r) :
  Calls Try.prog 155 #[.slice A0 l0.length c0,.int .i64 a1] w fun e w'=>e = .returned (.int .i64 r) ∧ Drawn0 w w':=by
 have HR0:=Aside0.mk hr0
 have HC0:=Aside0.mk hc0
 clear hr0 hc0
 have H:(spec_l1Count.l0 k a1 0 l0 (l0.length:Int) 0) = some r:=h
 clear h
 have H':=Aside0.mk H
 clear H
 go_enter Try.func155,Try.ntmps155
 go_wp2
 go_loopg [5,10] k (fun kq v5 v10 w'=>∃ (x5_1:Int) (x10_1:Int),v5 = .int .i64 x5_1 ∧ v10 = .int .i64 x10_1 ∧ Aside0 (spec_l1Count.l0 kq a1 x5_1 l0 (l0.length:Int) x10_1 = some r) ∧ Aside0 (kq ≤ k) ∧ Drawn0 w w')
 case atStart=>exact ⟨(0),(0),Yb,Yb,H',⟨Nat.le_refl _⟩,by repeat (first|exact Drawn0.refl _|apply Drawn0.step)⟩
 case round =>
  clear H'
  try clear c1
  try clear p2
  obtain ⟨x5_1,x10_1,rfl,rfl,HA,HK1,⟨m1,rfl⟩⟩:=hrel
  cases gk with
  | zero=>exact absurd HA.out (by simp [spec_l1Count.l0])
  | succ k1 =>
   have H:=HA.out
   clear HA
   simp only [spec_l1Count.l0] at H
   by_cases c3:x10_1 < (l0.length:Int)
   ·rw [if_pos c3] at H
    have c3b0:=decide_eq_true c3
    clear c3
    by_cases c4:0 ≤ x10_1
    ·rw [if_pos c4] at H
     have c4b0:=decide_eq_true c4
     clear c4
     by_cases c5:x10_1 < (l0.length:Int)
     ·rw [if_pos c5] at H
      have c5b0:=decide_eq_true c5
      clear c5
      by_cases c6:(rd l0 x10_1) = a1
      ·rw [if_pos c6] at H
       have c6b0:((rd l0 x10_1) == a1) = true:=beq_iff_eq.mpr c6
       have c6b1:((rd l0 x10_1) != a1) = false:=bne_eq_false_iff_eq.mpr c6
       clear c6
       have H':=Aside0.mk H
       clear H
       have p257:0 ≤ (x10_1:Int):=oD
       have q257:x10_1 < (l0.length:Int):=oD
       obtain ⟨ad257,e257,hx257_0⟩:=Kd.at_int HR0.out x10_1 p257 q257
       cases e257
       replace p257:=eq_true p257
       replace q257:=eq_true q257
       go_wp2
       go_roundg k1
       case measure=>have:=HK1.out;omega
       case rel=>exact ⟨(wrap64 (x5_1 + 1)),(wrap64 (x10_1 + 1)),Yb,Yb,H',⟨by have:=HK1.out;omega⟩,by repeat (first|exact Drawn0.refl _|apply Drawn0.step)⟩
      ·rw [if_neg c6] at H
       have c6b0:((rd l0 x10_1) == a1) = false:=beq_eq_false_iff_ne.mpr c6
       have c6b1:((rd l0 x10_1) != a1) = true:=bne_iff_ne.mpr c6
       have H':=Aside0.mk H
       clear H
       have p257:0 ≤ (x10_1:Int):=oD
       have q257:x10_1 < (l0.length:Int):=oD
       obtain ⟨ad257,e257,hx257_0⟩:=Kd.at_int HR0.out x10_1 p257 q257
       cases e257
       replace p257:=eq_true p257
       replace q257:=eq_true q257
       go_wp2
       go_roundg k1
       case measure=>have:=HK1.out;omega
       case rel=>exact ⟨(x5_1),(wrap64 (x10_1 + 1)),Yb,Yb,H',⟨by have:=HK1.out;omega⟩,by repeat (first|exact Drawn0.refl _|apply Drawn0.step)⟩
     ·rw [if_neg c5] at H
      exact absurd H (by simp)
    ·rw [if_neg c4] at H
     exact absurd H (by simp)
   ·rw [if_neg c3] at H
    have c3b0:decide (x10_1 < (l0.length:Int)) = false:=decide_eq_false c3
    clear c3
    obtain rfl:=Option.some.inj H
    go_wp2
    go_ret
    exact ⟨by first|rfl|(simp;done)|(simp [*];done),by repeat (first|exact Drawn0.refl _|apply Drawn0.step)⟩

/-! ### spec_l3Weighs: function 128 -/
def spec_l3Weighs.l0:Nat → List Int → List Int → List Int → Int → Int → Option (Bool)
 | 0,_,_,_,_,_=>none
 | k + 1,x0,x1,x8,x9,x10=>if x10 < x9 then (if 0 ≤ x10 then (if x10 < (x8.length:Int) then ((spec_l1Count.f k x0 (wrap64 ((-1) - (rd x8 x10)))).bind fun t262=>((spec_l1Count.f k x1 (wrap64 ((-1) - (rd x8 x10)))).bind fun t263=>(if t262 < t263 then (some false) else (spec_l3Weighs.l0 k x0 x1 x8 x9 (wrap64 (x10 + 1)))))) else (none)) else (none)) else (some true)
def spec_l3Weighs.f (k:Nat) (l0:List Int) (l1:List Int):Option (Bool):=(spec_l1Vars.f k l1).bind fun t258=>(spec_l3Weighs.l0 k l0 l1 t258 (t258.length:Int) 0)
theorem spec_l3Weighs.mono_l:∀ k,(∀ y0 y1 y2 y3 y4,LeO (spec_l3Weighs.l0 k y0 y1 y2 y3 y4) (spec_l3Weighs.l0 (k + 1) y0 y1 y2 y3 y4))
 | 0=>fun _ _ _ _ _ r h=>by simp [spec_l3Weighs.l0] at h
 | k + 1=>by
  have ih0:=spec_l3Weighs.mono_l k
  ·intro y0 y1 y2 y3 y4
   unfold spec_l3Weighs.l0
   have m0:=@spec_l1Count.mono
   have m1:=@spec_l1Vars.mono
   exact mO
theorem spec_l3Weighs.mono:∀ a0 a1 k,LeO (spec_l3Weighs.f k a0 a1) (spec_l3Weighs.f (k + 1) a0 a1):=by
 intro a0 a1 k
 have ih0:=spec_l3Weighs.mono_l k
 unfold spec_l3Weighs.f
 have m0:=@spec_l1Count.mono
 have m1:=@spec_l1Vars.mono
 exact mO
set_option maxHeartbeats 8000000 in
set_option maxRecDepth 100000 in
theorem spec_l3Weighs.calls (k:Nat) (A0:Option Addr) (c0:Nat) (l0:List Int) (A1:Option Addr) (c1:Nat) (l1:List Int) (r:Bool) (w:World) (hr0:Kd.C (Kd.int .i64) w A0 l0.length l0) (hc0:l0.length ≤ c0) (hr1:Kd.C (Kd.int .i64) w A1 l1.length l1) (hc1:l1.length ≤ c1) (h:spec_l3Weighs.f k l0 l1 = some r) :
  Calls Try.prog 128 #[.slice A0 l0.length c0,.slice A1 l1.length c1] w fun e w'=>e = .returned (.bool r) ∧ Below w.heap.size w w':=by
 have HR0:=Aside0.mk hr0
 have HC0:=Aside0.mk hc0
 clear hr0 hc0
 have HR1:=Aside0.mk hr1
 have HC1:=Aside0.mk hc1
 clear hr1 hc1
 have HB:=Aside0.mk (Below.refl w.heap.size w)
 have H:((spec_l1Vars.f k l1).bind fun t258=>(spec_l3Weighs.l0 k l0 l1 t258 (t258.length:Int) 0)) = some r:=h
 clear h
 replace H:=Option.bind_eq_some_iff.mp H
 obtain ⟨t258,A30,H⟩:=H
 replace H:(spec_l3Weighs.l0 k l0 l1 t258 (t258.length:Int) 0) = some r:=H
 have A3:=Aside0.mk A30
 clear A30
 have H':=Aside0.mk H
 clear H
 go_enter Try.func128,Try.ntmps128
 go_wp2_with (first|((with_reducible refine gate_callee (f:=105) rfl ?_);refine goesL_ (some 8) rfl rfl Try.func105 (by kernel_rfl) rfl #[.slice A1 l1.length c1] rfl Ya ?_;(with_reducible refine (spec_l1Vars.calls k _ _ l1 t258 _ ?side1 ?side2 A3.out).mono ?_);(case side1=>repeat (first|exact HR1.out|(with_reducible refine Kd.C_alloc ?_ _)|(with_reducible refine Kd.C_drewN ?_ _)|(with_reducible refine Kd.C_drew ?_)));(case side2=>exact HC1.out);rintro e w4 ⟨v259,rfl,ho0,hb⟩;refine ⟨_,rfl,?_⟩;have HO260:=Aside0.mk (Kd.R_lower ho0 (below_size bH));replace HB:=Aside0.mk (below_step bH hb);(try clear hb);(try clear hb2);(try clear hk);(try clear hi);(try clear ho0);obtain ⟨Ao5,co5,eo5⟩:=Kd.R_slice HO260.out;subst eo5))
 go_loopg [10] k (fun kq v10 w'=>∃ (x10_1:Int),v10 = .int .i64 x10_1 ∧ Aside0 (spec_l3Weighs.l0 kq l0 l1 t258 (t258.length:Int) x10_1 = some r) ∧ Aside0 (kq ≤ k) ∧ Aside0 (Kd.R (Kd.int .i64) 3 w' w.heap.size (fun _=>True) (.slice Ao5 t258.length co5) t258) ∧ Aside0 (Below w.heap.size w w'))
 case atStart=>exact ⟨(0),Yb,H',⟨Nat.le_refl _⟩,⟨rR HO260⟩,⟨bH⟩⟩
 case round =>
  clear H'
  try clear c1
  try clear p2
  obtain ⟨x10_1,rfl,HA,HK1,HO_8,HB⟩:=hrel
  cases gk with
  | zero=>exact absurd HA.out (by simp [spec_l3Weighs.l0])
  | succ k1 =>
   have H:=HA.out
   clear HA
   simp only [spec_l3Weighs.l0] at H
   by_cases c6:x10_1 < (t258.length:Int)
   ·rw [if_pos c6] at H
    have c6b0:=decide_eq_true c6
    clear c6
    by_cases c7:0 ≤ x10_1
    ·rw [if_pos c7] at H
     have c7b0:=decide_eq_true c7
     clear c7
     by_cases c8:x10_1 < (t258.length:Int)
     ·rw [if_pos c8] at H
      have c8b0:=decide_eq_true c8
      clear c8
      replace H:=Option.bind_eq_some_iff.mp H
      obtain ⟨t262,A90,H⟩:=H
      replace H:((spec_l1Count.f k1 l1 (wrap64 ((-1) - (rd t258 x10_1)))).bind fun t263=>(if t262 < t263 then (some false) else (spec_l3Weighs.l0 k1 l0 l1 t258 (t258.length:Int) (wrap64 (x10_1 + 1))))) = some r:=H
      have A9:=Aside0.mk A90
      clear A90
      replace H:=Option.bind_eq_some_iff.mp H
      obtain ⟨t263,A100,H⟩:=H
      replace H:(if t262 < t263 then (some false) else (spec_l3Weighs.l0 k1 l0 l1 t258 (t258.length:Int) (wrap64 (x10_1 + 1)))) = some r:=H
      have A10:=Aside0.mk A100
      clear A100
      by_cases c11:t262 < t263
      ·rw [if_pos c11] at H
       have c11b0:=decide_eq_true c11
       clear c11
       obtain rfl:=Option.some.inj H
       have p261:0 ≤ (x10_1:Int):=oD
       have q261:x10_1 < (t258.length:Int):=oD
       obtain ⟨ad261,e261,hx261_0⟩:=Kd.at_int (Kd.R_reads' HO_8.out).2.2 x10_1 p261 q261
       cases e261
       replace p261:=eq_true p261
       replace q261:=eq_true q261
       go_wp2_with (first|((with_reducible refine gate_callee (f:=155) rfl ?_);refine goesL_ (some 17) rfl rfl Try.func155 (by kernel_rfl) rfl #[.slice A0 l0.length c0,.int .i64 (wrap64 ((-1) - (rd t258 x10_1)))] rfl Ya ?_;(with_reducible refine (spec_l1Count.calls k1 _ _ l0 (wrap64 ((-1) - (rd t258 x10_1))) t262 _ ?side1 ?side2 A9.out).mono ?_);(case side1=>exact sC HR0);(case side2=>exact HC0.out);rintro e w' ⟨rfl,⟨nd,rfl⟩⟩;refine ⟨_,rfl,?_⟩)|((with_reducible refine gate_callee (f:=155) rfl ?_);refine goesL_ (some 21) rfl rfl Try.func155 (by kernel_rfl) rfl #[.slice A1 l1.length c1,.int .i64 (wrap64 ((-1) - (rd t258 x10_1)))] rfl Ya ?_;(with_reducible refine (spec_l1Count.calls k1 _ _ l1 (wrap64 ((-1) - (rd t258 x10_1))) t263 _ ?side1 ?side2 A10.out).mono ?_);(case side1=>repeat (first|exact (Kd.C_below HR1.out bH)|(with_reducible refine Kd.C_alloc ?_ _)|(with_reducible refine Kd.C_drewN ?_ _)|(with_reducible refine Kd.C_drew ?_)));(case side2=>exact HC1.out);rintro e w' ⟨rfl,⟨nd,rfl⟩⟩;refine ⟨_,rfl,?_⟩))
       go_ret
       exact ⟨by first|rfl|(simp [errW_none,errW_some] <;> rfl)|(simp [*,errW_none,errW_some] <;> rfl),bH⟩
      ·rw [if_neg c11] at H
       have c11b0:decide (t262 < t263) = false:=decide_eq_false c11
       clear c11
       have H':=Aside0.mk H
       clear H
       have p261:0 ≤ (x10_1:Int):=oD
       have q261:x10_1 < (t258.length:Int):=oD
       obtain ⟨ad261,e261,hx261_0⟩:=Kd.at_int (Kd.R_reads' HO_8.out).2.2 x10_1 p261 q261
       cases e261
       replace p261:=eq_true p261
       replace q261:=eq_true q261
       go_wp2_with (first|((with_reducible refine gate_callee (f:=155) rfl ?_);refine goesL_ (some 17) rfl rfl Try.func155 (by kernel_rfl) rfl #[.slice A0 l0.length c0,.int .i64 (wrap64 ((-1) - (rd t258 x10_1)))] rfl Ya ?_;(with_reducible refine (spec_l1Count.calls k1 _ _ l0 (wrap64 ((-1) - (rd t258 x10_1))) t262 _ ?side1 ?side2 A9.out).mono ?_);(case side1=>exact sC HR0);(case side2=>exact HC0.out);rintro e w' ⟨rfl,⟨nd,rfl⟩⟩;refine ⟨_,rfl,?_⟩)|((with_reducible refine gate_callee (f:=155) rfl ?_);refine goesL_ (some 21) rfl rfl Try.func155 (by kernel_rfl) rfl #[.slice A1 l1.length c1,.int .i64 (wrap64 ((-1) - (rd t258 x10_1)))] rfl Ya ?_;(with_reducible refine (spec_l1Count.calls k1 _ _ l1 (wrap64 ((-1) - (rd t258 x10_1))) t263 _ ?side1 ?side2 A10.out).mono ?_);(case side1=>repeat (first|exact (Kd.C_below HR1.out bH)|(with_reducible refine Kd.C_alloc ?_ _)|(with_reducible refine Kd.C_drewN ?_ _)|(with_reducible refine Kd.C_drew ?_)));(case side2=>exact HC1.out);rintro e w' ⟨rfl,⟨nd,rfl⟩⟩;refine ⟨_,rfl,?_⟩))
       go_roundg k1
       case measure=>have:=HK1.out;omega
       case rel=>exact ⟨(wrap64 (x10_1 + 1)),Yb,H',⟨by have:=HK1.out;omega⟩,⟨rR HO_8⟩,⟨bH⟩⟩
     ·rw [if_neg c8] at H
      exact absurd H (by simp)
    ·rw [if_neg c7] at H
     exact absurd H (by simp)
   ·rw [if_neg c6] at H
    have c6b0:decide (x10_1 < (t258.length:Int)) = false:=decide_eq_false c6
    clear c6
    obtain rfl:=Option.some.inj H
    go_wp2
    go_ret
    exact ⟨by first|rfl|(simp [errW_none,errW_some] <;> rfl)|(simp [*,errW_none,errW_some] <;> rfl),bH⟩

/-! ### spec_l3Greater: function 107 -/
mutual
def spec_l3Greater.j0:Nat → List Int → List Int → Bool → Option (Bool)
 | 0,_,_,_=>none
 | k + 1,x0,x1,x16=>if x16 = true then (some false) else (if (x0.length:Int) > (x1.length:Int) then (some true) else (spec_l3Greater.l0 k x0 x1 (x0.length:Int) 0))
def spec_l3Greater.l0:Nat → List Int → List Int → Int → Int → Option (Bool)
 | 0,_,_,_,_=>none
 | k + 1,x0,x1,x23,x24=>if x24 < x23 then (if 0 ≤ x24 then (if x24 < (x0.length:Int) then (if x24 < (x1.length:Int) then (if (rd x0 x24) = (rd x1 x24) then (spec_l3Greater.l0 k x0 x1 x23 (wrap64 (x24 + 1))) else (if (rd x0 x24) ≥ 0 then (if (rd x1 x24) ≥ 0 then (some (decide ((rd x0 x24) > (rd x1 x24)))) else (some false)) else (some false))) else (none)) else (none)) else (none)) else (some false)
end
def spec_l3Greater.f (k:Nat) (l0:List Int) (l1:List Int):Option (Bool):=(spec_l3Weighs.f k l0 l1).bind fun t264=>(if t264 = true then (spec_l3Greater.j0 k l0 l1 (decide ((l0.length:Int) < (l1.length:Int)))) else (spec_l3Greater.j0 k l0 l1 true))
theorem spec_l3Greater.mono_l:∀ k,(∀ y0 y1 y2,LeO (spec_l3Greater.j0 k y0 y1 y2) (spec_l3Greater.j0 (k + 1) y0 y1 y2)) ∧ (∀ y0 y1 y2 y3,LeO (spec_l3Greater.l0 k y0 y1 y2 y3) (spec_l3Greater.l0 (k + 1) y0 y1 y2 y3))
 | 0=>⟨fun _ _ _ r h=>by simp [spec_l3Greater.j0] at h,fun _ _ _ _ r h=>by simp [spec_l3Greater.l0] at h⟩
 | k + 1=>by
  obtain ⟨ih0,ih1⟩:=spec_l3Greater.mono_l k
  refine ⟨?_,?_⟩
  ·intro y0 y1 y2
   unfold spec_l3Greater.j0
   have m0:=@spec_l3Weighs.mono
   exact mO
  ·intro y0 y1 y2 y3
   unfold spec_l3Greater.l0
   have m0:=@spec_l3Weighs.mono
   exact mO
theorem spec_l3Greater.mono:∀ a0 a1 k,LeO (spec_l3Greater.f k a0 a1) (spec_l3Greater.f (k + 1) a0 a1):=by
 intro a0 a1 k
 obtain ⟨ih0,ih1⟩:=spec_l3Greater.mono_l k
 unfold spec_l3Greater.f
 have m0:=@spec_l3Weighs.mono
 exact mO
set_option maxHeartbeats 8000000 in
set_option maxRecDepth 100000 in
theorem spec_l3Greater.calls (k:Nat) (A0:Option Addr) (c0:Nat) (l0:List Int) (A1:Option Addr) (c1:Nat) (l1:List Int) (r:Bool) (w:World) (hr0:Kd.C (Kd.int .i64) w A0 l0.length l0) (hc0:l0.length ≤ c0) (hr1:Kd.C (Kd.int .i64) w A1 l1.length l1) (hc1:l1.length ≤ c1) (h:spec_l3Greater.f k l0 l1 = some r) :
  Calls Try.prog 107 #[.slice A0 l0.length c0,.slice A1 l1.length c1] w fun e w'=>e = .returned (.bool r) ∧ Below w.heap.size w w':=by
 have HR0:=Aside0.mk hr0
 have HC0:=Aside0.mk hc0
 clear hr0 hc0
 have HR1:=Aside0.mk hr1
 have HC1:=Aside0.mk hc1
 clear hr1 hc1
 have HB:=Aside0.mk (Below.refl w.heap.size w)
 have H:((spec_l3Weighs.f k l0 l1).bind fun t264=>(if t264 = true then (spec_l3Greater.j0 k l0 l1 (decide ((l0.length:Int) < (l1.length:Int)))) else (spec_l3Greater.j0 k l0 l1 true))) = some r:=h
 clear h
 have HC3:=Aside0.mk H
 clear H
 go_enter Try.func107,Try.ntmps107
 go_upto_region 1 with (fail)
 repeat (go_quiet (fail);go_upto_region 1 with (fail))
 go_cut [16] (fun v16 wc=>∃ (kq:Nat) (x16_2:Bool),v16 = .bool x16_2 ∧ Aside0 (spec_l3Greater.j0 kq l0 l1 x16_2 = some r) ∧ Aside0 (kq ≤ k) ∧ Aside0 (Below w.heap.size w wc))
 case first =>
  have H:=HC3.out
  clear HC3
  replace H:=Option.bind_eq_some_iff.mp H
  obtain ⟨t264,A40,H⟩:=H
  replace H:(if t264 = true then (spec_l3Greater.j0 k l0 l1 (decide ((l0.length:Int) < (l1.length:Int)))) else (spec_l3Greater.j0 k l0 l1 true)) = some r:=H
  have A4:=Aside0.mk A40
  clear A40
  by_cases c5:t264 = true
  ·subst c5
   have H1:(spec_l3Greater.j0 k l0 l1 (decide ((l0.length:Int) < (l1.length:Int)))) = some r:=by rw [if_pos rfl] at H;exact H
   clear H
   have H:=H1
   clear H1
   have H':=Aside0.mk H
   clear H
   go_wp2_with (first|(go_at_call 128;(with_reducible refine (spec_l3Weighs.calls k _ _ l0 _ _ l1 true _ ?side1 ?side2 ?side3 ?side4 A4.out).mono ?_);(case side1=>exact sC HR0);(case side2=>exact HC0.out);(case side3=>exact sC HR1);(case side4=>exact HC1.out);rintro e w6 ⟨rfl,hb⟩;replace HB:=Aside0.mk (below_step bH hb);(try clear hb);(try clear hb2);(try clear hk);(try clear hi)))
   repeat (go_quiet (first|(go_at_call 128;(with_reducible refine (spec_l3Weighs.calls k _ _ l0 _ _ l1 true _ ?side1 ?side2 ?side3 ?side4 A4.out).mono ?_);(case side1=>exact sC HR0);(case side2=>exact HC0.out);(case side3=>exact sC HR1);(case side4=>exact HC1.out);rintro e w6 ⟨rfl,hb⟩;replace HB:=Aside0.mk (below_step bH hb);(try clear hb);(try clear hb2);(try clear hk);(try clear hi)));try go_wp2_with (first|(go_at_call 128;(with_reducible refine (spec_l3Weighs.calls k _ _ l0 _ _ l1 true _ ?side1 ?side2 ?side3 ?side4 A4.out).mono ?_);(case side1=>exact sC HR0);(case side2=>exact HC0.out);(case side3=>exact sC HR1);(case side4=>exact HC1.out);rintro e w6 ⟨rfl,hb⟩;replace HB:=Aside0.mk (below_step bH hb);(try clear hb);(try clear hb2);(try clear hk);(try clear hi))))
   go_meet
   case rel=>exact ⟨_,(decide ((l0.length:Int) < (l1.length:Int))),Yb,H',⟨by first|omega|exact Nat.le_refl _⟩,⟨bH⟩⟩
  ·replace c5:=Bool.eq_false_iff.mpr c5
   subst c5
   have H1:(spec_l3Greater.j0 k l0 l1 true) = some r:=by rw [if_neg (show ¬ (false = true) by decide)] at H;exact H
   clear H
   have H:=H1
   clear H1
   have H':=Aside0.mk H
   clear H
   go_wp2_with (first|(go_at_call 128;(with_reducible refine (spec_l3Weighs.calls k _ _ l0 _ _ l1 false _ ?side1 ?side2 ?side3 ?side4 A4.out).mono ?_);(case side1=>exact sC HR0);(case side2=>exact HC0.out);(case side3=>exact sC HR1);(case side4=>exact HC1.out);rintro e w7 ⟨rfl,hb⟩;replace HB:=Aside0.mk (below_step bH hb);(try clear hb);(try clear hb2);(try clear hk);(try clear hi)))
   repeat (go_quiet (first|(go_at_call 128;(with_reducible refine (spec_l3Weighs.calls k _ _ l0 _ _ l1 false _ ?side1 ?side2 ?side3 ?side4 A4.out).mono ?_);(case side1=>exact sC HR0);(case side2=>exact HC0.out);(case side3=>exact sC HR1);(case side4=>exact HC1.out);rintro e w7 ⟨rfl,hb⟩;replace HB:=Aside0.mk (below_step bH hb);(try clear hb);(try clear hb2);(try clear hk);(try clear hi)));try go_wp2_with (first|(go_at_call 128;(with_reducible refine (spec_l3Weighs.calls k _ _ l0 _ _ l1 false _ ?side1 ?side2 ?side3 ?side4 A4.out).mono ?_);(case side1=>exact sC HR0);(case side2=>exact HC0.out);(case side3=>exact sC HR1);(case side4=>exact HC1.out);rintro e w7 ⟨rfl,hb⟩;replace HB:=Aside0.mk (below_step bH hb);(try clear hb);(try clear hb2);(try clear hk);(try clear hi))))
   go_meet
   case rel=>exact ⟨_,(true),Yb,H',⟨by first|omega|exact Nat.le_refl _⟩,⟨bH⟩⟩
 case rest =>
  clear HC3
  try clear c1
  try clear p2
  try clear c5
  obtain ⟨kq,x16_2,rfl,HA,HJ2,HB⟩:=hcut
  cases kq with
  | zero=>exact absurd HA.out (by simp [spec_l3Greater.j0])
  | succ kj2 =>
   have H:=HA.out
   clear HA
   simp only [spec_l3Greater.j0] at H
   by_cases c8:x16_2 = true
   ·subst c8
    have H1:(some false) = some r:=by rw [if_pos rfl] at H;exact H
    clear H
    have H:=H1
    clear H1
    obtain rfl:=Option.some.inj H
    go_wp2
    repeat (go_quiet (fail);try go_wp2)
    go_ret
    exact ⟨by first|rfl|(simp [errW_none,errW_some] <;> rfl)|(simp [*,errW_none,errW_some] <;> rfl),bH⟩
   ·replace c8:=Bool.eq_false_iff.mpr c8
    subst c8
    have H1:(if (l0.length:Int) > (l1.length:Int) then (some true) else (spec_l3Greater.l0 kj2 l0 l1 (l0.length:Int) 0)) = some r:=by rw [if_neg (show ¬ (false = true) by decide)] at H;exact H
    clear H
    have H:=H1
    clear H1
    by_cases c9:(l0.length:Int) > (l1.length:Int)
    ·rw [if_pos c9] at H
     have c9b0:decide ((l1.length:Int) < (l0.length:Int)) = true:=decide_eq_true c9
     have c9b1:decide (l1.length < l0.length) = true:=decide_eq_true (Int.ofNat_lt.mp c9)
     clear c9
     obtain rfl:=Option.some.inj H
     go_wp2
     repeat (go_quiet (fail);try go_wp2)
     go_ret
     exact ⟨by first|rfl|(simp [errW_none,errW_some] <;> rfl)|(simp [*,errW_none,errW_some] <;> rfl),bH⟩
    ·rw [if_neg c9] at H
     have c9b0:decide ((l1.length:Int) < (l0.length:Int)) = false:=decide_eq_false c9
     have c9b1:decide (l1.length < l0.length) = false:=decide_eq_false (fun h=>c9 (Int.ofNat_lt.mpr h))
     clear c9
     have H':=Aside0.mk H
     clear H
     go_wp2
     repeat (go_quiet (fail);try go_wp2)
     go_loopg [24] kj2 (fun kq v24 w'=>∃ (x24_2:Int),v24 = .int .i64 x24_2 ∧ Aside0 (spec_l3Greater.l0 kq l0 l1 (l0.length:Int) x24_2 = some r) ∧ Aside0 (kq ≤ kj2) ∧ Aside0 (Below w.heap.size w w'))
     case atStart=>exact ⟨(0),Yb,H',⟨Nat.le_refl _⟩,⟨bH⟩⟩
     case round =>
      clear H'
      try clear c1
      try clear p2
      try clear c5
      try clear c8
      try clear c9
      try clear c9b0
      try clear c9b1
      try clear p2
      obtain ⟨x24_2,rfl,HA,HK2,HB⟩:=hrel
      cases gk with
      | zero=>exact absurd HA.out (by simp [spec_l3Greater.l0])
      | succ k2 =>
       have H:=HA.out
       clear HA
       simp only [spec_l3Greater.l0] at H
       by_cases c10:x24_2 < (l0.length:Int)
       ·rw [if_pos c10] at H
        have c10b0:=decide_eq_true c10
        clear c10
        by_cases c11:0 ≤ x24_2
        ·rw [if_pos c11] at H
         have c11b0:=decide_eq_true c11
         clear c11
         by_cases c12:x24_2 < (l0.length:Int)
         ·rw [if_pos c12] at H
          have c12b0:=decide_eq_true c12
          clear c12
          by_cases c13:x24_2 < (l1.length:Int)
          ·rw [if_pos c13] at H
           have c13b0:=decide_eq_true c13
           clear c13
           by_cases c14:(rd l0 x24_2) = (rd l1 x24_2)
           ·rw [if_pos c14] at H
            have c14b0:((rd l0 x24_2) == (rd l1 x24_2)) = true:=beq_iff_eq.mpr c14
            have c14b1:((rd l0 x24_2) != (rd l1 x24_2)) = false:=bne_eq_false_iff_eq.mpr c14
            clear c14
            have H':=Aside0.mk H
            clear H
            have p265:0 ≤ (x24_2:Int):=oD
            have q265:x24_2 < (l0.length:Int):=oD
            obtain ⟨ad265,e265,hx265_0⟩:=Kd.at_int HR0.out x24_2 p265 q265
            cases e265
            replace hx265_0:=(HB.out.cell (World.block_lt_of_cell? w _ hx265_0)).trans hx265_0
            replace p265:=eq_true p265
            replace q265:=eq_true q265
            have p266:0 ≤ (x24_2:Int):=oD
            have q266:x24_2 < (l1.length:Int):=oD
            obtain ⟨ad266,e266,hx266_0⟩:=Kd.at_int HR1.out x24_2 p266 q266
            cases e266
            replace hx266_0:=(HB.out.cell (World.block_lt_of_cell? w _ hx266_0)).trans hx266_0
            replace p266:=eq_true p266
            replace q266:=eq_true q266
            go_wp2
            repeat (go_quiet (fail);try go_wp2)
            go_roundg k2
            case measure=>have:=HJ2.out;have:=HK2.out;omega
            case rel=>exact ⟨(wrap64 (x24_2 + 1)),Yb,H',⟨by have:=HJ2.out;have:=HK2.out;omega⟩,⟨bH⟩⟩
           ·rw [if_neg c14] at H
            have c14b0:((rd l0 x24_2) == (rd l1 x24_2)) = false:=beq_eq_false_iff_ne.mpr c14
            have c14b1:((rd l0 x24_2) != (rd l1 x24_2)) = true:=bne_iff_ne.mpr c14
            by_cases c15:(rd l0 x24_2) ≥ 0
            ·rw [if_pos c15] at H
             have c15b0:decide (0 ≤ (rd l0 x24_2)) = true:=decide_eq_true c15
             clear c15
             by_cases c16:(rd l1 x24_2) ≥ 0
             ·rw [if_pos c16] at H
              have c16b0:decide (0 ≤ (rd l1 x24_2)) = true:=decide_eq_true c16
              clear c16
              obtain rfl:=Option.some.inj H
              have p265:0 ≤ (x24_2:Int):=oD
              have q265:x24_2 < (l0.length:Int):=oD
              obtain ⟨ad265,e265,hx265_0⟩:=Kd.at_int HR0.out x24_2 p265 q265
              cases e265
              replace hx265_0:=(HB.out.cell (World.block_lt_of_cell? w _ hx265_0)).trans hx265_0
              replace p265:=eq_true p265
              replace q265:=eq_true q265
              have p266:0 ≤ (x24_2:Int):=oD
              have q266:x24_2 < (l1.length:Int):=oD
              obtain ⟨ad266,e266,hx266_0⟩:=Kd.at_int HR1.out x24_2 p266 q266
              cases e266
              replace hx266_0:=(HB.out.cell (World.block_lt_of_cell? w _ hx266_0)).trans hx266_0
              replace p266:=eq_true p266
              replace q266:=eq_true q266
              have p267:0 ≤ (x24_2:Int):=oD
              have q267:x24_2 < (l0.length:Int):=oD
              obtain ⟨ad267,e267,hx267_0⟩:=Kd.at_int HR0.out x24_2 p267 q267
              obtain rfl:ad265 = ad267:=(by injection e267)
              replace hx267_0:=(HB.out.cell (World.block_lt_of_cell? w _ hx267_0)).trans hx267_0
              replace p267:=eq_true p267
              replace q267:=eq_true q267
              have p268:0 ≤ (x24_2:Int):=oD
              have q268:x24_2 < (l1.length:Int):=oD
              obtain ⟨ad268,e268,hx268_0⟩:=Kd.at_int HR1.out x24_2 p268 q268
              obtain rfl:ad266 = ad268:=(by injection e268)
              replace hx268_0:=(HB.out.cell (World.block_lt_of_cell? w _ hx268_0)).trans hx268_0
              replace p268:=eq_true p268
              replace q268:=eq_true q268
              have p269:0 ≤ (x24_2:Int):=oD
              have q269:x24_2 < (l0.length:Int):=oD
              obtain ⟨ad269,e269,hx269_0⟩:=Kd.at_int HR0.out x24_2 p269 q269
              obtain rfl:ad265 = ad269:=(by injection e269)
              replace hx269_0:=(HB.out.cell (World.block_lt_of_cell? w _ hx269_0)).trans hx269_0
              replace p269:=eq_true p269
              replace q269:=eq_true q269
              have p270:0 ≤ (x24_2:Int):=oD
              have q270:x24_2 < (l1.length:Int):=oD
              obtain ⟨ad270,e270,hx270_0⟩:=Kd.at_int HR1.out x24_2 p270 q270
              obtain rfl:ad266 = ad270:=(by injection e270)
              replace hx270_0:=(HB.out.cell (World.block_lt_of_cell? w _ hx270_0)).trans hx270_0
              replace p270:=eq_true p270
              replace q270:=eq_true q270
              go_wp2
              repeat (go_quiet (fail);try go_wp2)
              go_ret
              exact ⟨by first|rfl|(simp [errW_none,errW_some] <;> rfl)|(simp [*,errW_none,errW_some] <;> rfl),bH⟩
             ·rw [if_neg c16] at H
              have c16b0:decide (0 ≤ (rd l1 x24_2)) = false:=decide_eq_false c16
              clear c16
              obtain rfl:=Option.some.inj H
              have p265:0 ≤ (x24_2:Int):=oD
              have q265:x24_2 < (l0.length:Int):=oD
              obtain ⟨ad265,e265,hx265_0⟩:=Kd.at_int HR0.out x24_2 p265 q265
              cases e265
              replace hx265_0:=(HB.out.cell (World.block_lt_of_cell? w _ hx265_0)).trans hx265_0
              replace p265:=eq_true p265
              replace q265:=eq_true q265
              have p266:0 ≤ (x24_2:Int):=oD
              have q266:x24_2 < (l1.length:Int):=oD
              obtain ⟨ad266,e266,hx266_0⟩:=Kd.at_int HR1.out x24_2 p266 q266
              cases e266
              replace hx266_0:=(HB.out.cell (World.block_lt_of_cell? w _ hx266_0)).trans hx266_0
              replace p266:=eq_true p266
              replace q266:=eq_true q266
              have p267:0 ≤ (x24_2:Int):=oD
              have q267:x24_2 < (l0.length:Int):=oD
              obtain ⟨ad267,e267,hx267_0⟩:=Kd.at_int HR0.out x24_2 p267 q267
              obtain rfl:ad265 = ad267:=(by injection e267)
              replace hx267_0:=(HB.out.cell (World.block_lt_of_cell? w _ hx267_0)).trans hx267_0
              replace p267:=eq_true p267
              replace q267:=eq_true q267
              have p268:0 ≤ (x24_2:Int):=oD
              have q268:x24_2 < (l1.length:Int):=oD
              obtain ⟨ad268,e268,hx268_0⟩:=Kd.at_int HR1.out x24_2 p268 q268
              obtain rfl:ad266 = ad268:=(by injection e268)
              replace hx268_0:=(HB.out.cell (World.block_lt_of_cell? w _ hx268_0)).trans hx268_0
              replace p268:=eq_true p268
              replace q268:=eq_true q268
              go_wp2
              repeat (go_quiet (fail);try go_wp2)
              go_ret
              exact ⟨by first|rfl|(simp [errW_none,errW_some] <;> rfl)|(simp [*,errW_none,errW_some] <;> rfl),bH⟩
            ·rw [if_neg c15] at H
             have c15b0:decide (0 ≤ (rd l0 x24_2)) = false:=decide_eq_false c15
             clear c15
             obtain rfl:=Option.some.inj H
             have p265:0 ≤ (x24_2:Int):=oD
             have q265:x24_2 < (l0.length:Int):=oD
             obtain ⟨ad265,e265,hx265_0⟩:=Kd.at_int HR0.out x24_2 p265 q265
             cases e265
             replace hx265_0:=(HB.out.cell (World.block_lt_of_cell? w _ hx265_0)).trans hx265_0
             replace p265:=eq_true p265
             replace q265:=eq_true q265
             have p266:0 ≤ (x24_2:Int):=oD
             have q266:x24_2 < (l1.length:Int):=oD
             obtain ⟨ad266,e266,hx266_0⟩:=Kd.at_int HR1.out x24_2 p266 q266
             cases e266
             replace hx266_0:=(HB.out.cell (World.block_lt_of_cell? w _ hx266_0)).trans hx266_0
             replace p266:=eq_true p266
             replace q266:=eq_true q266
             have p267:0 ≤ (x24_2:Int):=oD
             have q267:x24_2 < (l0.length:Int):=oD
             obtain ⟨ad267,e267,hx267_0⟩:=Kd.at_int HR0.out x24_2 p267 q267
             obtain rfl:ad265 = ad267:=(by injection e267)
             replace hx267_0:=(HB.out.cell (World.block_lt_of_cell? w _ hx267_0)).trans hx267_0
             replace p267:=eq_true p267
             replace q267:=eq_true q267
             go_wp2
             repeat (go_quiet (fail);try go_wp2)
             go_ret
             exact ⟨by first|rfl|(simp [errW_none,errW_some] <;> rfl)|(simp [*,errW_none,errW_some] <;> rfl),bH⟩
          ·rw [if_neg c13] at H
           exact absurd H (by simp)
         ·rw [if_neg c12] at H
          exact absurd H (by simp)
        ·rw [if_neg c11] at H
         exact absurd H (by simp)
       ·rw [if_neg c10] at H
        have c10b0:decide (x24_2 < (l0.length:Int)) = false:=decide_eq_false c10
        clear c10
        obtain rfl:=Option.some.inj H
        go_wp2
        repeat (go_quiet (fail);try go_wp2)
        go_ret
        exact ⟨by first|rfl|(simp [errW_none,errW_some] <;> rfl)|(simp [*,errW_none,errW_some] <;> rfl),bH⟩

/-! ### spec_l1Replace: function 73 -/
def spec_l1Replace.f (k:Nat) (l0_0:List Int) (l1:List Int) (a2:Int) (l3:List Int):Option (List Int):=if 0 ≤ a2 then (if a2 ≤ (l1.length:Int) then ((spec_l1Own.f (l1.take (a2:Int).toNat)).bind fun t273=>(if t273.length + l3.length < 17592186044416 then ((some (t273 ++ l3:List Int)).bind fun y276=>((spec_l1End.f k l0_0 l1 a2).bind fun t279=>(if 0 ≤ t279 then (if t279 ≤ (l1.length:Int) then (if y276.length + (l1.drop (t279:Int).toNat).length < 17592186044416 then (some (y276 ++ (l1.drop (t279:Int).toNat))) else (none)) else (none)) else (none)))) else (none))) else (none)) else (none)
theorem spec_l1Replace.mono:∀ a0 a1 a2 a3 k,LeO (spec_l1Replace.f k a0 a1 a2 a3) (spec_l1Replace.f (k + 1) a0 a1 a2 a3):=by
 intro a0 a1 a2 a3 k
 unfold spec_l1Replace.f
 have m0:=@spec_l1End.mono
 exact mO
set_option maxHeartbeats 8000000 in
set_option maxRecDepth 100000 in
theorem spec_l1Replace.calls (k:Nat) (A0_0:Option Addr) (c0_0:Nat) (l0_0:List Int) (A1:Option Addr) (c1:Nat) (l1:List Int) (a2:Int) (A3:Option Addr) (c3:Nat) (l3:List Int) (r:List Int) (w:World) (hr0_0:Kd.C (Kd.int .i64) w A0_0 l0_0.length l0_0) (hc0_0:l0_0.length ≤ c0_0) (hr1:Kd.C (Kd.int .i64) w A1 l1.length l1) (hc1:l1.length ≤ c1) (hr3:Kd.C (Kd.int .i64) w A3 l3.length l3) (hc3:l3.length ≤ c3) (h:spec_l1Replace.f k l0_0 l1 a2 l3 = some r) :
  Calls Try.prog 73 #[.agg #[.slice A0_0 l0_0.length c0_0],.slice A1 l1.length c1,.int .i64 a2,.slice A3 l3.length c3] w fun e w'=>∃ v0_:Value,e = .returned (v0_) ∧ Kd.R (Kd.int .i64) 3 w' w.heap.size (fun _=>True) v0_ r ∧ Below w.heap.size w w':=by
 have hu30:=Try.underlying30
 have HR0_0:=Aside0.mk hr0_0
 have HC0_0:=Aside0.mk hc0_0
 clear hr0_0 hc0_0
 have HR1:=Aside0.mk hr1
 have HC1:=Aside0.mk hc1
 clear hr1 hc1
 have HR3:=Aside0.mk hr3
 have HC3:=Aside0.mk hc3
 clear hr3 hc3
 have HB:=Aside0.mk (Below.refl w.heap.size w)
 have H:(if 0 ≤ a2 then (if a2 ≤ (l1.length:Int) then ((spec_l1Own.f (l1.take (a2:Int).toNat)).bind fun t273=>(if t273.length + l3.length < 17592186044416 then ((some (t273 ++ l3:List Int)).bind fun y276=>((spec_l1End.f k l0_0 l1 a2).bind fun t279=>(if 0 ≤ t279 then (if t279 ≤ (l1.length:Int) then (if y276.length + (l1.drop (t279:Int).toNat).length < 17592186044416 then (some (y276 ++ (l1.drop (t279:Int).toNat))) else (none)) else (none)) else (none)))) else (none))) else (none)) else (none)) = some r:=h
 clear h
 by_cases c5:0 ≤ a2
 ·rw [if_pos c5] at H
  have c5b0:=eq_true c5
  have c5b1:=decide_eq_true c5
  clear c5
  by_cases c6:a2 ≤ (l1.length:Int)
  ·rw [if_pos c6] at H
   have c6b0:=eq_true c6
   have c6b1:=decide_eq_true c6
   clear c6
   replace H:=Option.bind_eq_some_iff.mp H
   obtain ⟨t273,A70,H⟩:=H
   replace H:(if t273.length + l3.length < 17592186044416 then ((some (t273 ++ l3:List Int)).bind fun y276=>((spec_l1End.f k l0_0 l1 a2).bind fun t279=>(if 0 ≤ t279 then (if t279 ≤ (l1.length:Int) then (if y276.length + (l1.drop (t279:Int).toNat).length < 17592186044416 then (some (y276 ++ (l1.drop (t279:Int).toNat))) else (none)) else (none)) else (none)))) else (none)) = some r:=H
   have A7:=Aside0.mk A70
   clear A70
   by_cases c8:t273.length + l3.length < 17592186044416
   ·rw [if_pos c8] at H
    have LMc8:=Aside0.mk c8
    clear c8
    obtain ⟨y276,hy276⟩:∃ y_:List Int,y_ = (t273 ++ l3):=⟨_,rfl⟩
    replace H:((spec_l1End.f k l0_0 l1 a2).bind fun t279=>(if 0 ≤ t279 then (if t279 ≤ (l1.length:Int) then (if y276.length + (l1.drop (t279:Int).toNat).length < 17592186044416 then (some (y276 ++ (l1.drop (t279:Int).toNat))) else (none)) else (none)) else (none))) = some r:=by first|(rw [hy276];with_reducible exact H)|(have H2_:=(Option.bind_some _ _).symm.trans H;rw [hy276];with_reducible exact H2_)|(have H2_:=(Option.bind_some _ _).symm.trans H;with_reducible exact H2_)|with_reducible exact H|(rw [hy276];exact H)|exact H
    have Ny276:=Aside0.mk hy276
    clear hy276
    replace H:=Option.bind_eq_some_iff.mp H
    obtain ⟨t279,A90,H⟩:=H
    replace H:(if 0 ≤ t279 then (if t279 ≤ (l1.length:Int) then (if y276.length + (l1.drop (t279:Int).toNat).length < 17592186044416 then (some (y276 ++ (l1.drop (t279:Int).toNat))) else (none)) else (none)) else (none)) = some r:=H
    have A9:=Aside0.mk A90
    clear A90
    by_cases c10:0 ≤ t279
    ·rw [if_pos c10] at H
     have c10b0:=eq_true c10
     have c10b1:=decide_eq_true c10
     clear c10
     by_cases c11:t279 ≤ (l1.length:Int)
     ·rw [if_pos c11] at H
      have c11b0:=eq_true c11
      have c11b1:=decide_eq_true c11
      clear c11
      by_cases c12:y276.length + (l1.drop (t279:Int).toNat).length < 17592186044416
      ·rw [if_pos c12] at H
       have LMc12:=Aside0.mk c12
       clear c12
       obtain ⟨y281,hy281⟩:∃ y_:List Int,y_ = (y276 ++ (l1.drop (t279:Int).toNat)):=⟨_,rfl⟩
       replace H:(some y281) = some r:=by first|(rw [hy281];with_reducible exact H)|(have H2_:=(Option.bind_some _ _).symm.trans H;rw [hy281];with_reducible exact H2_)|(have H2_:=(Option.bind_some _ _).symm.trans H;with_reducible exact H2_)|with_reducible exact H|(rw [hy281];exact H)|exact H
       have Ny281:=Aside0.mk hy281
       clear hy281
       obtain rfl:=Option.some.inj H
       go_enter Try.func73,Try.ntmps73
       go_wp2_with (first|((with_reducible refine gate_dst (N:=4) rfl ?_);refine box_event ?hg (N:=4) ?hd (cs:=#[.slice A0_0 l0_0.length c0_0]) (t:=30) ?hr ?_;(case hd=>rfl);(case hg=>rfl);(case hr=>first|(go_simp;done)|(go_simp;rfl));intro gb271 hg w13 hbox hb;have BK271:=Aside0.mk (hbox);have GW271:=Aside0.mk ((hZ:w.heap.size ≤ gb271));have GE271:=Aside0.mk ((hZ:w.heap.size ≤ gb271));replace HB:=Aside0.mk (below_step bH hb);clear hb hbox hg;obtain ⟨i014,hi014,_,hsz14,_⟩:=info_parts info3;obtain ⟨hcut14,hA14,hC14⟩:=print_take_of (P:=Try.prog) (Value.int .i64) 0 22 3 .i64 Try.underlying22 hi014 hsz14 A1 c1 l1 a2 (oD) (oD) HC1.out;have HR272:=Aside0.mk (Kd.C_of_reads (h1:=fun _=>rfl) (hA14 _ (Kd.reads_of_C HR1.out)));have HC272:=Aside0.mk hC14;clear hA14 hC14 hi014 hsz14)|((with_reducible refine gate_callee (f:=82) rfl ?_);refine goesL_ (some 13) rfl rfl Try.func82 (by kernel_rfl) rfl #[.slice A1 (l1.take (a2:Int).toNat).length c1] rfl (by (try simp only [List.map_toArray,List.map_cons,List.map_nil]);first|done|(rw [show (l1.take (a2:Int).toNat).length = a2.toNat from (by rw [List.length_take];have h_:(a2:Int) ≤ (l1.length:Int):=oD;omega)] <;> rfl)|rfl|(simp only [List.length_drop,List.length_take];rfl)) ?_;(with_reducible refine (spec_l1Own.calls _ _ (l1.take (a2:Int).toNat) t273 _ ?side1 ?side2 A7.out).mono ?_);(case side1=>exact sC HR272);(case side2=>exact HC272.out);rintro e w15 ⟨v274,rfl,ho0,hb⟩;refine ⟨_,rfl,?_⟩;have HO275:=Aside0.mk (Kd.R_lower ho0 (below_size bH));replace BK271:=Aside0.mk (blk_below (bB BK271) hb);replace HB:=Aside0.mk (below_step bH hb);(try clear hb);(try clear hb2);(try clear hk);(try clear hi);(try clear ho0))|((with_reducible refine gate_builtin (b:=.append) (xs:=#[.tmp 13,.tmp 14]) rfl ?_);at_builtin;refine Kd.R_append_rows (Kd.int .i64) (w0:=w) w.heap.size rfl (.tmp 13) (.tmp 14) 22 3 (.int .i64 0) 8 rfl Try.underlying22 info3 rfl (by decide) (by first|decide|omega) v274 t273 l3 _ _ _ (fun _=>True) (fun _=>False) rfl rfl ?aO ?aR (fun _ _ h=>h) (fun _ h=>h.elim) ?aF ?aB ?aS ?aL ?_;(case aR=>exact sC HR3);(case aB=>exact bH);(case aF=>exact (fun _ _=>trivial));(case aO=>exact (rR HO275));(case aS=>exact (below_size bH));(case aL=>have:=LMc8.out;omega);intro v277 w16 ho hb hg hat;rw [← Ny276.out] at ho;have n0_:=Aside0.mk (blk_grown (bB BK271) hg (Kd.R_ne HO275.out BK271.out (by decide)));have n1_:=Aside0.mk (hb);have n2_:=Aside0.mk (ho);clear BK271;clear HB;clear HO275;have BK271:=n0_;have HB:=n1_;have HO278:=n2_;clear n0_ n1_ n2_;clear ho hb hg hat;have hcz17_0:w16.cell? ⟨gb271,0,none⟩ = some (.slice A0_0 l0_0.length c0_0):=(blk_cell BK271.out 0).trans rfl;have hfz17_0:=blk_frozen BK271.out 0)|((with_reducible refine gate_callee (f:=102) rfl ?_);refine goesL_ (some 21) rfl rfl Try.func102 (by kernel_rfl) rfl #[.agg #[.slice A0_0 l0_0.length c0_0],.slice A1 l1.length c1,.int .i64 a2] rfl Ya ?_;(with_reducible refine (spec_l1End.calls k _ _ l0_0 _ _ l1 a2 t279 _ ?side1 ?side2 ?side3 ?side4 A9.out).mono ?_);(case side1=>exact sC HR0_0);(case side2=>exact HC0_0.out);(case side3=>exact sC HR1);(case side4=>exact HC1.out);rintro e w18 ⟨rfl,hb⟩;refine ⟨_,rfl,?_⟩;replace HO278:=Aside0.mk (Kd.R_below (rR HO278) hb);replace BK271:=Aside0.mk (blk_below (bB BK271) hb);replace HB:=Aside0.mk (below_step bH hb);(try clear hb);(try clear hb2);(try clear hk);(try clear hi);obtain ⟨i019,hi019,_,hsz19,_⟩:=info_parts info3;obtain ⟨A19,hcut19,hA19,hC19⟩:=print_drop_of (P:=Try.prog) (Value.int .i64) 0 22 3 .i64 Try.underlying22 hi019 hsz19 A1 c1 l1 t279 (oD) (oD) HC1.out;have HR280:=Aside0.mk (Kd.C_of_reads (h1:=fun _=>rfl) (hA19 _ (Kd.reads_of_C HR1.out)));have HC280:=Aside0.mk hC19;clear hA19 hC19 hi019 hsz19)|((with_reducible refine gate_builtin (b:=.append) (xs:=#[.tmp 16,.tmp 22]) rfl ?_);at_builtin;refine Kd.R_append_rows (Kd.int .i64) (w0:=w) w.heap.size rfl (.tmp 16) (.tmp 22) 22 3 (.int .i64 0) 8 rfl Try.underlying22 info3 rfl (by decide) (by first|decide|omega) v277 y276 (l1.drop (t279:Int).toNat) _ _ _ (fun _=>True) (fun _=>False) rfl rfl ?aO ?aR (fun _ _ h=>h) (fun _ h=>h.elim) ?aF ?aB ?aS ?aL ?_;(case aR=>first|(have q_:=Kd.C_below HR280.out HB.out;rw [show (l1.drop (t279:Int).toNat).length = (l1.length - t279.toNat) from List.length_drop] at q_;exact q_)|(rw [← show (l1.drop (t279:Int).toNat).length = (l1.length - t279.toNat) from List.length_drop];repeat (first|exact (Kd.C_below HR280.out HB.out)|(with_reducible refine Kd.C_alloc ?_ _)|(with_reducible refine Kd.C_drewN ?_ _)|(with_reducible refine Kd.C_drew ?_)))|(repeat (first|exact (Kd.C_below HR280.out HB.out)|(with_reducible refine Kd.C_alloc ?_ _)|(with_reducible refine Kd.C_drewN ?_ _)|(with_reducible refine Kd.C_drew ?_))));(case aB=>exact bH);(case aF=>exact (fun _ _=>trivial));(case aO=>exact (rR HO278));(case aS=>exact (below_size bH));(case aL=>have:=LMc12.out;have hlx_:=(show (l1.drop (t279:Int).toNat).length = (l1.length - t279.toNat) from List.length_drop);omega);intro v282 w20 ho hb hg hat;rw [← Ny281.out] at ho;have n0_:=Aside0.mk (blk_grown (bB BK271) hg (Kd.R_ne HO278.out BK271.out (by decide)));have n1_:=Aside0.mk (hb);have n2_:=Aside0.mk (ho);clear BK271;clear HB;clear HO278;have BK271:=n0_;have HB:=n1_;have HO283:=n2_;clear n0_ n1_ n2_;clear ho hb hg hat))
       go_ret
       exact ⟨_,by first|rfl|(simp [errW_none,errW_some] <;> rfl)|(simp [*,errW_none,errW_some] <;> rfl),rR HO283,bH⟩
      ·rw [if_neg c12] at H
       exact absurd H (by simp)
     ·rw [if_neg c11] at H
      exact absurd H (by simp)
    ·rw [if_neg c10] at H
     exact absurd H (by simp)
   ·rw [if_neg c8] at H
    exact absurd H (by simp)
  ·rw [if_neg c6] at H
   exact absurd H (by simp)
 ·rw [if_neg c5] at H
  exact absurd H (by simp)

end Go.Proofs.Ytlgnanbnicmdaab.QFnExactNormalClause
