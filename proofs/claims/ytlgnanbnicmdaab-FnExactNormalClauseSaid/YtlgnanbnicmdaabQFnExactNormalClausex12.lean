-- Written by this session's own program (wip/x/xprint.py, over the kit's printer); Lean checks it.
import Derived.Test.YtlgnanbnicmdaabQFnExactNormalClausex0
namespace Go.Proofs.Ytlgnanbnicmdaab.QFnExactNormalClause
open Go.RowKit Go.Proofs.YtlgnanbnicmdaabW.PrintWords Go.Proofs.YtlgnanbnicmdaabW.PrintLast Go.Proofs.YtlgnanbnicmdaabW.PrintMore
attribute [local go_sem] max2_int min2_int max_two min_two max_three min_three max_four min_four   -- for this text's walks alone
set_option linter.unusedVariables false
set_option linter.unusedSimpArgs false

/-! ### impl_count: function 156 -/
def impl_count.l0:Nat → Int → Int → List Int → Int → Int → Option (Int)
 | 0,_,_,_,_,_=>none
 | k + 1,x1,x5,x8,x9,x10=>if x10 < x9 then (if 0 ≤ x10 then (if x10 < (x8.length:Int) then (if (rd x8 x10) = x1 then (impl_count.l0 k x1 (wrap64 (x5 + 1)) x8 x9 (wrap64 (x10 + 1))) else (impl_count.l0 k x1 x5 x8 x9 (wrap64 (x10 + 1)))) else (none)) else (none)) else (some x5)
def impl_count.f (k:Nat) (l0:List Int) (a1:Int):Option (Int):=impl_count.l0 k a1 0 l0 (l0.length:Int) 0
theorem impl_count.mono_l:∀ k,(∀ y0 y1 y2 y3 y4,LeO (impl_count.l0 k y0 y1 y2 y3 y4) (impl_count.l0 (k + 1) y0 y1 y2 y3 y4))
 | 0=>fun _ _ _ _ _ r h=>by simp [impl_count.l0] at h
 | k + 1=>by
  have ih0:=impl_count.mono_l k
  ·intro y0 y1 y2 y3 y4
   unfold impl_count.l0
   exact mO
theorem impl_count.mono:∀ a0 a1 k,LeO (impl_count.f k a0 a1) (impl_count.f (k + 1) a0 a1):=by
 intro a0 a1 k
 have ih0:=impl_count.mono_l k
 unfold impl_count.f
 exact mO
set_option maxHeartbeats 8000000 in
set_option maxRecDepth 100000 in
theorem impl_count.calls (k:Nat) (A0:Option Addr) (c0:Nat) (l0:List Int) (a1:Int) (r:Int) (w:World) (hr0:Kd.C (Kd.int .i64) w A0 l0.length l0) (hc0:l0.length ≤ c0) (h:impl_count.f k l0 a1 = some r) :
  Calls Try.prog 156 #[.slice A0 l0.length c0,.int .i64 a1] w fun e w'=>e = .returned (.int .i64 r) ∧ Drawn0 w w':=by
 have HR0:=Aside0.mk hr0
 have HC0:=Aside0.mk hc0
 clear hr0 hc0
 have H:(impl_count.l0 k a1 0 l0 (l0.length:Int) 0) = some r:=h
 clear h
 have H':=Aside0.mk H
 clear H
 go_enter Try.func156,Try.ntmps156
 go_wp2
 go_loopg [5,10] k (fun kq v5 v10 w'=>∃ (x5_1:Int) (x10_1:Int),v5 = .int .i64 x5_1 ∧ v10 = .int .i64 x10_1 ∧ Aside0 (impl_count.l0 kq a1 x5_1 l0 (l0.length:Int) x10_1 = some r) ∧ Aside0 (kq ≤ k) ∧ Drawn0 w w')
 case atStart=>exact ⟨(0),(0),Yb,Yb,H',⟨Nat.le_refl _⟩,by repeat (first|exact Drawn0.refl _|apply Drawn0.step)⟩
 case round =>
  clear H'
  try clear c1
  try clear p2
  obtain ⟨x5_1,x10_1,rfl,rfl,HA,HK1,⟨m1,rfl⟩⟩:=hrel
  cases gk with
  | zero=>exact absurd HA.out (by simp [impl_count.l0])
  | succ k1 =>
   have H:=HA.out
   clear HA
   simp only [impl_count.l0] at H
   by_cases c3:x10_1 < (l0.length:Int)
   ·rw [if_pos c3] at H
    have c3b0:=decide_eq_true c3
    clear c3
    by_cases c4:0 ≤ x10_1
    ·rw [if_pos c4] at H
     have c4b0:=decide_eq_true c4
     clear c4
     by_cases c5:x10_1 < (l0.length:Int)
     ·rw [if_pos c5] at H
      have c5b0:=decide_eq_true c5
      clear c5
      by_cases c6:(rd l0 x10_1) = a1
      ·rw [if_pos c6] at H
       have c6b0:((rd l0 x10_1) == a1) = true:=beq_iff_eq.mpr c6
       have c6b1:((rd l0 x10_1) != a1) = false:=bne_eq_false_iff_eq.mpr c6
       clear c6
       have H':=Aside0.mk H
       clear H
       have p396:0 ≤ (x10_1:Int):=oD
       have q396:x10_1 < (l0.length:Int):=oD
       obtain ⟨ad396,e396,hx396_0⟩:=Kd.at_int HR0.out x10_1 p396 q396
       cases e396
       replace p396:=eq_true p396
       replace q396:=eq_true q396
       go_wp2
       go_roundg k1
       case measure=>have:=HK1.out;omega
       case rel=>exact ⟨(wrap64 (x5_1 + 1)),(wrap64 (x10_1 + 1)),Yb,Yb,H',⟨by have:=HK1.out;omega⟩,by repeat (first|exact Drawn0.refl _|apply Drawn0.step)⟩
      ·rw [if_neg c6] at H
       have c6b0:((rd l0 x10_1) == a1) = false:=beq_eq_false_iff_ne.mpr c6
       have c6b1:((rd l0 x10_1) != a1) = true:=bne_iff_ne.mpr c6
       have H':=Aside0.mk H
       clear H
       have p396:0 ≤ (x10_1:Int):=oD
       have q396:x10_1 < (l0.length:Int):=oD
       obtain ⟨ad396,e396,hx396_0⟩:=Kd.at_int HR0.out x10_1 p396 q396
       cases e396
       replace p396:=eq_true p396
       replace q396:=eq_true q396
       go_wp2
       go_roundg k1
       case measure=>have:=HK1.out;omega
       case rel=>exact ⟨(x5_1),(wrap64 (x10_1 + 1)),Yb,Yb,H',⟨by have:=HK1.out;omega⟩,by repeat (first|exact Drawn0.refl _|apply Drawn0.step)⟩
     ·rw [if_neg c5] at H
      exact absurd H (by simp)
    ·rw [if_neg c4] at H
     exact absurd H (by simp)
   ·rw [if_neg c3] at H
    have c3b0:decide (x10_1 < (l0.length:Int)) = false:=decide_eq_false c3
    clear c3
    obtain rfl:=Option.some.inj H
    go_wp2
    go_ret
    exact ⟨by first|rfl|(simp;done)|(simp [*];done),by repeat (first|exact Drawn0.refl _|apply Drawn0.step)⟩

/-! ### impl_coversVars: function 132 -/
def impl_coversVars.l0:Nat → List Int → List Int → Int → Option (Bool)
 | 0,_,_,_=>none
 | k + 1,x0,x1,x6=>if x6 < 12 then ((impl_count.f k x0 (wrap64 ((-1) - x6))).bind fun t397=>((impl_count.f k x1 (wrap64 ((-1) - x6))).bind fun t398=>(if t397 < t398 then (some false) else (impl_coversVars.l0 k x0 x1 (wrap64 (x6 + 1)))))) else (some true)
def impl_coversVars.f (k:Nat) (l0:List Int) (l1:List Int):Option (Bool):=impl_coversVars.l0 k l0 l1 0
theorem impl_coversVars.mono_l:∀ k,(∀ y0 y1 y2,LeO (impl_coversVars.l0 k y0 y1 y2) (impl_coversVars.l0 (k + 1) y0 y1 y2))
 | 0=>fun _ _ _ r h=>by simp [impl_coversVars.l0] at h
 | k + 1=>by
  have ih0:=impl_coversVars.mono_l k
  ·intro y0 y1 y2
   unfold impl_coversVars.l0
   have m0:=@impl_count.mono
   exact mO
theorem impl_coversVars.mono:∀ a0 a1 k,LeO (impl_coversVars.f k a0 a1) (impl_coversVars.f (k + 1) a0 a1):=by
 intro a0 a1 k
 have ih0:=impl_coversVars.mono_l k
 unfold impl_coversVars.f
 have m0:=@impl_count.mono
 exact mO
set_option maxHeartbeats 8000000 in
set_option maxRecDepth 100000 in
theorem impl_coversVars.calls (k:Nat) (A0:Option Addr) (c0:Nat) (l0:List Int) (A1:Option Addr) (c1:Nat) (l1:List Int) (r:Bool) (w:World) (hr0:Kd.C (Kd.int .i64) w A0 l0.length l0) (hc0:l0.length ≤ c0) (hr1:Kd.C (Kd.int .i64) w A1 l1.length l1) (hc1:l1.length ≤ c1) (h:impl_coversVars.f k l0 l1 = some r) :
  Calls Try.prog 132 #[.slice A0 l0.length c0,.slice A1 l1.length c1] w fun e w'=>e = .returned (.bool r) ∧ Drawn0 w w':=by
 have HR0:=Aside0.mk hr0
 have HC0:=Aside0.mk hc0
 clear hr0 hc0
 have HR1:=Aside0.mk hr1
 have HC1:=Aside0.mk hc1
 clear hr1 hc1
 have H:(impl_coversVars.l0 k l0 l1 0) = some r:=h
 clear h
 have H':=Aside0.mk H
 clear H
 go_enter Try.func132,Try.ntmps132
 go_wp2
 go_loopg [6] k (fun kq v6 w'=>∃ (x6_1:Int),v6 = .int .i64 x6_1 ∧ Aside0 (impl_coversVars.l0 kq l0 l1 x6_1 = some r) ∧ Aside0 (kq ≤ k) ∧ Drawn0 w w')
 case atStart=>exact ⟨(0),Yb,H',⟨Nat.le_refl _⟩,by repeat (first|exact Drawn0.refl _|apply Drawn0.step)⟩
 case round =>
  clear H'
  try clear c1
  try clear p2
  obtain ⟨x6_1,rfl,HA,HK1,⟨m1,rfl⟩⟩:=hrel
  cases gk with
  | zero=>exact absurd HA.out (by simp [impl_coversVars.l0])
  | succ k1 =>
   have H:=HA.out
   clear HA
   simp only [impl_coversVars.l0] at H
   by_cases c3:x6_1 < 12
   ·rw [if_pos c3] at H
    have c3b0:=decide_eq_true c3
    clear c3
    replace H:=Option.bind_eq_some_iff.mp H
    obtain ⟨t397,A40,H⟩:=H
    replace H:((impl_count.f k1 l1 (wrap64 ((-1) - x6_1))).bind fun t398=>(if t397 < t398 then (some false) else (impl_coversVars.l0 k1 l0 l1 (wrap64 (x6_1 + 1))))) = some r:=H
    have A4:=Aside0.mk A40
    clear A40
    replace H:=Option.bind_eq_some_iff.mp H
    obtain ⟨t398,A50,H⟩:=H
    replace H:(if t397 < t398 then (some false) else (impl_coversVars.l0 k1 l0 l1 (wrap64 (x6_1 + 1)))) = some r:=H
    have A5:=Aside0.mk A50
    clear A50
    by_cases c6:t397 < t398
    ·rw [if_pos c6] at H
     have c6b0:=decide_eq_true c6
     clear c6
     obtain rfl:=Option.some.inj H
     go_wp2_with (first|((with_reducible refine gate_callee (f:=156) rfl ?_);refine goesL_ (some 12) rfl rfl Try.func156 (by kernel_rfl) rfl #[.slice A0 l0.length c0,.int .i64 (wrap64 ((-1) - x6_1))] rfl Ya ?_;(with_reducible refine (impl_count.calls k1 _ _ l0 (wrap64 ((-1) - x6_1)) t397 _ ?side1 ?side2 A4.out).mono ?_);(case side1=>repeat (first|exact HR0.out|(with_reducible refine Kd.C_alloc ?_ _)|(with_reducible refine Kd.C_drewN ?_ _)|(with_reducible refine Kd.C_drew ?_)));(case side2=>exact HC0.out);rintro e w' ⟨rfl,⟨nd,rfl⟩⟩;refine ⟨_,rfl,?_⟩)|((with_reducible refine gate_callee (f:=156) rfl ?_);refine goesL_ (some 16) rfl rfl Try.func156 (by kernel_rfl) rfl #[.slice A1 l1.length c1,.int .i64 (wrap64 ((-1) - x6_1))] rfl Ya ?_;(with_reducible refine (impl_count.calls k1 _ _ l1 (wrap64 ((-1) - x6_1)) t398 _ ?side1 ?side2 A5.out).mono ?_);(case side1=>repeat (first|exact HR1.out|(with_reducible refine Kd.C_alloc ?_ _)|(with_reducible refine Kd.C_drewN ?_ _)|(with_reducible refine Kd.C_drew ?_)));(case side2=>exact HC1.out);rintro e w' ⟨rfl,⟨nd,rfl⟩⟩;refine ⟨_,rfl,?_⟩))
     go_ret
     exact ⟨by first|rfl|(simp;done)|(simp [*];done),by repeat (first|exact Drawn0.refl _|apply Drawn0.step)⟩
    ·rw [if_neg c6] at H
     have c6b0:decide (t397 < t398) = false:=decide_eq_false c6
     clear c6
     have H':=Aside0.mk H
     clear H
     go_wp2_with (first|((with_reducible refine gate_callee (f:=156) rfl ?_);refine goesL_ (some 12) rfl rfl Try.func156 (by kernel_rfl) rfl #[.slice A0 l0.length c0,.int .i64 (wrap64 ((-1) - x6_1))] rfl Ya ?_;(with_reducible refine (impl_count.calls k1 _ _ l0 (wrap64 ((-1) - x6_1)) t397 _ ?side1 ?side2 A4.out).mono ?_);(case side1=>repeat (first|exact HR0.out|(with_reducible refine Kd.C_alloc ?_ _)|(with_reducible refine Kd.C_drewN ?_ _)|(with_reducible refine Kd.C_drew ?_)));(case side2=>exact HC0.out);rintro e w' ⟨rfl,⟨nd,rfl⟩⟩;refine ⟨_,rfl,?_⟩)|((with_reducible refine gate_callee (f:=156) rfl ?_);refine goesL_ (some 16) rfl rfl Try.func156 (by kernel_rfl) rfl #[.slice A1 l1.length c1,.int .i64 (wrap64 ((-1) - x6_1))] rfl Ya ?_;(with_reducible refine (impl_count.calls k1 _ _ l1 (wrap64 ((-1) - x6_1)) t398 _ ?side1 ?side2 A5.out).mono ?_);(case side1=>repeat (first|exact HR1.out|(with_reducible refine Kd.C_alloc ?_ _)|(with_reducible refine Kd.C_drewN ?_ _)|(with_reducible refine Kd.C_drew ?_)));(case side2=>exact HC1.out);rintro e w' ⟨rfl,⟨nd,rfl⟩⟩;refine ⟨_,rfl,?_⟩))
     go_roundg k1
     case measure=>have:=HK1.out;omega
     case rel=>exact ⟨(wrap64 (x6_1 + 1)),Yb,H',⟨by have:=HK1.out;omega⟩,by repeat (first|exact Drawn0.refl _|apply Drawn0.step)⟩
   ·rw [if_neg c3] at H
    have c3b0:decide (x6_1 < 12) = false:=decide_eq_false c3
    clear c3
    obtain rfl:=Option.some.inj H
    go_wp2
    go_ret
    exact ⟨by first|rfl|(simp;done)|(simp [*];done),by repeat (first|exact Drawn0.refl _|apply Drawn0.step)⟩

/-! ### impl_isGreater: function 114 -/
mutual
def impl_isGreater.j0:Nat → List Int → List Int → Bool → Option (Bool)
 | 0,_,_,_=>none
 | k + 1,x0,x1,x17=>if x17 = true then (some false) else (if (x0.length:Int) > (x1.length:Int) then (some true) else (impl_isGreater.l0 k x1 x0 (x0.length:Int) 0))
def impl_isGreater.l0:Nat → List Int → List Int → Int → Int → Option (Bool)
 | 0,_,_,_,_=>none
 | k + 1,x1,x23,x24,x25=>if x25 < x24 then (if 0 ≤ x25 then (if x25 < (x23.length:Int) then (if x25 < (x1.length:Int) then (if (rd x23 x25) = (rd x1 x25) then (impl_isGreater.l0 k x1 x23 x24 (wrap64 (x25 + 1))) else (if (rd x23 x25) ≥ 0 then (if (rd x1 x25) ≥ 0 then (some (decide ((rd x23 x25) > (rd x1 x25)))) else (some false)) else (some false))) else (none)) else (none)) else (none)) else (some false)
end
def impl_isGreater.f (k:Nat) (l0:List Int) (l1:List Int):Option (Bool):=if (l0.length:Int) < (l1.length:Int) then (impl_isGreater.j0 k l0 l1 true) else ((impl_coversVars.f k l0 l1).bind fun t399=>(impl_isGreater.j0 k l0 l1 (!t399)))
theorem impl_isGreater.mono_l:∀ k,(∀ y0 y1 y2,LeO (impl_isGreater.j0 k y0 y1 y2) (impl_isGreater.j0 (k + 1) y0 y1 y2)) ∧ (∀ y0 y1 y2 y3,LeO (impl_isGreater.l0 k y0 y1 y2 y3) (impl_isGreater.l0 (k + 1) y0 y1 y2 y3))
 | 0=>⟨fun _ _ _ r h=>by simp [impl_isGreater.j0] at h,fun _ _ _ _ r h=>by simp [impl_isGreater.l0] at h⟩
 | k + 1=>by
  obtain ⟨ih0,ih1⟩:=impl_isGreater.mono_l k
  refine ⟨?_,?_⟩
  ·intro y0 y1 y2
   unfold impl_isGreater.j0
   have m0:=@impl_coversVars.mono
   exact mO
  ·intro y0 y1 y2 y3
   unfold impl_isGreater.l0
   have m0:=@impl_coversVars.mono
   exact mO
theorem impl_isGreater.mono:∀ a0 a1 k,LeO (impl_isGreater.f k a0 a1) (impl_isGreater.f (k + 1) a0 a1):=by
 intro a0 a1 k
 obtain ⟨ih0,ih1⟩:=impl_isGreater.mono_l k
 unfold impl_isGreater.f
 have m0:=@impl_coversVars.mono
 exact mO
set_option maxHeartbeats 8000000 in
set_option maxRecDepth 100000 in
theorem impl_isGreater.calls (k:Nat) (A0:Option Addr) (c0:Nat) (l0:List Int) (A1:Option Addr) (c1:Nat) (l1:List Int) (r:Bool) (w:World) (hr0:Kd.C (Kd.int .i64) w A0 l0.length l0) (hc0:l0.length ≤ c0) (hr1:Kd.C (Kd.int .i64) w A1 l1.length l1) (hc1:l1.length ≤ c1) (h:impl_isGreater.f k l0 l1 = some r) :
  Calls Try.prog 114 #[.slice A0 l0.length c0,.slice A1 l1.length c1] w fun e w'=>e = .returned (.bool r) ∧ Drawn0 w w':=by
 have HR0:=Aside0.mk hr0
 have HC0:=Aside0.mk hc0
 clear hr0 hc0
 have HR1:=Aside0.mk hr1
 have HC1:=Aside0.mk hc1
 clear hr1 hc1
 have H:(if (l0.length:Int) < (l1.length:Int) then (impl_isGreater.j0 k l0 l1 true) else ((impl_coversVars.f k l0 l1).bind fun t399=>(impl_isGreater.j0 k l0 l1 (!t399)))) = some r:=h
 clear h
 have HC3:=Aside0.mk H
 clear H
 go_enter Try.func114,Try.ntmps114
 go_upto_region 1 with (fail)
 go_cut [17] (fun v17 wc=>∃ (kq:Nat) (x17_2:Bool),v17 = .bool x17_2 ∧ Aside0 (impl_isGreater.j0 kq l0 l1 x17_2 = some r) ∧ Aside0 (kq ≤ k) ∧ Drawn0 w wc)
 case first =>
  have H:=HC3.out
  clear HC3
  by_cases c4:(l0.length:Int) < (l1.length:Int)
  ·rw [if_pos c4] at H
   have c4b0:=decide_eq_true c4
   have c4b1:decide (l0.length < l1.length) = true:=decide_eq_true (Int.ofNat_lt.mp c4)
   clear c4
   (first|rw [c4b0]|(simp only [i64_w,i32_w];rw [c4b0])|skip)
   have H':=Aside0.mk H
   clear H
   go_wp2
   go_meet
   case rel=>exact ⟨_,(true),Yb,H',⟨by first|omega|exact Nat.le_refl _⟩,by repeat (first|exact Drawn0.refl _|apply Drawn0.step)⟩
  ·rw [if_neg c4] at H
   have c4b0:decide ((l0.length:Int) < (l1.length:Int)) = false:=decide_eq_false c4
   have c4b1:decide (l0.length < l1.length) = false:=decide_eq_false (fun h=>c4 (Int.ofNat_lt.mpr h))
   clear c4
   (first|rw [c4b0]|(simp only [i64_w,i32_w];rw [c4b0])|skip)
   replace H:=Option.bind_eq_some_iff.mp H
   obtain ⟨t399,A50,H⟩:=H
   replace H:(impl_isGreater.j0 k l0 l1 (!t399)) = some r:=H
   have A5:=Aside0.mk A50
   clear A50
   have H':=Aside0.mk H
   clear H
   go_wp2_with (first|(go_at_call 132;(with_reducible refine (impl_coversVars.calls k _ _ l0 _ _ l1 t399 _ ?side1 ?side2 ?side3 ?side4 A5.out).mono ?_);(case side1=>repeat (first|exact HR0.out|(with_reducible refine Kd.C_alloc ?_ _)|(with_reducible refine Kd.C_drewN ?_ _)|(with_reducible refine Kd.C_drew ?_)));(case side2=>exact HC0.out);(case side3=>repeat (first|exact HR1.out|(with_reducible refine Kd.C_alloc ?_ _)|(with_reducible refine Kd.C_drewN ?_ _)|(with_reducible refine Kd.C_drew ?_)));(case side4=>exact HC1.out);rintro e w' ⟨rfl,⟨nd,rfl⟩⟩))
   go_meet
   case rel=>exact ⟨_,(!t399),Yb,H',⟨by first|omega|exact Nat.le_refl _⟩,by repeat (first|exact Drawn0.refl _|apply Drawn0.step)⟩
 case rest =>
  clear HC3
  try clear c1
  try clear p2
  try clear c4
  try clear c4b0
  try clear c4b1
  obtain ⟨kq,x17_2,rfl,HA,HJ2,⟨mc2,rfl⟩⟩:=hcut
  cases kq with
  | zero=>exact absurd HA.out (by simp [impl_isGreater.j0])
  | succ kj2 =>
   have H:=HA.out
   clear HA
   simp only [impl_isGreater.j0] at H
   by_cases c6:x17_2 = true
   ·subst c6
    have H1:(some false) = some r:=by rw [if_pos rfl] at H;exact H
    clear H
    have H:=H1
    clear H1
    obtain rfl:=Option.some.inj H
    go_wp2
    go_ret
    exact ⟨by first|rfl|(simp;done)|(simp [*];done),by repeat (first|exact Drawn0.refl _|apply Drawn0.step)⟩
   ·replace c6:=Bool.eq_false_iff.mpr c6
    subst c6
    have H1:(if (l0.length:Int) > (l1.length:Int) then (some true) else (impl_isGreater.l0 kj2 l1 l0 (l0.length:Int) 0)) = some r:=by rw [if_neg (show ¬ (false = true) by decide)] at H;exact H
    clear H
    have H:=H1
    clear H1
    by_cases c7:(l0.length:Int) > (l1.length:Int)
    ·rw [if_pos c7] at H
     have c7b0:decide ((l1.length:Int) < (l0.length:Int)) = true:=decide_eq_true c7
     have c7b1:decide (l1.length < l0.length) = true:=decide_eq_true (Int.ofNat_lt.mp c7)
     clear c7
     obtain rfl:=Option.some.inj H
     go_wp2
     go_ret
     exact ⟨by first|rfl|(simp;done)|(simp [*];done),by repeat (first|exact Drawn0.refl _|apply Drawn0.step)⟩
    ·rw [if_neg c7] at H
     have c7b0:decide ((l1.length:Int) < (l0.length:Int)) = false:=decide_eq_false c7
     have c7b1:decide (l1.length < l0.length) = false:=decide_eq_false (fun h=>c7 (Int.ofNat_lt.mpr h))
     clear c7
     have H':=Aside0.mk H
     clear H
     go_wp2
     go_loopg [25] kj2 (fun kq v25 w'=>∃ (x25_2:Int),v25 = .int .i64 x25_2 ∧ Aside0 (impl_isGreater.l0 kq l1 l0 (l0.length:Int) x25_2 = some r) ∧ Aside0 (kq ≤ kj2) ∧ Drawn0 w w')
     case atStart=>exact ⟨(0),Yb,H',⟨Nat.le_refl _⟩,by repeat (first|exact Drawn0.refl _|apply Drawn0.step)⟩
     case round =>
      clear H'
      try clear c1
      try clear c2
      try clear p2
      try clear c4
      try clear c4b0
      try clear c4b1
      try clear c6
      try clear c7
      try clear c7b0
      try clear c7b1
      try clear p2
      obtain ⟨x25_2,rfl,HA,HK2,⟨m2,rfl⟩⟩:=hrel
      cases gk with
      | zero=>exact absurd HA.out (by simp [impl_isGreater.l0])
      | succ k2 =>
       have H:=HA.out
       clear HA
       simp only [impl_isGreater.l0] at H
       by_cases c8:x25_2 < (l0.length:Int)
       ·rw [if_pos c8] at H
        have c8b0:=decide_eq_true c8
        clear c8
        by_cases c9:0 ≤ x25_2
        ·rw [if_pos c9] at H
         have c9b0:=decide_eq_true c9
         clear c9
         by_cases c10:x25_2 < (l0.length:Int)
         ·rw [if_pos c10] at H
          have c10b0:=decide_eq_true c10
          clear c10
          by_cases c11:x25_2 < (l1.length:Int)
          ·rw [if_pos c11] at H
           have c11b0:=decide_eq_true c11
           clear c11
           by_cases c12:(rd l0 x25_2) = (rd l1 x25_2)
           ·rw [if_pos c12] at H
            have c12b0:((rd l0 x25_2) == (rd l1 x25_2)) = true:=beq_iff_eq.mpr c12
            have c12b1:((rd l0 x25_2) != (rd l1 x25_2)) = false:=bne_eq_false_iff_eq.mpr c12
            clear c12
            have H':=Aside0.mk H
            clear H
            have p400:0 ≤ (x25_2:Int):=oD
            have q400:x25_2 < (l0.length:Int):=oD
            obtain ⟨ad400,e400,hx400_0⟩:=Kd.at_int HR0.out x25_2 p400 q400
            cases e400
            replace p400:=eq_true p400
            replace q400:=eq_true q400
            have p401:0 ≤ (x25_2:Int):=oD
            have q401:x25_2 < (l1.length:Int):=oD
            obtain ⟨ad401,e401,hx401_0⟩:=Kd.at_int HR1.out x25_2 p401 q401
            cases e401
            replace p401:=eq_true p401
            replace q401:=eq_true q401
            go_wp2
            go_roundg k2
            case measure=>have:=HJ2.out;have:=HK2.out;omega
            case rel=>exact ⟨(wrap64 (x25_2 + 1)),Yb,H',⟨by have:=HJ2.out;have:=HK2.out;omega⟩,by repeat (first|exact Drawn0.refl _|apply Drawn0.step)⟩
           ·rw [if_neg c12] at H
            have c12b0:((rd l0 x25_2) == (rd l1 x25_2)) = false:=beq_eq_false_iff_ne.mpr c12
            have c12b1:((rd l0 x25_2) != (rd l1 x25_2)) = true:=bne_iff_ne.mpr c12
            by_cases c13:(rd l0 x25_2) ≥ 0
            ·rw [if_pos c13] at H
             have c13b0:decide (0 ≤ (rd l0 x25_2)) = true:=decide_eq_true c13
             clear c13
             by_cases c14:(rd l1 x25_2) ≥ 0
             ·rw [if_pos c14] at H
              have c14b0:decide (0 ≤ (rd l1 x25_2)) = true:=decide_eq_true c14
              clear c14
              obtain rfl:=Option.some.inj H
              have p400:0 ≤ (x25_2:Int):=oD
              have q400:x25_2 < (l0.length:Int):=oD
              obtain ⟨ad400,e400,hx400_0⟩:=Kd.at_int HR0.out x25_2 p400 q400
              cases e400
              replace p400:=eq_true p400
              replace q400:=eq_true q400
              have p401:0 ≤ (x25_2:Int):=oD
              have q401:x25_2 < (l1.length:Int):=oD
              obtain ⟨ad401,e401,hx401_0⟩:=Kd.at_int HR1.out x25_2 p401 q401
              cases e401
              replace p401:=eq_true p401
              replace q401:=eq_true q401
              have p402:0 ≤ (x25_2:Int):=oD
              have q402:x25_2 < (l1.length:Int):=oD
              obtain ⟨ad402,e402,hx402_0⟩:=Kd.at_int HR1.out x25_2 p402 q402
              obtain rfl:ad401 = ad402:=(by injection e402)
              replace p402:=eq_true p402
              replace q402:=eq_true q402
              have p403:0 ≤ (x25_2:Int):=oD
              have q403:x25_2 < (l1.length:Int):=oD
              obtain ⟨ad403,e403,hx403_0⟩:=Kd.at_int HR1.out x25_2 p403 q403
              obtain rfl:ad401 = ad403:=(by injection e403)
              replace p403:=eq_true p403
              replace q403:=eq_true q403
              go_wp2
              go_ret
              exact ⟨by first|rfl|(simp;done)|(simp [*];done),by repeat (first|exact Drawn0.refl _|apply Drawn0.step)⟩
             ·rw [if_neg c14] at H
              have c14b0:decide (0 ≤ (rd l1 x25_2)) = false:=decide_eq_false c14
              clear c14
              obtain rfl:=Option.some.inj H
              have p400:0 ≤ (x25_2:Int):=oD
              have q400:x25_2 < (l0.length:Int):=oD
              obtain ⟨ad400,e400,hx400_0⟩:=Kd.at_int HR0.out x25_2 p400 q400
              cases e400
              replace p400:=eq_true p400
              replace q400:=eq_true q400
              have p401:0 ≤ (x25_2:Int):=oD
              have q401:x25_2 < (l1.length:Int):=oD
              obtain ⟨ad401,e401,hx401_0⟩:=Kd.at_int HR1.out x25_2 p401 q401
              cases e401
              replace p401:=eq_true p401
              replace q401:=eq_true q401
              have p402:0 ≤ (x25_2:Int):=oD
              have q402:x25_2 < (l1.length:Int):=oD
              obtain ⟨ad402,e402,hx402_0⟩:=Kd.at_int HR1.out x25_2 p402 q402
              obtain rfl:ad401 = ad402:=(by injection e402)
              replace p402:=eq_true p402
              replace q402:=eq_true q402
              go_wp2
              go_ret
              exact ⟨by first|rfl|(simp;done)|(simp [*];done),by repeat (first|exact Drawn0.refl _|apply Drawn0.step)⟩
            ·rw [if_neg c13] at H
             have c13b0:decide (0 ≤ (rd l0 x25_2)) = false:=decide_eq_false c13
             clear c13
             obtain rfl:=Option.some.inj H
             have p400:0 ≤ (x25_2:Int):=oD
             have q400:x25_2 < (l0.length:Int):=oD
             obtain ⟨ad400,e400,hx400_0⟩:=Kd.at_int HR0.out x25_2 p400 q400
             cases e400
             replace p400:=eq_true p400
             replace q400:=eq_true q400
             have p401:0 ≤ (x25_2:Int):=oD
             have q401:x25_2 < (l1.length:Int):=oD
             obtain ⟨ad401,e401,hx401_0⟩:=Kd.at_int HR1.out x25_2 p401 q401
             cases e401
             replace p401:=eq_true p401
             replace q401:=eq_true q401
             go_wp2
             go_ret
             exact ⟨by first|rfl|(simp;done)|(simp [*];done),by repeat (first|exact Drawn0.refl _|apply Drawn0.step)⟩
          ·rw [if_neg c11] at H
           exact absurd H (by simp)
         ·rw [if_neg c10] at H
          exact absurd H (by simp)
        ·rw [if_neg c9] at H
         exact absurd H (by simp)
       ·rw [if_neg c8] at H
        have c8b0:decide (x25_2 < (l0.length:Int)) = false:=decide_eq_false c8
        clear c8
        obtain rfl:=Option.some.inj H
        go_wp2
        go_ret
        exact ⟨by first|rfl|(simp;done)|(simp [*];done),by repeat (first|exact Drawn0.refl _|apply Drawn0.step)⟩

/-! ### slices_Index_int_int: function 133 -/
def slices_Index_int_int.l0:Nat → List Int → Int → Int → Int → Option (Int)
 | 0,_,_,_,_=>none
 | k + 1,x0,x1,x7,x8=>if x8 < x7 then (if 0 ≤ x8 then (if x8 < (x0.length:Int) then (if x1 = (rd x0 x8) then (some x8) else (slices_Index_int_int.l0 k x0 x1 x7 (wrap64 (x8 + 1)))) else (none)) else (none)) else (some (-1))
def slices_Index_int_int.f (k:Nat) (l0:List Int) (a1:Int):Option (Int):=slices_Index_int_int.l0 k l0 a1 (l0.length:Int) 0
theorem slices_Index_int_int.mono_l:∀ k,(∀ y0 y1 y2 y3,LeO (slices_Index_int_int.l0 k y0 y1 y2 y3) (slices_Index_int_int.l0 (k + 1) y0 y1 y2 y3))
 | 0=>fun _ _ _ _ r h=>by simp [slices_Index_int_int.l0] at h
 | k + 1=>by
  have ih0:=slices_Index_int_int.mono_l k
  ·intro y0 y1 y2 y3
   unfold slices_Index_int_int.l0
   exact mO
theorem slices_Index_int_int.mono:∀ a0 a1 k,LeO (slices_Index_int_int.f k a0 a1) (slices_Index_int_int.f (k + 1) a0 a1):=by
 intro a0 a1 k
 have ih0:=slices_Index_int_int.mono_l k
 unfold slices_Index_int_int.f
 exact mO
set_option maxHeartbeats 8000000 in
set_option maxRecDepth 100000 in
theorem slices_Index_int_int.calls (k:Nat) (A0:Option Addr) (c0:Nat) (l0:List Int) (a1:Int) (r:Int) (w:World) (hr0:Kd.C (Kd.int .i64) w A0 l0.length l0) (hc0:l0.length ≤ c0) (h:slices_Index_int_int.f k l0 a1 = some r) :
  Calls Try.prog 133 #[.slice A0 l0.length c0,.int .i64 a1] w fun e w'=>e = .returned (.int .i64 r) ∧ Drawn0 w w':=by
 have HR0:=Aside0.mk hr0
 have HC0:=Aside0.mk hc0
 clear hr0 hc0
 have H:(slices_Index_int_int.l0 k l0 a1 (l0.length:Int) 0) = some r:=h
 clear h
 have H':=Aside0.mk H
 clear H
 go_enter Try.func133,Try.ntmps133
 go_wp2
 go_loopg [8] k (fun kq v8 w'=>∃ (x8_1:Int),v8 = .int .i64 x8_1 ∧ Aside0 (slices_Index_int_int.l0 kq l0 a1 (l0.length:Int) x8_1 = some r) ∧ Aside0 (kq ≤ k) ∧ Drawn0 w w')
 case atStart=>exact ⟨(0),Yb,H',⟨Nat.le_refl _⟩,by repeat (first|exact Drawn0.refl _|apply Drawn0.step)⟩
 case round =>
  clear H'
  try clear c1
  try clear p2
  obtain ⟨x8_1,rfl,HA,HK1,⟨m1,rfl⟩⟩:=hrel
  cases gk with
  | zero=>exact absurd HA.out (by simp [slices_Index_int_int.l0])
  | succ k1 =>
   have H:=HA.out
   clear HA
   simp only [slices_Index_int_int.l0] at H
   by_cases c3:x8_1 < (l0.length:Int)
   ·rw [if_pos c3] at H
    have c3b0:=decide_eq_true c3
    clear c3
    by_cases c4:0 ≤ x8_1
    ·rw [if_pos c4] at H
     have c4b0:=decide_eq_true c4
     clear c4
     by_cases c5:x8_1 < (l0.length:Int)
     ·rw [if_pos c5] at H
      have c5b0:=decide_eq_true c5
      clear c5
      by_cases c6:a1 = (rd l0 x8_1)
      ·rw [if_pos c6] at H
       have c6b0:(a1 == (rd l0 x8_1)) = true:=beq_iff_eq.mpr c6
       have c6b1:(a1 != (rd l0 x8_1)) = false:=bne_eq_false_iff_eq.mpr c6
       clear c6
       obtain rfl:=Option.some.inj H
       have p404:0 ≤ (x8_1:Int):=oD
       have q404:x8_1 < (l0.length:Int):=oD
       obtain ⟨ad404,e404,hx404_0⟩:=Kd.at_int HR0.out x8_1 p404 q404
       cases e404
       replace p404:=eq_true p404
       replace q404:=eq_true q404
       go_wp2
       go_ret
       exact ⟨by first|rfl|(simp;done)|(simp [*];done),by repeat (first|exact Drawn0.refl _|apply Drawn0.step)⟩
      ·rw [if_neg c6] at H
       have c6b0:(a1 == (rd l0 x8_1)) = false:=beq_eq_false_iff_ne.mpr c6
       have c6b1:(a1 != (rd l0 x8_1)) = true:=bne_iff_ne.mpr c6
       have H':=Aside0.mk H
       clear H
       have p404:0 ≤ (x8_1:Int):=oD
       have q404:x8_1 < (l0.length:Int):=oD
       obtain ⟨ad404,e404,hx404_0⟩:=Kd.at_int HR0.out x8_1 p404 q404
       cases e404
       replace p404:=eq_true p404
       replace q404:=eq_true q404
       go_wp2
       go_roundg k1
       case measure=>have:=HK1.out;omega
       case rel=>exact ⟨(wrap64 (x8_1 + 1)),Yb,H',⟨by have:=HK1.out;omega⟩,by repeat (first|exact Drawn0.refl _|apply Drawn0.step)⟩
     ·rw [if_neg c5] at H
      exact absurd H (by simp)
    ·rw [if_neg c4] at H
     exact absurd H (by simp)
   ·rw [if_neg c3] at H
    have c3b0:decide (x8_1 < (l0.length:Int)) = false:=decide_eq_false c3
    clear c3
    obtain rfl:=Option.some.inj H
    go_wp2
    go_ret
    exact ⟨by first|rfl|(simp;done)|(simp [*];done),by repeat (first|exact Drawn0.refl _|apply Drawn0.step)⟩

/-! ### slices_Contains_int_int: function 115 -/
def slices_Contains_int_int.f (k:Nat) (l0:List Int) (a1:Int):Option (Bool):=(slices_Index_int_int.f k l0 a1).bind fun t405=>(some (decide (t405 ≥ 0)))
theorem slices_Contains_int_int.mono:∀ a0 a1 k,LeO (slices_Contains_int_int.f k a0 a1) (slices_Contains_int_int.f (k + 1) a0 a1):=by
 intro a0 a1 k
 unfold slices_Contains_int_int.f
 have m0:=@slices_Index_int_int.mono
 exact mO
set_option maxHeartbeats 8000000 in
set_option maxRecDepth 100000 in
theorem slices_Contains_int_int.calls (k:Nat) (A0:Option Addr) (c0:Nat) (l0:List Int) (a1:Int) (r:Bool) (w:World) (hr0:Kd.C (Kd.int .i64) w A0 l0.length l0) (hc0:l0.length ≤ c0) (h:slices_Contains_int_int.f k l0 a1 = some r) :
  Calls Try.prog 115 #[.slice A0 l0.length c0,.int .i64 a1] w fun e w'=>e = .returned (.bool r) ∧ Drawn0 w w':=by
 have HR0:=Aside0.mk hr0
 have HC0:=Aside0.mk hc0
 clear hr0 hc0
 have H:((slices_Index_int_int.f k l0 a1).bind fun t405=>(some (decide (t405 ≥ 0)))) = some r:=h
 clear h
 replace H:=Option.bind_eq_some_iff.mp H
 obtain ⟨t405,A30,H⟩:=H
 replace H:(some (decide (t405 ≥ 0))) = some r:=H
 have A3:=Aside0.mk A30
 clear A30
 obtain rfl:=Option.some.inj H
 go_enter Try.func115,Try.ntmps115
 go_wp2_with (first|((with_reducible refine gate_callee (f:=133) rfl ?_);refine goesL_ (some 7) rfl rfl Try.func133 (by kernel_rfl) rfl #[.slice A0 l0.length c0,.int .i64 a1] rfl Ya ?_;(with_reducible refine (slices_Index_int_int.calls k _ _ l0 a1 t405 _ ?side1 ?side2 A3.out).mono ?_);(case side1=>repeat (first|exact HR0.out|(with_reducible refine Kd.C_alloc ?_ _)|(with_reducible refine Kd.C_drewN ?_ _)|(with_reducible refine Kd.C_drew ?_)));(case side2=>exact HC0.out);rintro e w' ⟨rfl,⟨nd,rfl⟩⟩;refine ⟨_,rfl,?_⟩))
 go_ret
 exact ⟨by first|rfl|(simp;done)|(simp [*];done),by repeat (first|exact Drawn0.refl _|apply Drawn0.step)⟩

/-! ### slices_Grow_int_int: function 134 -/
def slices_Grow_int_int.f  (a1:Int):Option (List Int):=if a1 < 0 then (none) else (if (wrap64 (a1)) > 0 then (if 0 ≤ (wrap64 (a1)) then (if ([]:List Int).length + (wrap64 (a1):Int).toNat < 17592186044416 then ((some (([]:List Int) ++ List.replicate (wrap64 (a1):Int).toNat 0:List Int)).bind fun y406=>(if 0 ≤ (y406.length:Int) then (some (y406.take (0:Int).toNat)) else (none))) else (none)) else (none)) else (some ([]:List Int)))
set_option maxHeartbeats 8000000 in
set_option maxRecDepth 100000 in
theorem slices_Grow_int_int.calls  (a1:Int) (r:List Int) (w:World) (h:slices_Grow_int_int.f a1 = some r) :
  Calls Try.prog 134 #[.slice none 0 0,.int .i64 a1] w fun e w'=>∃ v0_:Value,e = .returned (v0_) ∧ Kd.R (Kd.int .i64) 3 w' w.heap.size (fun _=>True) v0_ r ∧ Below w.heap.size w w':=by
 have HB:=Aside0.mk (Below.refl w.heap.size w)
 have H:(if a1 < 0 then (none) else (if (wrap64 (a1)) > 0 then (if 0 ≤ (wrap64 (a1)) then (if ([]:List Int).length + (wrap64 (a1):Int).toNat < 17592186044416 then ((some (([]:List Int) ++ List.replicate (wrap64 (a1):Int).toNat 0:List Int)).bind fun y406=>(if 0 ≤ (y406.length:Int) then (some (y406.take (0:Int).toNat)) else (none))) else (none)) else (none)) else (some ([]:List Int)))) = some r:=h
 clear h
 by_cases c3:a1 < 0
 ·rw [if_pos c3] at H
  exact absurd H (by simp)
 ·rw [if_neg c3] at H
  have c3b0:decide (a1 < 0) = false:=decide_eq_false c3
  clear c3
  by_cases c4:(wrap64 (a1)) > 0
  ·rw [if_pos c4] at H
   have c4b0:decide (0 < (wrap64 (a1))) = true:=decide_eq_true c4
   clear c4
   obtain ⟨ji5,hji5⟩:∃ j_:Int,(wrap64 (a1)) = j_:=⟨_,rfl⟩
   replace H:(if 0 ≤ (ji5) then (if ([]:List Int).length + (ji5:Int).toNat < 17592186044416 then ((some (([]:List Int) ++ List.replicate (ji5:Int).toNat 0:List Int)).bind fun y406=>(if 0 ≤ (y406.length:Int) then (some (y406.take (0:Int).toNat)) else (none))) else (none)) else (none)) = some r:=by first|(rw [hji5] at H;exact H)|(simp only [hji5] at H ⊢;exact H)
   (try rw [hji5] at c4b0)
   have hji5w:(IntKind.i64.wrap (a1)) = ji5:=(i64_w _).trans hji5
   by_cases c6:0 ≤ (ji5)
   ·rw [if_pos c6] at H
    have c6b0:=eq_true c6
    have c6b1:=decide_eq_true c6
    clear c6
    by_cases c7:([]:List Int).length + (ji5:Int).toNat < 17592186044416
    ·rw [if_pos c7] at H
     have LMc7:=Aside0.mk c7
     clear c7
     obtain ⟨y406,hy406⟩:∃ y_:List Int,y_ = (([]:List Int) ++ List.replicate (ji5:Int).toNat 0):=⟨_,rfl⟩
     replace H:(if 0 ≤ (y406.length:Int) then (some (y406.take (0:Int).toNat)) else (none)) = some r:=by first|(rw [hy406];with_reducible exact H)|(have H2_:=(Option.bind_some _ _).symm.trans H;rw [hy406];with_reducible exact H2_)|(have H2_:=(Option.bind_some _ _).symm.trans H;with_reducible exact H2_)|with_reducible exact H|(rw [hy406];exact H)|exact H
     have Ny406:=Aside0.mk hy406
     clear hy406
     by_cases c8:0 ≤ (y406.length:Int)
     ·rw [if_pos c8] at H
      have c8b0:=eq_true c8
      have c8b1:=decide_eq_true c8
      clear c8
      obtain ⟨y409,hy409⟩:∃ y_:List Int,y_ = (y406.take (0:Int).toNat):=⟨_,rfl⟩
      replace H:(some y409) = some r:=by first|(rw [hy409];with_reducible exact H)|(have H2_:=(Option.bind_some _ _).symm.trans H;rw [hy409];with_reducible exact H2_)|(have H2_:=(Option.bind_some _ _).symm.trans H;with_reducible exact H2_)|with_reducible exact H|(rw [hy409];exact H)|exact H
      have Ny409:=Aside0.mk hy409
      clear hy409
      obtain rfl:=Option.some.inj H
      go_enter Try.func134,Try.ntmps134
      go_wp2_with (first|(at_builtin;refine Kd.R_append_zeros (Kd.int .i64) (w0:=w) w.heap.size rfl (.tmp 20) (.tmp 21) 22 3 3 (.int .i64 0) 8 rfl Try.underlying22 Try.underlying3 info3 rfl (by decide) (by first|decide|omega) (.slice none 0 0) ([]:List Int) 0 (ji5:Int) (fun _=>True) rfl rfl rfl ?aF ?aO (oD) ?aB ?aS ?aL ?_;(case aB=>exact bH);(case aF=>exact (fun _ _=>trivial));(case aO=>exact ((Kd.R_nil _ _ _ _ (fun _=>True))));(case aS=>exact (below_size bH));(case aL=>have:=LMc7.out;omega);intro v407 w9 ho hb hg hat;rw [← Ny406.out] at ho;replace HB:=Aside0.mk (hb);have HO408:=Aside0.mk (ho);clear ho hb hg hat;obtain ⟨Ao10,co10,eo10⟩:=Kd.R_slice HO408.out;subst eo10;have q11:(0:Int) ≤ ((y406.length:Int):Int):=oD;obtain ⟨i011,hi011,_,hsz11,_⟩:=info_parts info3;have hcut11:=cut_to (P:=Try.prog) 22 3 .i64 Try.underlying22 hi011 Ao10 y406.length co10 0 (by omega) q11 (Kd.R_reads' HO408.out).2.1;have hr11:=Kd.R_take (m:=(0:Int).toNat) HO408.out (by omega);have hy11:y409.length = (0:Int).toNat:=(by rw [Ny409.out,List.length_take];omega);rw [← Ny409.out] at hr11;rw [← hy11] at hr11 hcut11;clear hy11 hi011 hsz11 HO408;have HO411:=Aside0.mk hr11;clear hr11;replace q11:=eq_true q11))
      go_ret
      exact ⟨_,by first|rfl|(simp [errW_none,errW_some] <;> rfl)|(simp only [← hji5];first|rfl|(simp [errW_none,errW_some] <;> rfl))|(simp [*,errW_none,errW_some] <;> rfl),rR HO411,bH⟩
     ·rw [if_neg c8] at H
      exact absurd H (by simp)
    ·rw [if_neg c7] at H
     exact absurd H (by simp)
   ·rw [if_neg c6] at H
    exact absurd H (by simp)
  ·rw [if_neg c4] at H
   have c4b0:decide (0 < (wrap64 (a1))) = false:=decide_eq_false c4
   clear c4
   obtain rfl:=Option.some.inj H
   go_enter Try.func134,Try.ntmps134
   go_wp2
   go_ret
   exact ⟨_,by first|rfl|(simp [errW_none,errW_some] <;> rfl)|(simp [*,errW_none,errW_some] <;> rfl),by first|exact Kd.R_nil _ _ _ _ _|exact Kd.N_nil _ _ _ _ _|exact Kd.V_nil _ _ _ _ _|exact Kd.Q_nil _ _ _ _ _|exact Kd.S_nil _ _ _ _ _,bH⟩

end Go.Proofs.Ytlgnanbnicmdaab.QFnExactNormalClause
