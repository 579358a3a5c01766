-- Written by this session's own program (wip/x/xprint.py, over the kit's printer); Lean checks it.
import Derived.Test.YtlgnanbnicmdaaaQFnExactTrimStepsx0
namespace Go.Proofs.Ytlgnanbnicmdaaa.QFnExactTrimSteps
open Go.RowKit Go.Proofs.YtlgnanbnicmdaaaW.PrintWords Go.Proofs.YtlgnanbnicmdaaaW.PrintLast Go.Proofs.YtlgnanbnicmdaaaW.PrintMore
attribute [local go_sem] max2_int min2_int max_two min_two max_three min_three max_four min_four   -- for this text's walks alone
set_option linter.unusedVariables false
set_option linter.unusedSimpArgs false

/-! ### laws_heldIntS: function 27 -/
def laws_heldIntS.l0:Nat → List Int → Int → Int → Option (Int)
 | 0,_,_,_=>none
 | k + 1,x0,x1,x5=>if x5 < (x0.length:Int) then (if 0 ≤ x5 then (if (rd x0 x5) = x1 then (laws_heldIntS.l0 k x0 (wrap64 (x1 + 1)) (wrap64 (x5 + 1))) else (some (-1))) else (none)) else (some x1)
def laws_heldIntS.f (k:Nat) (l0:List Int) (a1:Int):Option (Int):=laws_heldIntS.l0 k l0 a1 0
theorem laws_heldIntS.mono_l:∀ k,(∀ y0 y1 y2,LeO (laws_heldIntS.l0 k y0 y1 y2) (laws_heldIntS.l0 (k + 1) y0 y1 y2))
 | 0=>fun _ _ _ r h=>by simp [laws_heldIntS.l0] at h
 | k + 1=>by
  have ih0:=laws_heldIntS.mono_l k
  ·intro y0 y1 y2
   unfold laws_heldIntS.l0
   repeat' first
   | (with_reducible exact ih0 _ _ _)
   | (with_reducible exact LeO.refl _)
   | (with_reducible exact LeO.none _)
   | (with_reducible refine LeO.ite ?_ ?_)
   | (with_reducible refine LeO.bind ?_ (fun _=>?_))
   | exact ih0 _ _ _
   | exact LeO.none _
   | refine LeO.ite ?_ ?_
   | refine LeO.bind ?_ (fun _=>?_)
theorem laws_heldIntS.mono:∀ a0 a1 k,LeO (laws_heldIntS.f k a0 a1) (laws_heldIntS.f (k + 1) a0 a1):=by
 intro a0 a1 k
 have ih0:=laws_heldIntS.mono_l k
 unfold laws_heldIntS.f
 repeat' first
   | (with_reducible exact ih0 _ _ _)
   | (with_reducible exact LeO.refl _)
   | (with_reducible exact LeO.none _)
   | (with_reducible refine LeO.ite ?_ ?_)
   | (with_reducible refine LeO.bind ?_ (fun _=>?_))
   | exact ih0 _ _ _
   | exact LeO.none _
   | refine LeO.ite ?_ ?_
   | refine LeO.bind ?_ (fun _=>?_)
set_option maxHeartbeats 8000000 in
set_option maxRecDepth 100000 in
theorem laws_heldIntS.calls (k:Nat) (A0:Option Addr) (c0:Nat) (l0:List Int) (a1:Int) (r:Int) (w:World) (hr0:Kd.C (Kd.int .i64) w A0 l0.length l0) (hc0:l0.length ≤ c0) (h:laws_heldIntS.f k l0 a1 = some r) :
  Calls Try.prog 27 #[.slice A0 l0.length c0,.int .i64 a1] w fun e w'=>e = .returned (.int .i64 r) ∧ Drawn0 w w':=by
 have HR0:=Aside0.mk hr0
 have HC0:=Aside0.mk hc0
 clear hr0 hc0
 have H:(laws_heldIntS.l0 k l0 a1 0) = some r:=h
 clear h
 have H':=Aside0.mk H
 clear H
 go_enter Try.func27,Try.ntmps27
 go_wp2
 go_loopg [1,5] k (fun kq v1 v5 w'=>∃ (x1_1:Int) (x5_1:Int),v1 = .int .i64 x1_1 ∧ v5 = .int .i64 x5_1 ∧ Aside0 (laws_heldIntS.l0 kq l0 x1_1 x5_1 = some r) ∧ Aside0 (kq ≤ k) ∧ Drawn0 w w')
 case atStart=>exact ⟨(a1),(0),(by first|rfl|(simp;done)|(simp [*];done)),(by first|rfl|(simp;done)|(simp [*];done)),H',⟨Nat.le_refl _⟩,by repeat (first|exact Drawn0.refl _|apply Drawn0.step)⟩
 case round =>
  clear H'
  try clear c2
  try clear p2
  obtain ⟨x1_1,x5_1,rfl,rfl,HA,HK1,⟨m1,rfl⟩⟩:=hrel
  cases gk with
  | zero=>exact absurd HA.out (by simp [laws_heldIntS.l0])
  | succ k1 =>
   have H:=HA.out
   clear HA
   simp only [laws_heldIntS.l0] at H
   by_cases c3:x5_1 < (l0.length:Int)
   ·rw [if_pos c3] at H
    have c3b0:decide (x5_1 < (l0.length:Int)) = true:=decide_eq_true c3
    clear c3
    by_cases c4:0 ≤ x5_1
    ·rw [if_pos c4] at H
     have c4b0:decide (0 ≤ x5_1) = true:=decide_eq_true c4
     clear c4
     by_cases c5:(rd l0 x5_1) = x1_1
     ·rw [if_pos c5] at H
      have c5b0:((rd l0 x5_1) == x1_1) = true:=beq_iff_eq.mpr c5
      have c5b1:((rd l0 x5_1) != x1_1) = false:=bne_eq_false_iff_eq.mpr c5
      clear c5
      have H':=Aside0.mk H
      clear H
      have p354:0 ≤ (x5_1:Int):=of_decide_eq_true (by first|(with_reducible assumption)|assumption)
      have q354:x5_1 < (l0.length:Int):=of_decide_eq_true (by first|(with_reducible assumption)|assumption)
      obtain ⟨ad354,e354,hx354_0⟩:=Kd.at_int HR0.out x5_1 p354 q354
      cases e354
      replace p354:=eq_true p354
      replace q354:=eq_true q354
      go_wp2
      go_roundg k1
      case measure=>have:=HK1.out;omega
      case rel=>exact ⟨(wrap64 (x1_1 + 1)),(wrap64 (x5_1 + 1)),(by first|rfl|(simp;done)|(simp [*];done)),(by first|rfl|(simp;done)|(simp [*];done)),H',⟨by have:=HK1.out;omega⟩,by repeat (first|exact Drawn0.refl _|apply Drawn0.step)⟩
     ·rw [if_neg c5] at H
      have c5b0:((rd l0 x5_1) == x1_1) = false:=beq_eq_false_iff_ne.mpr c5
      have c5b1:((rd l0 x5_1) != x1_1) = true:=bne_iff_ne.mpr c5
      obtain rfl:=Option.some.inj H
      have p354:0 ≤ (x5_1:Int):=of_decide_eq_true (by first|(with_reducible assumption)|assumption)
      have q354:x5_1 < (l0.length:Int):=of_decide_eq_true (by first|(with_reducible assumption)|assumption)
      obtain ⟨ad354,e354,hx354_0⟩:=Kd.at_int HR0.out x5_1 p354 q354
      cases e354
      replace p354:=eq_true p354
      replace q354:=eq_true q354
      go_wp2
      go_ret
      exact ⟨by first|rfl|(simp;done)|(simp [*];done),by repeat (first|exact Drawn0.refl _|apply Drawn0.step)⟩
    ·rw [if_neg c4] at H
     exact absurd H (by simp)
   ·rw [if_neg c3] at H
    have c3b0:decide (x5_1 < (l0.length:Int)) = false:=decide_eq_false c3
    clear c3
    obtain rfl:=Option.some.inj H
    go_wp2
    go_ret
    exact ⟨by first|rfl|(simp;done)|(simp [*];done),by repeat (first|exact Drawn0.refl _|apply Drawn0.step)⟩

/-! ### laws_heldLitS: function 81 -/
def laws_heldLitS.l0:Nat → List (S72) → Int → Int → Option (Int)
 | 0,_,_,_=>none
 | k + 1,x0,x1,x5=>if x5 < (x0.length:Int) then (if 0 ≤ x5 then (if (((rd_T72 x0 x5).f0) != ((Int.tmod x1 3) == 0)) = true then (some (-1)) else ((laws_heldIntS.f k ((rd_T72 x0 x5).f1) (wrap64 (x1 + 1))).bind fun t357=>(if t357 < 0 then (some (-1)) else ((laws_heldIntS.f k ((rd_T72 x0 x5).f2) t357).bind fun t359=>(if t359 < 0 then (some (-1)) else (laws_heldLitS.l0 k x0 t359 (wrap64 (x5 + 1)))))))) else (none)) else (some x1)
def laws_heldLitS.f (k:Nat) (l0:List (S72)) (a1:Int):Option (Int):=laws_heldLitS.l0 k l0 a1 0
theorem laws_heldLitS.mono_l:∀ k,(∀ y0 y1 y2,LeO (laws_heldLitS.l0 k y0 y1 y2) (laws_heldLitS.l0 (k + 1) y0 y1 y2))
 | 0=>fun _ _ _ r h=>by simp [laws_heldLitS.l0] at h
 | k + 1=>by
  have ih0:=laws_heldLitS.mono_l k
  ·intro y0 y1 y2
   unfold laws_heldLitS.l0
   repeat' first
   | (with_reducible exact ih0 _ _ _)
   | (with_reducible exact laws_heldIntS.mono _ _ _)
   | (with_reducible exact LeO.refl _)
   | (with_reducible exact LeO.none _)
   | (with_reducible refine LeO.ite ?_ ?_)
   | (with_reducible refine LeO.bind ?_ (fun _=>?_))
   | exact ih0 _ _ _
   | exact laws_heldIntS.mono _ _ _
   | exact LeO.none _
   | refine LeO.ite ?_ ?_
   | refine LeO.bind ?_ (fun _=>?_)
theorem laws_heldLitS.mono:∀ a0 a1 k,LeO (laws_heldLitS.f k a0 a1) (laws_heldLitS.f (k + 1) a0 a1):=by
 intro a0 a1 k
 have ih0:=laws_heldLitS.mono_l k
 unfold laws_heldLitS.f
 repeat' first
   | (with_reducible exact ih0 _ _ _)
   | (with_reducible exact laws_heldIntS.mono _ _ _)
   | (with_reducible exact LeO.refl _)
   | (with_reducible exact LeO.none _)
   | (with_reducible refine LeO.ite ?_ ?_)
   | (with_reducible refine LeO.bind ?_ (fun _=>?_))
   | exact ih0 _ _ _
   | exact laws_heldIntS.mono _ _ _
   | exact LeO.none _
   | refine LeO.ite ?_ ?_
   | refine LeO.bind ?_ (fun _=>?_)
set_option maxHeartbeats 8000000 in
set_option maxRecDepth 100000 in
theorem laws_heldLitS.calls (k:Nat) (A0:Option Addr) (c0:Nat) (l0:List (S72)) (a1:Int) (r:Int) (w:World) (hr0:Kd.C k72 w A0 l0.length l0) (hc0:l0.length ≤ c0) (h:laws_heldLitS.f k l0 a1 = some r) :
  Calls Try.prog 81 #[.slice A0 l0.length c0,.int .i64 a1] w fun e w'=>e = .returned (.int .i64 r) ∧ Drawn0 w w':=by
 have HR0:=Aside0.mk hr0
 have HC0:=Aside0.mk hc0
 clear hr0 hc0
 have H:(laws_heldLitS.l0 k l0 a1 0) = some r:=h
 clear h
 have H':=Aside0.mk H
 clear H
 go_enter Try.func81,Try.ntmps81
 go_wp2
 go_loopg [1,5] k (fun kq v1 v5 w'=>∃ (x1_1:Int) (x5_1:Int),v1 = .int .i64 x1_1 ∧ v5 = .int .i64 x5_1 ∧ Aside0 (laws_heldLitS.l0 kq l0 x1_1 x5_1 = some r) ∧ Aside0 (kq ≤ k) ∧ Drawn0 w w')
 case atStart=>exact ⟨(a1),(0),(by first|rfl|(simp;done)|(simp [*];done)),(by first|rfl|(simp;done)|(simp [*];done)),H',⟨Nat.le_refl _⟩,by repeat (first|exact Drawn0.refl _|apply Drawn0.step)⟩
 case round =>
  clear H'
  try clear p2
  obtain ⟨x1_1,x5_1,rfl,rfl,HA,HK1,⟨m1,rfl⟩⟩:=hrel
  cases gk with
  | zero=>exact absurd HA.out (by simp [laws_heldLitS.l0])
  | succ k1 =>
   have H:=HA.out
   clear HA
   simp only [laws_heldLitS.l0] at H
   by_cases c3:x5_1 < (l0.length:Int)
   ·rw [if_pos c3] at H
    have c3b0:decide (x5_1 < (l0.length:Int)) = true:=decide_eq_true c3
    clear c3
    by_cases c4:0 ≤ x5_1
    ·rw [if_pos c4] at H
     have c4b0:decide (0 ≤ x5_1) = true:=decide_eq_true c4
     clear c4
     by_cases c5:(((rd_T72 l0 x5_1).f0) != ((Int.tmod x1_1 3) == 0)) = true
     ·rw [if_pos c5] at H
      have c5b0:(((rd_T72 l0 x5_1).f0) != ((Int.tmod x1_1 3) == 0)) = true:=c5
      (try (have c5b1:decide (((rd_T72 l0 x5_1).f0) = ((Int.tmod x1_1 3) == 0)) = false:=by simpa using c5))
      (try (have c5b2:(((rd_T72 l0 x5_1).f0) == ((Int.tmod x1_1 3) == 0)) = false:=by simpa using c5))
      (try (have c5b3:¬ (((rd_T72 l0 x5_1).f0) = ((Int.tmod x1_1 3) == 0)):=by simpa using c5))
      clear c5
      obtain rfl:=Option.some.inj H
      have p355:0 ≤ (x5_1:Int):=of_decide_eq_true (by first|(with_reducible assumption)|assumption)
      have q355:x5_1 < (l0.length:Int):=of_decide_eq_true (by first|(with_reducible assumption)|assumption)
      obtain ⟨ad355,A355_1,c355_1,A355_2,c355_2,e355,hx355_0,hx355_1,hx355_2,hl355_1,hi355_1,hl355_2,hi355_2⟩:=at_T72 HR0.out x5_1 p355 q355
      cases e355
      have HR355_1:=Aside0.mk hi355_1
      have HC355_1:=Aside0.mk hl355_1
      clear hi355_1 hl355_1
      have HR355_2:=Aside0.mk hi355_2
      have HC355_2:=Aside0.mk hl355_2
      clear hi355_2 hl355_2
      replace p355:=eq_true p355
      replace q355:=eq_true q355
      go_wp2
      go_ret
      exact ⟨by first|rfl|(simp;done)|(simp [*];done),by repeat (first|exact Drawn0.refl _|apply Drawn0.step)⟩
     ·rw [if_neg c5] at H
      have c5b0:(((rd_T72 l0 x5_1).f0) != ((Int.tmod x1_1 3) == 0)) = false:=by simpa using c5
      (try (have c5b1:decide (((rd_T72 l0 x5_1).f0) = ((Int.tmod x1_1 3) == 0)) = true:=by simpa using c5))
      (try (have c5b2:(((rd_T72 l0 x5_1).f0) == ((Int.tmod x1_1 3) == 0)) = true:=by simpa using c5))
      clear c5
      replace H:=Option.bind_eq_some_iff.mp H
      obtain ⟨t357,A60,H⟩:=H
      replace H:(if t357 < 0 then (some (-1)) else ((laws_heldIntS.f k1 ((rd_T72 l0 x5_1).f2) t357).bind fun t359=>(if t359 < 0 then (some (-1)) else (laws_heldLitS.l0 k1 l0 t359 (wrap64 (x5_1 + 1)))))) = some r:=H
      have A6:=Aside0.mk A60
      clear A60
      by_cases c7:t357 < 0
      ·rw [if_pos c7] at H
       have c7b0:decide (t357 < 0) = true:=decide_eq_true c7
       clear c7
       obtain rfl:=Option.some.inj H
       have p355:0 ≤ (x5_1:Int):=of_decide_eq_true (by first|(with_reducible assumption)|assumption)
       have q355:x5_1 < (l0.length:Int):=of_decide_eq_true (by first|(with_reducible assumption)|assumption)
       obtain ⟨ad355,A355_1,c355_1,A355_2,c355_2,e355,hx355_0,hx355_1,hx355_2,hl355_1,hi355_1,hl355_2,hi355_2⟩:=at_T72 HR0.out x5_1 p355 q355
       cases e355
       have HR355_1:=Aside0.mk hi355_1
       have HC355_1:=Aside0.mk hl355_1
       clear hi355_1 hl355_1
       have HR355_2:=Aside0.mk hi355_2
       have HC355_2:=Aside0.mk hl355_2
       clear hi355_2 hl355_2
       replace p355:=eq_true p355
       replace q355:=eq_true q355
       have p356:0 ≤ (x5_1:Int):=of_decide_eq_true (by first|(with_reducible assumption)|assumption)
       have q356:x5_1 < (l0.length:Int):=of_decide_eq_true (by first|(with_reducible assumption)|assumption)
       obtain ⟨ad356,A356_1,c356_1,A356_2,c356_2,e356,hx356_0,hx356_1,hx356_2,hl356_1,hi356_1,hl356_2,hi356_2⟩:=at_T72 HR0.out x5_1 p356 q356
       obtain rfl:ad355 = ad356:=(by injection e356)
       have HR356_1:=Aside0.mk hi356_1
       have HC356_1:=Aside0.mk hl356_1
       clear hi356_1 hl356_1
       have HR356_2:=Aside0.mk hi356_2
       have HC356_2:=Aside0.mk hl356_2
       clear hi356_2 hl356_2
       replace p356:=eq_true p356
       replace q356:=eq_true q356
       have ea_:=Option.some.inj (hx355_1.symm.trans hx356_1)
       injection ea_ with ea_ en_ ec_
       subst ea_
       subst ec_
       clear en_
       have ea_:=Option.some.inj (hx355_2.symm.trans hx356_2)
       injection ea_ with ea_ en_ ec_
       subst ea_
       subst ec_
       clear en_
       go_wp2_with (first|((with_reducible refine gate_callee (f:=27) rfl ?_);refine goesL_ (some 29) rfl rfl Try.func27 (by kernel_rfl) rfl #[.slice A355_1 ((rd_T72 l0 x5_1).f1).length c355_1,.int .i64 (wrap64 (x1_1 + 1))] rfl (by (try simp only [List.map_toArray,List.map_cons,List.map_nil]);first|done|rfl|(simp only [List.length_drop,List.length_take];rfl)) ?_;(with_reducible refine (laws_heldIntS.calls k1 _ _ ((rd_T72 l0 x5_1).f1) (wrap64 (x1_1 + 1)) t357 _ ?side1 ?side2 A6.out).mono ?_);(case side1=>repeat (first|exact HR356_1.out|(with_reducible refine Kd.C_alloc ?_ _)|(with_reducible refine Kd.C_drewN ?_ _)|(with_reducible refine Kd.C_drew ?_)));(case side2=>exact HC356_1.out);rintro e w' ⟨rfl,⟨nd,rfl⟩⟩;refine ⟨_,rfl,?_⟩))
       go_ret
       exact ⟨by first|rfl|(simp;done)|(simp [*];done),by repeat (first|exact Drawn0.refl _|apply Drawn0.step)⟩
      ·rw [if_neg c7] at H
       have c7b0:decide (t357 < 0) = false:=decide_eq_false c7
       clear c7
       replace H:=Option.bind_eq_some_iff.mp H
       obtain ⟨t359,A80,H⟩:=H
       replace H:(if t359 < 0 then (some (-1)) else (laws_heldLitS.l0 k1 l0 t359 (wrap64 (x5_1 + 1)))) = some r:=H
       have A8:=Aside0.mk A80
       clear A80
       by_cases c9:t359 < 0
       ·rw [if_pos c9] at H
        have c9b0:decide (t359 < 0) = true:=decide_eq_true c9
        clear c9
        obtain rfl:=Option.some.inj H
        have p355:0 ≤ (x5_1:Int):=of_decide_eq_true (by first|(with_reducible assumption)|assumption)
        have q355:x5_1 < (l0.length:Int):=of_decide_eq_true (by first|(with_reducible assumption)|assumption)
        obtain ⟨ad355,A355_1,c355_1,A355_2,c355_2,e355,hx355_0,hx355_1,hx355_2,hl355_1,hi355_1,hl355_2,hi355_2⟩:=at_T72 HR0.out x5_1 p355 q355
        cases e355
        have HR355_1:=Aside0.mk hi355_1
        have HC355_1:=Aside0.mk hl355_1
        clear hi355_1 hl355_1
        have HR355_2:=Aside0.mk hi355_2
        have HC355_2:=Aside0.mk hl355_2
        clear hi355_2 hl355_2
        replace p355:=eq_true p355
        replace q355:=eq_true q355
        have p356:0 ≤ (x5_1:Int):=of_decide_eq_true (by first|(with_reducible assumption)|assumption)
        have q356:x5_1 < (l0.length:Int):=of_decide_eq_true (by first|(with_reducible assumption)|assumption)
        obtain ⟨ad356,A356_1,c356_1,A356_2,c356_2,e356,hx356_0,hx356_1,hx356_2,hl356_1,hi356_1,hl356_2,hi356_2⟩:=at_T72 HR0.out x5_1 p356 q356
        obtain rfl:ad355 = ad356:=(by injection e356)
        have HR356_1:=Aside0.mk hi356_1
        have HC356_1:=Aside0.mk hl356_1
        clear hi356_1 hl356_1
        have HR356_2:=Aside0.mk hi356_2
        have HC356_2:=Aside0.mk hl356_2
        clear hi356_2 hl356_2
        replace p356:=eq_true p356
        replace q356:=eq_true q356
        have ea_:=Option.some.inj (hx355_1.symm.trans hx356_1)
        injection ea_ with ea_ en_ ec_
        subst ea_
        subst ec_
        clear en_
        have ea_:=Option.some.inj (hx355_2.symm.trans hx356_2)
        injection ea_ with ea_ en_ ec_
        subst ea_
        subst ec_
        clear en_
        go_wp2_with (first|((with_reducible refine gate_callee (f:=27) rfl ?_);refine goesL_ (some 29) rfl rfl Try.func27 (by kernel_rfl) rfl #[.slice A355_1 ((rd_T72 l0 x5_1).f1).length c355_1,.int .i64 (wrap64 (x1_1 + 1))] rfl (by (try simp only [List.map_toArray,List.map_cons,List.map_nil]);first|done|rfl|(simp only [List.length_drop,List.length_take];rfl)) ?_;(with_reducible refine (laws_heldIntS.calls k1 _ _ ((rd_T72 l0 x5_1).f1) (wrap64 (x1_1 + 1)) t357 _ ?side1 ?side2 A6.out).mono ?_);(case side1=>repeat (first|exact HR356_1.out|(with_reducible refine Kd.C_alloc ?_ _)|(with_reducible refine Kd.C_drewN ?_ _)|(with_reducible refine Kd.C_drew ?_)));(case side2=>exact HC356_1.out);rintro e w' ⟨rfl,⟨nd,rfl⟩⟩;refine ⟨_,rfl,?_⟩;have p358:0 ≤ (x5_1:Int):=of_decide_eq_true (by first|(with_reducible assumption)|assumption);have q358:x5_1 < (l0.length:Int):=of_decide_eq_true (by first|(with_reducible assumption)|assumption);obtain ⟨ad358,A358_1,c358_1,A358_2,c358_2,e358,hx358_0,hx358_1,hx358_2,hl358_1,hi358_1,hl358_2,hi358_2⟩:=at_T72 HR0.out x5_1 p358 q358;obtain rfl:ad355 = ad358:=(by injection e358);have HR358_1:=Aside0.mk hi358_1;have HC358_1:=Aside0.mk hl358_1;clear hi358_1 hl358_1;have HR358_2:=Aside0.mk hi358_2;have HC358_2:=Aside0.mk hl358_2;clear hi358_2 hl358_2;replace p358:=eq_true p358;replace q358:=eq_true q358;have ea_:=Option.some.inj (hx355_1.symm.trans hx358_1);injection ea_ with ea_ en_ ec_;subst ea_;subst ec_;clear en_;have ea_:=Option.some.inj (hx355_2.symm.trans hx358_2);injection ea_ with ea_ en_ ec_;subst ea_;subst ec_;clear en_)|((with_reducible refine gate_callee (f:=27) rfl ?_);refine goesL_ (some 38) rfl rfl Try.func27 (by kernel_rfl) rfl #[.slice A355_2 ((rd_T72 l0 x5_1).f2).length c355_2,.int .i64 t357] rfl (by (try simp only [List.map_toArray,List.map_cons,List.map_nil]);first|done|rfl|(simp only [List.length_drop,List.length_take];rfl)) ?_;(with_reducible refine (laws_heldIntS.calls k1 _ _ ((rd_T72 l0 x5_1).f2) t357 t359 _ ?side1 ?side2 A8.out).mono ?_);(case side1=>repeat (first|exact HR358_2.out|(with_reducible refine Kd.C_alloc ?_ _)|(with_reducible refine Kd.C_drewN ?_ _)|(with_reducible refine Kd.C_drew ?_)));(case side2=>exact HC358_2.out);rintro e w' ⟨rfl,⟨nd,rfl⟩⟩;refine ⟨_,rfl,?_⟩))
        go_ret
        exact ⟨by first|rfl|(simp;done)|(simp [*];done),by repeat (first|exact Drawn0.refl _|apply Drawn0.step)⟩
       ·rw [if_neg c9] at H
        have c9b0:decide (t359 < 0) = false:=decide_eq_false c9
        clear c9
        have H':=Aside0.mk H
        clear H
        have p355:0 ≤ (x5_1:Int):=of_decide_eq_true (by first|(with_reducible assumption)|assumption)
        have q355:x5_1 < (l0.length:Int):=of_decide_eq_true (by first|(with_reducible assumption)|assumption)
        obtain ⟨ad355,A355_1,c355_1,A355_2,c355_2,e355,hx355_0,hx355_1,hx355_2,hl355_1,hi355_1,hl355_2,hi355_2⟩:=at_T72 HR0.out x5_1 p355 q355
        cases e355
        have HR355_1:=Aside0.mk hi355_1
        have HC355_1:=Aside0.mk hl355_1
        clear hi355_1 hl355_1
        have HR355_2:=Aside0.mk hi355_2
        have HC355_2:=Aside0.mk hl355_2
        clear hi355_2 hl355_2
        replace p355:=eq_true p355
        replace q355:=eq_true q355
        have p356:0 ≤ (x5_1:Int):=of_decide_eq_true (by first|(with_reducible assumption)|assumption)
        have q356:x5_1 < (l0.length:Int):=of_decide_eq_true (by first|(with_reducible assumption)|assumption)
        obtain ⟨ad356,A356_1,c356_1,A356_2,c356_2,e356,hx356_0,hx356_1,hx356_2,hl356_1,hi356_1,hl356_2,hi356_2⟩:=at_T72 HR0.out x5_1 p356 q356
        obtain rfl:ad355 = ad356:=(by injection e356)
        have HR356_1:=Aside0.mk hi356_1
        have HC356_1:=Aside0.mk hl356_1
        clear hi356_1 hl356_1
        have HR356_2:=Aside0.mk hi356_2
        have HC356_2:=Aside0.mk hl356_2
        clear hi356_2 hl356_2
        replace p356:=eq_true p356
        replace q356:=eq_true q356
        have ea_:=Option.some.inj (hx355_1.symm.trans hx356_1)
        injection ea_ with ea_ en_ ec_
        subst ea_
        subst ec_
        clear en_
        have ea_:=Option.some.inj (hx355_2.symm.trans hx356_2)
        injection ea_ with ea_ en_ ec_
        subst ea_
        subst ec_
        clear en_
        go_wp2_with (first|((with_reducible refine gate_callee (f:=27) rfl ?_);refine goesL_ (some 29) rfl rfl Try.func27 (by kernel_rfl) rfl #[.slice A355_1 ((rd_T72 l0 x5_1).f1).length c355_1,.int .i64 (wrap64 (x1_1 + 1))] rfl (by (try simp only [List.map_toArray,List.map_cons,List.map_nil]);first|done|rfl|(simp only [List.length_drop,List.length_take];rfl)) ?_;(with_reducible refine (laws_heldIntS.calls k1 _ _ ((rd_T72 l0 x5_1).f1) (wrap64 (x1_1 + 1)) t357 _ ?side1 ?side2 A6.out).mono ?_);(case side1=>repeat (first|exact HR356_1.out|(with_reducible refine Kd.C_alloc ?_ _)|(with_reducible refine Kd.C_drewN ?_ _)|(with_reducible refine Kd.C_drew ?_)));(case side2=>exact HC356_1.out);rintro e w' ⟨rfl,⟨nd,rfl⟩⟩;refine ⟨_,rfl,?_⟩;have p358:0 ≤ (x5_1:Int):=of_decide_eq_true (by first|(with_reducible assumption)|assumption);have q358:x5_1 < (l0.length:Int):=of_decide_eq_true (by first|(with_reducible assumption)|assumption);obtain ⟨ad358,A358_1,c358_1,A358_2,c358_2,e358,hx358_0,hx358_1,hx358_2,hl358_1,hi358_1,hl358_2,hi358_2⟩:=at_T72 HR0.out x5_1 p358 q358;obtain rfl:ad355 = ad358:=(by injection e358);have HR358_1:=Aside0.mk hi358_1;have HC358_1:=Aside0.mk hl358_1;clear hi358_1 hl358_1;have HR358_2:=Aside0.mk hi358_2;have HC358_2:=Aside0.mk hl358_2;clear hi358_2 hl358_2;replace p358:=eq_true p358;replace q358:=eq_true q358;have ea_:=Option.some.inj (hx355_1.symm.trans hx358_1);injection ea_ with ea_ en_ ec_;subst ea_;subst ec_;clear en_;have ea_:=Option.some.inj (hx355_2.symm.trans hx358_2);injection ea_ with ea_ en_ ec_;subst ea_;subst ec_;clear en_)|((with_reducible refine gate_callee (f:=27) rfl ?_);refine goesL_ (some 38) rfl rfl Try.func27 (by kernel_rfl) rfl #[.slice A355_2 ((rd_T72 l0 x5_1).f2).length c355_2,.int .i64 t357] rfl (by (try simp only [List.map_toArray,List.map_cons,List.map_nil]);first|done|rfl|(simp only [List.length_drop,List.length_take];rfl)) ?_;(with_reducible refine (laws_heldIntS.calls k1 _ _ ((rd_T72 l0 x5_1).f2) t357 t359 _ ?side1 ?side2 A8.out).mono ?_);(case side1=>repeat (first|exact HR358_2.out|(with_reducible refine Kd.C_alloc ?_ _)|(with_reducible refine Kd.C_drewN ?_ _)|(with_reducible refine Kd.C_drew ?_)));(case side2=>exact HC358_2.out);rintro e w' ⟨rfl,⟨nd,rfl⟩⟩;refine ⟨_,rfl,?_⟩))
        go_roundg k1
        case measure=>have:=HK1.out;omega
        case rel=>exact ⟨(t359),(wrap64 (x5_1 + 1)),(by first|rfl|(simp;done)|(simp [*];done)),(by first|rfl|(simp;done)|(simp [*];done)),H',⟨by have:=HK1.out;omega⟩,by repeat (first|exact Drawn0.refl _|apply Drawn0.step)⟩
    ·rw [if_neg c4] at H
     exact absurd H (by simp)
   ·rw [if_neg c3] at H
    have c3b0:decide (x5_1 < (l0.length:Int)) = false:=decide_eq_false c3
    clear c3
    obtain rfl:=Option.some.inj H
    go_wp2
    go_ret
    exact ⟨by first|rfl|(simp;done)|(simp [*];done),by repeat (first|exact Drawn0.refl _|apply Drawn0.step)⟩

/-! ### laws_heldStepS: function 43 -/
def laws_heldStepS.l0:Nat → List (S83) → Int → Int → Option (Int)
 | 0,_,_,_=>none
 | k + 1,x0,x1,x5=>if x5 < (x0.length:Int) then (if 0 ≤ x5 then (if ((rd_T83 x0 x5).f0) = x1 then ((laws_heldIntS.f k ((rd_T83 x0 x5).f1) (wrap64 (x1 + 1))).bind fun t362=>(if t362 < 0 then (some (-1)) else ((laws_heldIntS.f k ((rd_T83 x0 x5).f2) t362).bind fun t364=>(if t364 < 0 then (some (-1)) else ((laws_heldLitS.f k ((rd_T83 x0 x5).f3) t364).bind fun t366=>(if t366 < 0 then (some (-1)) else (laws_heldStepS.l0 k x0 t366 (wrap64 (x5 + 1))))))))) else (some (-1))) else (none)) else (some x1)
def laws_heldStepS.f (k:Nat) (l0:List (S83)) (a1:Int):Option (Int):=laws_heldStepS.l0 k l0 a1 0
theorem laws_heldStepS.mono_l:∀ k,(∀ y0 y1 y2,LeO (laws_heldStepS.l0 k y0 y1 y2) (laws_heldStepS.l0 (k + 1) y0 y1 y2))
 | 0=>fun _ _ _ r h=>by simp [laws_heldStepS.l0] at h
 | k + 1=>by
  have ih0:=laws_heldStepS.mono_l k
  ·intro y0 y1 y2
   unfold laws_heldStepS.l0
   repeat' first
   | (with_reducible exact ih0 _ _ _)
   | (with_reducible exact laws_heldIntS.mono _ _ _)
   | (with_reducible exact laws_heldLitS.mono _ _ _)
   | (with_reducible exact LeO.refl _)
   | (with_reducible exact LeO.none _)
   | (with_reducible refine LeO.ite ?_ ?_)
   | (with_reducible refine LeO.bind ?_ (fun _=>?_))
   | exact ih0 _ _ _
   | exact laws_heldIntS.mono _ _ _
   | exact laws_heldLitS.mono _ _ _
   | exact LeO.none _
   | refine LeO.ite ?_ ?_
   | refine LeO.bind ?_ (fun _=>?_)
theorem laws_heldStepS.mono:∀ a0 a1 k,LeO (laws_heldStepS.f k a0 a1) (laws_heldStepS.f (k + 1) a0 a1):=by
 intro a0 a1 k
 have ih0:=laws_heldStepS.mono_l k
 unfold laws_heldStepS.f
 repeat' first
   | (with_reducible exact ih0 _ _ _)
   | (with_reducible exact laws_heldIntS.mono _ _ _)
   | (with_reducible exact laws_heldLitS.mono _ _ _)
   | (with_reducible exact LeO.refl _)
   | (with_reducible exact LeO.none _)
   | (with_reducible refine LeO.ite ?_ ?_)
   | (with_reducible refine LeO.bind ?_ (fun _=>?_))
   | exact ih0 _ _ _
   | exact laws_heldIntS.mono _ _ _
   | exact laws_heldLitS.mono _ _ _
   | exact LeO.none _
   | refine LeO.ite ?_ ?_
   | refine LeO.bind ?_ (fun _=>?_)
set_option maxHeartbeats 8000000 in
set_option maxRecDepth 100000 in
theorem laws_heldStepS.calls (k:Nat) (A0:Option Addr) (c0:Nat) (l0:List (S83)) (a1:Int) (r:Int) (w:World) (hr0:Kd.C k83 w A0 l0.length l0) (hc0:l0.length ≤ c0) (h:laws_heldStepS.f k l0 a1 = some r) :
  Calls Try.prog 43 #[.slice A0 l0.length c0,.int .i64 a1] w fun e w'=>e = .returned (.int .i64 r) ∧ Drawn0 w w':=by
 have HR0:=Aside0.mk hr0
 have HC0:=Aside0.mk hc0
 clear hr0 hc0
 have H:(laws_heldStepS.l0 k l0 a1 0) = some r:=h
 clear h
 have H':=Aside0.mk H
 clear H
 go_enter Try.func43,Try.ntmps43
 go_wp2
 go_loopg [1,5] k (fun kq v1 v5 w'=>∃ (x1_1:Int) (x5_1:Int),v1 = .int .i64 x1_1 ∧ v5 = .int .i64 x5_1 ∧ Aside0 (laws_heldStepS.l0 kq l0 x1_1 x5_1 = some r) ∧ Aside0 (kq ≤ k) ∧ Drawn0 w w')
 case atStart=>exact ⟨(a1),(0),(by first|rfl|(simp;done)|(simp [*];done)),(by first|rfl|(simp;done)|(simp [*];done)),H',⟨Nat.le_refl _⟩,by repeat (first|exact Drawn0.refl _|apply Drawn0.step)⟩
 case round =>
  clear H'
  try clear p2
  obtain ⟨x1_1,x5_1,rfl,rfl,HA,HK1,⟨m1,rfl⟩⟩:=hrel
  cases gk with
  | zero=>exact absurd HA.out (by simp [laws_heldStepS.l0])
  | succ k1 =>
   have H:=HA.out
   clear HA
   simp only [laws_heldStepS.l0] at H
   by_cases c3:x5_1 < (l0.length:Int)
   ·rw [if_pos c3] at H
    have c3b0:decide (x5_1 < (l0.length:Int)) = true:=decide_eq_true c3
    clear c3
    by_cases c4:0 ≤ x5_1
    ·rw [if_pos c4] at H
     have c4b0:decide (0 ≤ x5_1) = true:=decide_eq_true c4
     clear c4
     by_cases c5:((rd_T83 l0 x5_1).f0) = x1_1
     ·rw [if_pos c5] at H
      have c5b0:(((rd_T83 l0 x5_1).f0) == x1_1) = true:=beq_iff_eq.mpr c5
      have c5b1:(((rd_T83 l0 x5_1).f0) != x1_1) = false:=bne_eq_false_iff_eq.mpr c5
      clear c5
      replace H:=Option.bind_eq_some_iff.mp H
      obtain ⟨t362,A60,H⟩:=H
      replace H:(if t362 < 0 then (some (-1)) else ((laws_heldIntS.f k1 ((rd_T83 l0 x5_1).f2) t362).bind fun t364=>(if t364 < 0 then (some (-1)) else ((laws_heldLitS.f k1 ((rd_T83 l0 x5_1).f3) t364).bind fun t366=>(if t366 < 0 then (some (-1)) else (laws_heldStepS.l0 k1 l0 t366 (wrap64 (x5_1 + 1)))))))) = some r:=H
      have A6:=Aside0.mk A60
      clear A60
      by_cases c7:t362 < 0
      ·rw [if_pos c7] at H
       have c7b0:decide (t362 < 0) = true:=decide_eq_true c7
       clear c7
       obtain rfl:=Option.some.inj H
       have p360:0 ≤ (x5_1:Int):=of_decide_eq_true (by first|(with_reducible assumption)|assumption)
       have q360:x5_1 < (l0.length:Int):=of_decide_eq_true (by first|(with_reducible assumption)|assumption)
       obtain ⟨ad360,A360_1,c360_1,A360_2,c360_2,A360_3,c360_3,e360,hx360_0,hx360_1,hx360_2,hx360_3,hl360_1,hi360_1,hl360_2,hi360_2,hl360_3,hi360_3⟩:=at_T83 HR0.out x5_1 p360 q360
       cases e360
       have HR360_1:=Aside0.mk hi360_1
       have HC360_1:=Aside0.mk hl360_1
       clear hi360_1 hl360_1
       have HR360_2:=Aside0.mk hi360_2
       have HC360_2:=Aside0.mk hl360_2
       clear hi360_2 hl360_2
       have HR360_3:=Aside0.mk hi360_3
       have HC360_3:=Aside0.mk hl360_3
       clear hi360_3 hl360_3
       replace p360:=eq_true p360
       replace q360:=eq_true q360
       have p361:0 ≤ (x5_1:Int):=of_decide_eq_true (by first|(with_reducible assumption)|assumption)
       have q361:x5_1 < (l0.length:Int):=of_decide_eq_true (by first|(with_reducible assumption)|assumption)
       obtain ⟨ad361,A361_1,c361_1,A361_2,c361_2,A361_3,c361_3,e361,hx361_0,hx361_1,hx361_2,hx361_3,hl361_1,hi361_1,hl361_2,hi361_2,hl361_3,hi361_3⟩:=at_T83 HR0.out x5_1 p361 q361
       obtain rfl:ad360 = ad361:=(by injection e361)
       have HR361_1:=Aside0.mk hi361_1
       have HC361_1:=Aside0.mk hl361_1
       clear hi361_1 hl361_1
       have HR361_2:=Aside0.mk hi361_2
       have HC361_2:=Aside0.mk hl361_2
       clear hi361_2 hl361_2
       have HR361_3:=Aside0.mk hi361_3
       have HC361_3:=Aside0.mk hl361_3
       clear hi361_3 hl361_3
       replace p361:=eq_true p361
       replace q361:=eq_true q361
       have ea_:=Option.some.inj (hx360_1.symm.trans hx361_1)
       injection ea_ with ea_ en_ ec_
       subst ea_
       subst ec_
       clear en_
       have ea_:=Option.some.inj (hx360_2.symm.trans hx361_2)
       injection ea_ with ea_ en_ ec_
       subst ea_
       subst ec_
       clear en_
       have ea_:=Option.some.inj (hx360_3.symm.trans hx361_3)
       injection ea_ with ea_ en_ ec_
       subst ea_
       subst ec_
       clear en_
       go_wp2_with (first|((with_reducible refine gate_callee (f:=27) rfl ?_);refine goesL_ (some 27) rfl rfl Try.func27 (by kernel_rfl) rfl #[.slice A360_1 ((rd_T83 l0 x5_1).f1).length c360_1,.int .i64 (wrap64 (x1_1 + 1))] rfl (by (try simp only [List.map_toArray,List.map_cons,List.map_nil]);first|done|rfl|(simp only [List.length_drop,List.length_take];rfl)) ?_;(with_reducible refine (laws_heldIntS.calls k1 _ _ ((rd_T83 l0 x5_1).f1) (wrap64 (x1_1 + 1)) t362 _ ?side1 ?side2 A6.out).mono ?_);(case side1=>repeat (first|exact HR361_1.out|(with_reducible refine Kd.C_alloc ?_ _)|(with_reducible refine Kd.C_drewN ?_ _)|(with_reducible refine Kd.C_drew ?_)));(case side2=>exact HC361_1.out);rintro e w' ⟨rfl,⟨nd,rfl⟩⟩;refine ⟨_,rfl,?_⟩))
       go_ret
       exact ⟨by first|rfl|(simp;done)|(simp [*];done),by repeat (first|exact Drawn0.refl _|apply Drawn0.step)⟩
      ·rw [if_neg c7] at H
       have c7b0:decide (t362 < 0) = false:=decide_eq_false c7
       clear c7
       replace H:=Option.bind_eq_some_iff.mp H
       obtain ⟨t364,A80,H⟩:=H
       replace H:(if t364 < 0 then (some (-1)) else ((laws_heldLitS.f k1 ((rd_T83 l0 x5_1).f3) t364).bind fun t366=>(if t366 < 0 then (some (-1)) else (laws_heldStepS.l0 k1 l0 t366 (wrap64 (x5_1 + 1)))))) = some r:=H
       have A8:=Aside0.mk A80
       clear A80
       by_cases c9:t364 < 0
       ·rw [if_pos c9] at H
        have c9b0:decide (t364 < 0) = true:=decide_eq_true c9
        clear c9
        obtain rfl:=Option.some.inj H
        have p360:0 ≤ (x5_1:Int):=of_decide_eq_true (by first|(with_reducible assumption)|assumption)
        have q360:x5_1 < (l0.length:Int):=of_decide_eq_true (by first|(with_reducible assumption)|assumption)
        obtain ⟨ad360,A360_1,c360_1,A360_2,c360_2,A360_3,c360_3,e360,hx360_0,hx360_1,hx360_2,hx360_3,hl360_1,hi360_1,hl360_2,hi360_2,hl360_3,hi360_3⟩:=at_T83 HR0.out x5_1 p360 q360
        cases e360
        have HR360_1:=Aside0.mk hi360_1
        have HC360_1:=Aside0.mk hl360_1
        clear hi360_1 hl360_1
        have HR360_2:=Aside0.mk hi360_2
        have HC360_2:=Aside0.mk hl360_2
        clear hi360_2 hl360_2
        have HR360_3:=Aside0.mk hi360_3
        have HC360_3:=Aside0.mk hl360_3
        clear hi360_3 hl360_3
        replace p360:=eq_true p360
        replace q360:=eq_true q360
        have p361:0 ≤ (x5_1:Int):=of_decide_eq_true (by first|(with_reducible assumption)|assumption)
        have q361:x5_1 < (l0.length:Int):=of_decide_eq_true (by first|(with_reducible assumption)|assumption)
        obtain ⟨ad361,A361_1,c361_1,A361_2,c361_2,A361_3,c361_3,e361,hx361_0,hx361_1,hx361_2,hx361_3,hl361_1,hi361_1,hl361_2,hi361_2,hl361_3,hi361_3⟩:=at_T83 HR0.out x5_1 p361 q361
        obtain rfl:ad360 = ad361:=(by injection e361)
        have HR361_1:=Aside0.mk hi361_1
        have HC361_1:=Aside0.mk hl361_1
        clear hi361_1 hl361_1
        have HR361_2:=Aside0.mk hi361_2
        have HC361_2:=Aside0.mk hl361_2
        clear hi361_2 hl361_2
        have HR361_3:=Aside0.mk hi361_3
        have HC361_3:=Aside0.mk hl361_3
        clear hi361_3 hl361_3
        replace p361:=eq_true p361
        replace q361:=eq_true q361
        have ea_:=Option.some.inj (hx360_1.symm.trans hx361_1)
        injection ea_ with ea_ en_ ec_
        subst ea_
        subst ec_
        clear en_
        have ea_:=Option.some.inj (hx360_2.symm.trans hx361_2)
        injection ea_ with ea_ en_ ec_
        subst ea_
        subst ec_
        clear en_
        have ea_:=Option.some.inj (hx360_3.symm.trans hx361_3)
        injection ea_ with ea_ en_ ec_
        subst ea_
        subst ec_
        clear en_
        go_wp2_with (first|((with_reducible refine gate_callee (f:=27) rfl ?_);refine goesL_ (some 27) rfl rfl Try.func27 (by kernel_rfl) rfl #[.slice A360_1 ((rd_T83 l0 x5_1).f1).length c360_1,.int .i64 (wrap64 (x1_1 + 1))] rfl (by (try simp only [List.map_toArray,List.map_cons,List.map_nil]);first|done|rfl|(simp only [List.length_drop,List.length_take];rfl)) ?_;(with_reducible refine (laws_heldIntS.calls k1 _ _ ((rd_T83 l0 x5_1).f1) (wrap64 (x1_1 + 1)) t362 _ ?side1 ?side2 A6.out).mono ?_);(case side1=>repeat (first|exact HR361_1.out|(with_reducible refine Kd.C_alloc ?_ _)|(with_reducible refine Kd.C_drewN ?_ _)|(with_reducible refine Kd.C_drew ?_)));(case side2=>exact HC361_1.out);rintro e w' ⟨rfl,⟨nd,rfl⟩⟩;refine ⟨_,rfl,?_⟩;have p363:0 ≤ (x5_1:Int):=of_decide_eq_true (by first|(with_reducible assumption)|assumption);have q363:x5_1 < (l0.length:Int):=of_decide_eq_true (by first|(with_reducible assumption)|assumption);obtain ⟨ad363,A363_1,c363_1,A363_2,c363_2,A363_3,c363_3,e363,hx363_0,hx363_1,hx363_2,hx363_3,hl363_1,hi363_1,hl363_2,hi363_2,hl363_3,hi363_3⟩:=at_T83 HR0.out x5_1 p363 q363;obtain rfl:ad360 = ad363:=(by injection e363);have HR363_1:=Aside0.mk hi363_1;have HC363_1:=Aside0.mk hl363_1;clear hi363_1 hl363_1;have HR363_2:=Aside0.mk hi363_2;have HC363_2:=Aside0.mk hl363_2;clear hi363_2 hl363_2;have HR363_3:=Aside0.mk hi363_3;have HC363_3:=Aside0.mk hl363_3;clear hi363_3 hl363_3;replace p363:=eq_true p363;replace q363:=eq_true q363;have ea_:=Option.some.inj (hx360_1.symm.trans hx363_1);injection ea_ with ea_ en_ ec_;subst ea_;subst ec_;clear en_;have ea_:=Option.some.inj (hx360_2.symm.trans hx363_2);injection ea_ with ea_ en_ ec_;subst ea_;subst ec_;clear en_;have ea_:=Option.some.inj (hx360_3.symm.trans hx363_3);injection ea_ with ea_ en_ ec_;subst ea_;subst ec_;clear en_)|((with_reducible refine gate_callee (f:=27) rfl ?_);refine goesL_ (some 36) rfl rfl Try.func27 (by kernel_rfl) rfl #[.slice A360_2 ((rd_T83 l0 x5_1).f2).length c360_2,.int .i64 t362] rfl (by (try simp only [List.map_toArray,List.map_cons,List.map_nil]);first|done|rfl|(simp only [List.length_drop,List.length_take];rfl)) ?_;(with_reducible refine (laws_heldIntS.calls k1 _ _ ((rd_T83 l0 x5_1).f2) t362 t364 _ ?side1 ?side2 A8.out).mono ?_);(case side1=>repeat (first|exact HR363_2.out|(with_reducible refine Kd.C_alloc ?_ _)|(with_reducible refine Kd.C_drewN ?_ _)|(with_reducible refine Kd.C_drew ?_)));(case side2=>exact HC363_2.out);rintro e w' ⟨rfl,⟨nd,rfl⟩⟩;refine ⟨_,rfl,?_⟩))
        go_ret
        exact ⟨by first|rfl|(simp;done)|(simp [*];done),by repeat (first|exact Drawn0.refl _|apply Drawn0.step)⟩
       ·rw [if_neg c9] at H
        have c9b0:decide (t364 < 0) = false:=decide_eq_false c9
        clear c9
        replace H:=Option.bind_eq_some_iff.mp H
        obtain ⟨t366,A100,H⟩:=H
        replace H:(if t366 < 0 then (some (-1)) else (laws_heldStepS.l0 k1 l0 t366 (wrap64 (x5_1 + 1)))) = some r:=H
        have A10:=Aside0.mk A100
        clear A100
        by_cases c11:t366 < 0
        ·rw [if_pos c11] at H
         have c11b0:decide (t366 < 0) = true:=decide_eq_true c11
         clear c11
         obtain rfl:=Option.some.inj H
         have p360:0 ≤ (x5_1:Int):=of_decide_eq_true (by first|(with_reducible assumption)|assumption)
         have q360:x5_1 < (l0.length:Int):=of_decide_eq_true (by first|(with_reducible assumption)|assumption)
         obtain ⟨ad360,A360_1,c360_1,A360_2,c360_2,A360_3,c360_3,e360,hx360_0,hx360_1,hx360_2,hx360_3,hl360_1,hi360_1,hl360_2,hi360_2,hl360_3,hi360_3⟩:=at_T83 HR0.out x5_1 p360 q360
         cases e360
         have HR360_1:=Aside0.mk hi360_1
         have HC360_1:=Aside0.mk hl360_1
         clear hi360_1 hl360_1
         have HR360_2:=Aside0.mk hi360_2
         have HC360_2:=Aside0.mk hl360_2
         clear hi360_2 hl360_2
         have HR360_3:=Aside0.mk hi360_3
         have HC360_3:=Aside0.mk hl360_3
         clear hi360_3 hl360_3
         replace p360:=eq_true p360
         replace q360:=eq_true q360
         have p361:0 ≤ (x5_1:Int):=of_decide_eq_true (by first|(with_reducible assumption)|assumption)
         have q361:x5_1 < (l0.length:Int):=of_decide_eq_true (by first|(with_reducible assumption)|assumption)
         obtain ⟨ad361,A361_1,c361_1,A361_2,c361_2,A361_3,c361_3,e361,hx361_0,hx361_1,hx361_2,hx361_3,hl361_1,hi361_1,hl361_2,hi361_2,hl361_3,hi361_3⟩:=at_T83 HR0.out x5_1 p361 q361
         obtain rfl:ad360 = ad361:=(by injection e361)
         have HR361_1:=Aside0.mk hi361_1
         have HC361_1:=Aside0.mk hl361_1
         clear hi361_1 hl361_1
         have HR361_2:=Aside0.mk hi361_2
         have HC361_2:=Aside0.mk hl361_2
         clear hi361_2 hl361_2
         have HR361_3:=Aside0.mk hi361_3
         have HC361_3:=Aside0.mk hl361_3
         clear hi361_3 hl361_3
         replace p361:=eq_true p361
         replace q361:=eq_true q361
         have ea_:=Option.some.inj (hx360_1.symm.trans hx361_1)
         injection ea_ with ea_ en_ ec_
         subst ea_
         subst ec_
         clear en_
         have ea_:=Option.some.inj (hx360_2.symm.trans hx361_2)
         injection ea_ with ea_ en_ ec_
         subst ea_
         subst ec_
         clear en_
         have ea_:=Option.some.inj (hx360_3.symm.trans hx361_3)
         injection ea_ with ea_ en_ ec_
         subst ea_
         subst ec_
         clear en_
         go_wp2_with (first|((with_reducible refine gate_callee (f:=27) rfl ?_);refine goesL_ (some 27) rfl rfl Try.func27 (by kernel_rfl) rfl #[.slice A360_1 ((rd_T83 l0 x5_1).f1).length c360_1,.int .i64 (wrap64 (x1_1 + 1))] rfl (by (try simp only [List.map_toArray,List.map_cons,List.map_nil]);first|done|rfl|(simp only [List.length_drop,List.length_take];rfl)) ?_;(with_reducible refine (laws_heldIntS.calls k1 _ _ ((rd_T83 l0 x5_1).f1) (wrap64 (x1_1 + 1)) t362 _ ?side1 ?side2 A6.out).mono ?_);(case side1=>repeat (first|exact HR361_1.out|(with_reducible refine Kd.C_alloc ?_ _)|(with_reducible refine Kd.C_drewN ?_ _)|(with_reducible refine Kd.C_drew ?_)));(case side2=>exact HC361_1.out);rintro e w' ⟨rfl,⟨nd,rfl⟩⟩;refine ⟨_,rfl,?_⟩;have p363:0 ≤ (x5_1:Int):=of_decide_eq_true (by first|(with_reducible assumption)|assumption);have q363:x5_1 < (l0.length:Int):=of_decide_eq_true (by first|(with_reducible assumption)|assumption);obtain ⟨ad363,A363_1,c363_1,A363_2,c363_2,A363_3,c363_3,e363,hx363_0,hx363_1,hx363_2,hx363_3,hl363_1,hi363_1,hl363_2,hi363_2,hl363_3,hi363_3⟩:=at_T83 HR0.out x5_1 p363 q363;obtain rfl:ad360 = ad363:=(by injection e363);have HR363_1:=Aside0.mk hi363_1;have HC363_1:=Aside0.mk hl363_1;clear hi363_1 hl363_1;have HR363_2:=Aside0.mk hi363_2;have HC363_2:=Aside0.mk hl363_2;clear hi363_2 hl363_2;have HR363_3:=Aside0.mk hi363_3;have HC363_3:=Aside0.mk hl363_3;clear hi363_3 hl363_3;replace p363:=eq_true p363;replace q363:=eq_true q363;have ea_:=Option.some.inj (hx360_1.symm.trans hx363_1);injection ea_ with ea_ en_ ec_;subst ea_;subst ec_;clear en_;have ea_:=Option.some.inj (hx360_2.symm.trans hx363_2);injection ea_ with ea_ en_ ec_;subst ea_;subst ec_;clear en_;have ea_:=Option.some.inj (hx360_3.symm.trans hx363_3);injection ea_ with ea_ en_ ec_;subst ea_;subst ec_;clear en_)|((with_reducible refine gate_callee (f:=27) rfl ?_);refine goesL_ (some 36) rfl rfl Try.func27 (by kernel_rfl) rfl #[.slice A360_2 ((rd_T83 l0 x5_1).f2).length c360_2,.int .i64 t362] rfl (by (try simp only [List.map_toArray,List.map_cons,List.map_nil]);first|done|rfl|(simp only [List.length_drop,List.length_take];rfl)) ?_;(with_reducible refine (laws_heldIntS.calls k1 _ _ ((rd_T83 l0 x5_1).f2) t362 t364 _ ?side1 ?side2 A8.out).mono ?_);(case side1=>repeat (first|exact HR363_2.out|(with_reducible refine Kd.C_alloc ?_ _)|(with_reducible refine Kd.C_drewN ?_ _)|(with_reducible refine Kd.C_drew ?_)));(case side2=>exact HC363_2.out);rintro e w' ⟨rfl,⟨nd,rfl⟩⟩;refine ⟨_,rfl,?_⟩;have p365:0 ≤ (x5_1:Int):=of_decide_eq_true (by first|(with_reducible assumption)|assumption);have q365:x5_1 < (l0.length:Int):=of_decide_eq_true (by first|(with_reducible assumption)|assumption);obtain ⟨ad365,A365_1,c365_1,A365_2,c365_2,A365_3,c365_3,e365,hx365_0,hx365_1,hx365_2,hx365_3,hl365_1,hi365_1,hl365_2,hi365_2,hl365_3,hi365_3⟩:=at_T83 HR0.out x5_1 p365 q365;obtain rfl:ad360 = ad365:=(by injection e365);have HR365_1:=Aside0.mk hi365_1;have HC365_1:=Aside0.mk hl365_1;clear hi365_1 hl365_1;have HR365_2:=Aside0.mk hi365_2;have HC365_2:=Aside0.mk hl365_2;clear hi365_2 hl365_2;have HR365_3:=Aside0.mk hi365_3;have HC365_3:=Aside0.mk hl365_3;clear hi365_3 hl365_3;replace p365:=eq_true p365;replace q365:=eq_true q365;have ea_:=Option.some.inj (hx360_1.symm.trans hx365_1);injection ea_ with ea_ en_ ec_;subst ea_;subst ec_;clear en_;have ea_:=Option.some.inj (hx360_2.symm.trans hx365_2);injection ea_ with ea_ en_ ec_;subst ea_;subst ec_;clear en_;have ea_:=Option.some.inj (hx360_3.symm.trans hx365_3);injection ea_ with ea_ en_ ec_;subst ea_;subst ec_;clear en_)|((with_reducible refine gate_callee (f:=81) rfl ?_);refine goesL_ (some 45) rfl rfl Try.func81 (by kernel_rfl) rfl #[.slice A360_3 ((rd_T83 l0 x5_1).f3).length c360_3,.int .i64 t364] rfl (by (try simp only [List.map_toArray,List.map_cons,List.map_nil]);first|done|rfl|(simp only [List.length_drop,List.length_take];rfl)) ?_;(with_reducible refine (laws_heldLitS.calls k1 _ _ ((rd_T83 l0 x5_1).f3) t364 t366 _ ?side1 ?side2 A10.out).mono ?_);(case side1=>repeat (first|exact HR365_3.out|(with_reducible refine Kd.C_alloc ?_ _)|(with_reducible refine Kd.C_drewN ?_ _)|(with_reducible refine Kd.C_drew ?_)));(case side2=>exact HC365_3.out);rintro e w' ⟨rfl,⟨nd,rfl⟩⟩;refine ⟨_,rfl,?_⟩))
         go_ret
         exact ⟨by first|rfl|(simp;done)|(simp [*];done),by repeat (first|exact Drawn0.refl _|apply Drawn0.step)⟩
        ·rw [if_neg c11] at H
         have c11b0:decide (t366 < 0) = false:=decide_eq_false c11
         clear c11
         have H':=Aside0.mk H
         clear H
         have p360:0 ≤ (x5_1:Int):=of_decide_eq_true (by first|(with_reducible assumption)|assumption)
         have q360:x5_1 < (l0.length:Int):=of_decide_eq_true (by first|(with_reducible assumption)|assumption)
         obtain ⟨ad360,A360_1,c360_1,A360_2,c360_2,A360_3,c360_3,e360,hx360_0,hx360_1,hx360_2,hx360_3,hl360_1,hi360_1,hl360_2,hi360_2,hl360_3,hi360_3⟩:=at_T83 HR0.out x5_1 p360 q360
         cases e360
         have HR360_1:=Aside0.mk hi360_1
         have HC360_1:=Aside0.mk hl360_1
         clear hi360_1 hl360_1
         have HR360_2:=Aside0.mk hi360_2
         have HC360_2:=Aside0.mk hl360_2
         clear hi360_2 hl360_2
         have HR360_3:=Aside0.mk hi360_3
         have HC360_3:=Aside0.mk hl360_3
         clear hi360_3 hl360_3
         replace p360:=eq_true p360
         replace q360:=eq_true q360
         have p361:0 ≤ (x5_1:Int):=of_decide_eq_true (by first|(with_reducible assumption)|assumption)
         have q361:x5_1 < (l0.length:Int):=of_decide_eq_true (by first|(with_reducible assumption)|assumption)
         obtain ⟨ad361,A361_1,c361_1,A361_2,c361_2,A361_3,c361_3,e361,hx361_0,hx361_1,hx361_2,hx361_3,hl361_1,hi361_1,hl361_2,hi361_2,hl361_3,hi361_3⟩:=at_T83 HR0.out x5_1 p361 q361
         obtain rfl:ad360 = ad361:=(by injection e361)
         have HR361_1:=Aside0.mk hi361_1
         have HC361_1:=Aside0.mk hl361_1
         clear hi361_1 hl361_1
         have HR361_2:=Aside0.mk hi361_2
         have HC361_2:=Aside0.mk hl361_2
         clear hi361_2 hl361_2
         have HR361_3:=Aside0.mk hi361_3
         have HC361_3:=Aside0.mk hl361_3
         clear hi361_3 hl361_3
         replace p361:=eq_true p361
         replace q361:=eq_true q361
         have ea_:=Option.some.inj (hx360_1.symm.trans hx361_1)
         injection ea_ with ea_ en_ ec_
         subst ea_
         subst ec_
         clear en_
         have ea_:=Option.some.inj (hx360_2.symm.trans hx361_2)
         injection ea_ with ea_ en_ ec_
         subst ea_
         subst ec_
         clear en_
         have ea_:=Option.some.inj (hx360_3.symm.trans hx361_3)
         injection ea_ with ea_ en_ ec_
         subst ea_
         subst ec_
         clear en_
         go_wp2_with (first|((with_reducible refine gate_callee (f:=27) rfl ?_);refine goesL_ (some 27) rfl rfl Try.func27 (by kernel_rfl) rfl #[.slice A360_1 ((rd_T83 l0 x5_1).f1).length c360_1,.int .i64 (wrap64 (x1_1 + 1))] rfl (by (try simp only [List.map_toArray,List.map_cons,List.map_nil]);first|done|rfl|(simp only [List.length_drop,List.length_take];rfl)) ?_;(with_reducible refine (laws_heldIntS.calls k1 _ _ ((rd_T83 l0 x5_1).f1) (wrap64 (x1_1 + 1)) t362 _ ?side1 ?side2 A6.out).mono ?_);(case side1=>repeat (first|exact HR361_1.out|(with_reducible refine Kd.C_alloc ?_ _)|(with_reducible refine Kd.C_drewN ?_ _)|(with_reducible refine Kd.C_drew ?_)));(case side2=>exact HC361_1.out);rintro e w' ⟨rfl,⟨nd,rfl⟩⟩;refine ⟨_,rfl,?_⟩;have p363:0 ≤ (x5_1:Int):=of_decide_eq_true (by first|(with_reducible assumption)|assumption);have q363:x5_1 < (l0.length:Int):=of_decide_eq_true (by first|(with_reducible assumption)|assumption);obtain ⟨ad363,A363_1,c363_1,A363_2,c363_2,A363_3,c363_3,e363,hx363_0,hx363_1,hx363_2,hx363_3,hl363_1,hi363_1,hl363_2,hi363_2,hl363_3,hi363_3⟩:=at_T83 HR0.out x5_1 p363 q363;obtain rfl:ad360 = ad363:=(by injection e363);have HR363_1:=Aside0.mk hi363_1;have HC363_1:=Aside0.mk hl363_1;clear hi363_1 hl363_1;have HR363_2:=Aside0.mk hi363_2;have HC363_2:=Aside0.mk hl363_2;clear hi363_2 hl363_2;have HR363_3:=Aside0.mk hi363_3;have HC363_3:=Aside0.mk hl363_3;clear hi363_3 hl363_3;replace p363:=eq_true p363;replace q363:=eq_true q363;have ea_:=Option.some.inj (hx360_1.symm.trans hx363_1);injection ea_ with ea_ en_ ec_;subst ea_;subst ec_;clear en_;have ea_:=Option.some.inj (hx360_2.symm.trans hx363_2);injection ea_ with ea_ en_ ec_;subst ea_;subst ec_;clear en_;have ea_:=Option.some.inj (hx360_3.symm.trans hx363_3);injection ea_ with ea_ en_ ec_;subst ea_;subst ec_;clear en_)|((with_reducible refine gate_callee (f:=27) rfl ?_);refine goesL_ (some 36) rfl rfl Try.func27 (by kernel_rfl) rfl #[.slice A360_2 ((rd_T83 l0 x5_1).f2).length c360_2,.int .i64 t362] rfl (by (try simp only [List.map_toArray,List.map_cons,List.map_nil]);first|done|rfl|(simp only [List.length_drop,List.length_take];rfl)) ?_;(with_reducible refine (laws_heldIntS.calls k1 _ _ ((rd_T83 l0 x5_1).f2) t362 t364 _ ?side1 ?side2 A8.out).mono ?_);(case side1=>repeat (first|exact HR363_2.out|(with_reducible refine Kd.C_alloc ?_ _)|(with_reducible refine Kd.C_drewN ?_ _)|(with_reducible refine Kd.C_drew ?_)));(case side2=>exact HC363_2.out);rintro e w' ⟨rfl,⟨nd,rfl⟩⟩;refine ⟨_,rfl,?_⟩;have p365:0 ≤ (x5_1:Int):=of_decide_eq_true (by first|(with_reducible assumption)|assumption);have q365:x5_1 < (l0.length:Int):=of_decide_eq_true (by first|(with_reducible assumption)|assumption);obtain ⟨ad365,A365_1,c365_1,A365_2,c365_2,A365_3,c365_3,e365,hx365_0,hx365_1,hx365_2,hx365_3,hl365_1,hi365_1,hl365_2,hi365_2,hl365_3,hi365_3⟩:=at_T83 HR0.out x5_1 p365 q365;obtain rfl:ad360 = ad365:=(by injection e365);have HR365_1:=Aside0.mk hi365_1;have HC365_1:=Aside0.mk hl365_1;clear hi365_1 hl365_1;have HR365_2:=Aside0.mk hi365_2;have HC365_2:=Aside0.mk hl365_2;clear hi365_2 hl365_2;have HR365_3:=Aside0.mk hi365_3;have HC365_3:=Aside0.mk hl365_3;clear hi365_3 hl365_3;replace p365:=eq_true p365;replace q365:=eq_true q365;have ea_:=Option.some.inj (hx360_1.symm.trans hx365_1);injection ea_ with ea_ en_ ec_;subst ea_;subst ec_;clear en_;have ea_:=Option.some.inj (hx360_2.symm.trans hx365_2);injection ea_ with ea_ en_ ec_;subst ea_;subst ec_;clear en_;have ea_:=Option.some.inj (hx360_3.symm.trans hx365_3);injection ea_ with ea_ en_ ec_;subst ea_;subst ec_;clear en_)|((with_reducible refine gate_callee (f:=81) rfl ?_);refine goesL_ (some 45) rfl rfl Try.func81 (by kernel_rfl) rfl #[.slice A360_3 ((rd_T83 l0 x5_1).f3).length c360_3,.int .i64 t364] rfl (by (try simp only [List.map_toArray,List.map_cons,List.map_nil]);first|done|rfl|(simp only [List.length_drop,List.length_take];rfl)) ?_;(with_reducible refine (laws_heldLitS.calls k1 _ _ ((rd_T83 l0 x5_1).f3) t364 t366 _ ?side1 ?side2 A10.out).mono ?_);(case side1=>repeat (first|exact HR365_3.out|(with_reducible refine Kd.C_alloc ?_ _)|(with_reducible refine Kd.C_drewN ?_ _)|(with_reducible refine Kd.C_drew ?_)));(case side2=>exact HC365_3.out);rintro e w' ⟨rfl,⟨nd,rfl⟩⟩;refine ⟨_,rfl,?_⟩))
         go_roundg k1
         case measure=>have:=HK1.out;omega
         case rel=>exact ⟨(t366),(wrap64 (x5_1 + 1)),(by first|rfl|(simp;done)|(simp [*];done)),(by first|rfl|(simp;done)|(simp [*];done)),H',⟨by have:=HK1.out;omega⟩,by repeat (first|exact Drawn0.refl _|apply Drawn0.step)⟩
     ·rw [if_neg c5] at H
      have c5b0:(((rd_T83 l0 x5_1).f0) == x1_1) = false:=beq_eq_false_iff_ne.mpr c5
      have c5b1:(((rd_T83 l0 x5_1).f0) != x1_1) = true:=bne_iff_ne.mpr c5
      obtain rfl:=Option.some.inj H
      have p360:0 ≤ (x5_1:Int):=of_decide_eq_true (by first|(with_reducible assumption)|assumption)
      have q360:x5_1 < (l0.length:Int):=of_decide_eq_true (by first|(with_reducible assumption)|assumption)
      obtain ⟨ad360,A360_1,c360_1,A360_2,c360_2,A360_3,c360_3,e360,hx360_0,hx360_1,hx360_2,hx360_3,hl360_1,hi360_1,hl360_2,hi360_2,hl360_3,hi360_3⟩:=at_T83 HR0.out x5_1 p360 q360
      cases e360
      have HR360_1:=Aside0.mk hi360_1
      have HC360_1:=Aside0.mk hl360_1
      clear hi360_1 hl360_1
      have HR360_2:=Aside0.mk hi360_2
      have HC360_2:=Aside0.mk hl360_2
      clear hi360_2 hl360_2
      have HR360_3:=Aside0.mk hi360_3
      have HC360_3:=Aside0.mk hl360_3
      clear hi360_3 hl360_3
      replace p360:=eq_true p360
      replace q360:=eq_true q360
      go_wp2
      go_ret
      exact ⟨by first|rfl|(simp;done)|(simp [*];done),by repeat (first|exact Drawn0.refl _|apply Drawn0.step)⟩
    ·rw [if_neg c4] at H
     exact absurd H (by simp)
   ·rw [if_neg c3] at H
    have c3b0:decide (x5_1 < (l0.length:Int)) = false:=decide_eq_false c3
    clear c3
    obtain rfl:=Option.some.inj H
    go_wp2
    go_ret
    exact ⟨by first|rfl|(simp;done)|(simp [*];done),by repeat (first|exact Drawn0.refl _|apply Drawn0.step)⟩

end Go.Proofs.Ytlgnanbnicmdaaa.QFnExactTrimSteps
