-- Written by this session's own program (wip/x/xprint.py, over the kit's printer); Lean checks it.
import Derived.Test.YtlgnanbnicmdaabQFnExactNormalClausex0
namespace Go.Proofs.Ytlgnanbnicmdaab.QFnExactNormalClause
open Go.RowKit Go.Proofs.YtlgnanbnicmdaabW.PrintWords Go.Proofs.YtlgnanbnicmdaabW.PrintLast Go.Proofs.YtlgnanbnicmdaabW.PrintMore
attribute [local go_sem] max2_int min2_int max_two min_two max_three min_three max_four min_four   -- for this text's walks alone
set_option linter.unusedVariables false
set_option linter.unusedSimpArgs false

/-! ### laws_heldIntS: function 24 -/
def laws_heldIntS.l0:Nat → List Int → Int → Int → Option (Int)
 | 0,_,_,_=>none
 | k + 1,x0,x1,x5=>if x5 < (x0.length:Int) then (if 0 ≤ x5 then (if (rd x0 x5) = x1 then (laws_heldIntS.l0 k x0 (wrap64 (x1 + 1)) (wrap64 (x5 + 1))) else (some (-1))) else (none)) else (some x1)
def laws_heldIntS.f (k:Nat) (l0:List Int) (a1:Int):Option (Int):=laws_heldIntS.l0 k l0 a1 0
theorem laws_heldIntS.mono_l:∀ k,(∀ y0 y1 y2,LeO (laws_heldIntS.l0 k y0 y1 y2) (laws_heldIntS.l0 (k + 1) y0 y1 y2))
 | 0=>fun _ _ _ r h=>by simp [laws_heldIntS.l0] at h
 | k + 1=>by
  have ih0:=laws_heldIntS.mono_l k
  ·intro y0 y1 y2
   unfold laws_heldIntS.l0
   exact mO
theorem laws_heldIntS.mono:∀ a0 a1 k,LeO (laws_heldIntS.f k a0 a1) (laws_heldIntS.f (k + 1) a0 a1):=by
 intro a0 a1 k
 have ih0:=laws_heldIntS.mono_l k
 unfold laws_heldIntS.f
 exact mO
set_option maxHeartbeats 8000000 in
set_option maxRecDepth 100000 in
theorem laws_heldIntS.calls (k:Nat) (A0:Option Addr) (c0:Nat) (l0:List Int) (a1:Int) (r:Int) (w:World) (hr0:Kd.C (Kd.int .i64) w A0 l0.length l0) (hc0:l0.length ≤ c0) (h:laws_heldIntS.f k l0 a1 = some r) :
  Calls Try.prog 24 #[.slice A0 l0.length c0,.int .i64 a1] w fun e w'=>e = .returned (.int .i64 r) ∧ Drawn0 w w':=by
 have HR0:=Aside0.mk hr0
 have HC0:=Aside0.mk hc0
 clear hr0 hc0
 have H:(laws_heldIntS.l0 k l0 a1 0) = some r:=h
 clear h
 have H':=Aside0.mk H
 clear H
 go_enter Try.func24,Try.ntmps24
 go_wp2
 go_loopg [1,5] k (fun kq v1 v5 w'=>∃ (x1_1:Int) (x5_1:Int),v1 = .int .i64 x1_1 ∧ v5 = .int .i64 x5_1 ∧ Aside0 (laws_heldIntS.l0 kq l0 x1_1 x5_1 = some r) ∧ Aside0 (kq ≤ k) ∧ Drawn0 w w')
 case atStart=>exact ⟨(a1),(0),Yb,Yb,H',⟨Nat.le_refl _⟩,by repeat (first|exact Drawn0.refl _|apply Drawn0.step)⟩
 case round =>
  clear H'
  try clear c2
  try clear p2
  obtain ⟨x1_1,x5_1,rfl,rfl,HA,HK1,⟨m1,rfl⟩⟩:=hrel
  cases gk with
  | zero=>exact absurd HA.out (by simp [laws_heldIntS.l0])
  | succ k1 =>
   have H:=HA.out
   clear HA
   simp only [laws_heldIntS.l0] at H
   by_cases c3:x5_1 < (l0.length:Int)
   ·rw [if_pos c3] at H
    have c3b0:=decide_eq_true c3
    clear c3
    by_cases c4:0 ≤ x5_1
    ·rw [if_pos c4] at H
     have c4b0:=decide_eq_true c4
     clear c4
     by_cases c5:(rd l0 x5_1) = x1_1
     ·rw [if_pos c5] at H
      have c5b0:((rd l0 x5_1) == x1_1) = true:=beq_iff_eq.mpr c5
      have c5b1:((rd l0 x5_1) != x1_1) = false:=bne_eq_false_iff_eq.mpr c5
      clear c5
      have H':=Aside0.mk H
      clear H
      have p465:0 ≤ (x5_1:Int):=oD
      have q465:x5_1 < (l0.length:Int):=oD
      obtain ⟨ad465,e465,hx465_0⟩:=Kd.at_int HR0.out x5_1 p465 q465
      cases e465
      replace p465:=eq_true p465
      replace q465:=eq_true q465
      go_wp2
      go_roundg k1
      case measure=>have:=HK1.out;omega
      case rel=>exact ⟨(wrap64 (x1_1 + 1)),(wrap64 (x5_1 + 1)),Yb,Yb,H',⟨by have:=HK1.out;omega⟩,by repeat (first|exact Drawn0.refl _|apply Drawn0.step)⟩
     ·rw [if_neg c5] at H
      have c5b0:((rd l0 x5_1) == x1_1) = false:=beq_eq_false_iff_ne.mpr c5
      have c5b1:((rd l0 x5_1) != x1_1) = true:=bne_iff_ne.mpr c5
      obtain rfl:=Option.some.inj H
      have p465:0 ≤ (x5_1:Int):=oD
      have q465:x5_1 < (l0.length:Int):=oD
      obtain ⟨ad465,e465,hx465_0⟩:=Kd.at_int HR0.out x5_1 p465 q465
      cases e465
      replace p465:=eq_true p465
      replace q465:=eq_true q465
      go_wp2
      go_ret
      exact ⟨by first|rfl|(simp;done)|(simp [*];done),by repeat (first|exact Drawn0.refl _|apply Drawn0.step)⟩
    ·rw [if_neg c4] at H
     exact absurd H (by simp)
   ·rw [if_neg c3] at H
    have c3b0:decide (x5_1 < (l0.length:Int)) = false:=decide_eq_false c3
    clear c3
    obtain rfl:=Option.some.inj H
    go_wp2
    go_ret
    exact ⟨by first|rfl|(simp;done)|(simp [*];done),by repeat (first|exact Drawn0.refl _|apply Drawn0.step)⟩

/-! ### laws_heldLitS: function 29 -/
def laws_heldLitS.l0:Nat → List (S65) → Int → Int → Option (Int)
 | 0,_,_,_=>none
 | k + 1,x0,x1,x5=>if x5 < (x0.length:Int) then (if 0 ≤ x5 then (if (((rd_T65 x0 x5).f0) != ((Int.tmod x1 3) == 0)) = true then (some (-1)) else ((laws_heldIntS.f k ((rd_T65 x0 x5).f1) (wrap64 (x1 + 1))).bind fun t468=>(if t468 < 0 then (some (-1)) else ((laws_heldIntS.f k ((rd_T65 x0 x5).f2) t468).bind fun t470=>(if t470 < 0 then (some (-1)) else (laws_heldLitS.l0 k x0 t470 (wrap64 (x5 + 1)))))))) else (none)) else (some x1)
def laws_heldLitS.f (k:Nat) (l0:List (S65)) (a1:Int):Option (Int):=laws_heldLitS.l0 k l0 a1 0
theorem laws_heldLitS.mono_l:∀ k,(∀ y0 y1 y2,LeO (laws_heldLitS.l0 k y0 y1 y2) (laws_heldLitS.l0 (k + 1) y0 y1 y2))
 | 0=>fun _ _ _ r h=>by simp [laws_heldLitS.l0] at h
 | k + 1=>by
  have ih0:=laws_heldLitS.mono_l k
  ·intro y0 y1 y2
   unfold laws_heldLitS.l0
   have m0:=@laws_heldIntS.mono
   exact mO
theorem laws_heldLitS.mono:∀ a0 a1 k,LeO (laws_heldLitS.f k a0 a1) (laws_heldLitS.f (k + 1) a0 a1):=by
 intro a0 a1 k
 have ih0:=laws_heldLitS.mono_l k
 unfold laws_heldLitS.f
 have m0:=@laws_heldIntS.mono
 exact mO
set_option maxHeartbeats 8000000 in
set_option maxRecDepth 100000 in
theorem laws_heldLitS.calls (k:Nat) (A0:Option Addr) (c0:Nat) (l0:List (S65)) (a1:Int) (r:Int) (w:World) (hr0:Kd.C k65 w A0 l0.length l0) (hc0:l0.length ≤ c0) (h:laws_heldLitS.f k l0 a1 = some r) :
  Calls Try.prog 29 #[.slice A0 l0.length c0,.int .i64 a1] w fun e w'=>e = .returned (.int .i64 r) ∧ Drawn0 w w':=by
 have HR0:=Aside0.mk hr0
 have HC0:=Aside0.mk hc0
 clear hr0 hc0
 have H:(laws_heldLitS.l0 k l0 a1 0) = some r:=h
 clear h
 have H':=Aside0.mk H
 clear H
 go_enter Try.func29,Try.ntmps29
 go_wp2
 go_loopg [1,5] k (fun kq v1 v5 w'=>∃ (x1_1:Int) (x5_1:Int),v1 = .int .i64 x1_1 ∧ v5 = .int .i64 x5_1 ∧ Aside0 (laws_heldLitS.l0 kq l0 x1_1 x5_1 = some r) ∧ Aside0 (kq ≤ k) ∧ Drawn0 w w')
 case atStart=>exact ⟨(a1),(0),Yb,Yb,H',⟨Nat.le_refl _⟩,by repeat (first|exact Drawn0.refl _|apply Drawn0.step)⟩
 case round =>
  clear H'
  try clear c2
  try clear p2
  obtain ⟨x1_1,x5_1,rfl,rfl,HA,HK1,⟨m1,rfl⟩⟩:=hrel
  cases gk with
  | zero=>exact absurd HA.out (by simp [laws_heldLitS.l0])
  | succ k1 =>
   have H:=HA.out
   clear HA
   simp only [laws_heldLitS.l0] at H
   by_cases c3:x5_1 < (l0.length:Int)
   ·rw [if_pos c3] at H
    have c3b0:=decide_eq_true c3
    clear c3
    by_cases c4:0 ≤ x5_1
    ·rw [if_pos c4] at H
     have c4b0:=decide_eq_true c4
     clear c4
     by_cases c5:(((rd_T65 l0 x5_1).f0) != ((Int.tmod x1_1 3) == 0)) = true
     ·rw [if_pos c5] at H
      have c5b0:(((rd_T65 l0 x5_1).f0) != ((Int.tmod x1_1 3) == 0)) = true:=c5
      (try (have c5b1:decide (((rd_T65 l0 x5_1).f0) = ((Int.tmod x1_1 3) == 0)) = false:=by simpa using c5))
      (try (have c5b2:(((rd_T65 l0 x5_1).f0) == ((Int.tmod x1_1 3) == 0)) = false:=by simpa using c5))
      (try (have c5b3:¬ (((rd_T65 l0 x5_1).f0) = ((Int.tmod x1_1 3) == 0)):=by simpa using c5))
      clear c5
      obtain rfl:=Option.some.inj H
      have p466:0 ≤ (x5_1:Int):=oD
      have q466:x5_1 < (l0.length:Int):=oD
      obtain ⟨ad466,A466_1,c466_1,A466_2,c466_2,e466,hx466_0,hx466_1,hx466_2,hl466_1,hi466_1,hl466_2,hi466_2⟩:=at_T65 HR0.out x5_1 p466 q466
      cases e466
      have HR466_1:=Aside0.mk hi466_1
      have HC466_1:=Aside0.mk hl466_1
      clear hi466_1 hl466_1
      have HR466_2:=Aside0.mk hi466_2
      have HC466_2:=Aside0.mk hl466_2
      clear hi466_2 hl466_2
      replace p466:=eq_true p466
      replace q466:=eq_true q466
      go_wp2
      go_ret
      exact ⟨by first|rfl|(simp;done)|(simp [*];done),by repeat (first|exact Drawn0.refl _|apply Drawn0.step)⟩
     ·rw [if_neg c5] at H
      have c5b0:(((rd_T65 l0 x5_1).f0) != ((Int.tmod x1_1 3) == 0)) = false:=by simpa using c5
      (try (have c5b1:decide (((rd_T65 l0 x5_1).f0) = ((Int.tmod x1_1 3) == 0)) = true:=by simpa using c5))
      (try (have c5b2:(((rd_T65 l0 x5_1).f0) == ((Int.tmod x1_1 3) == 0)) = true:=by simpa using c5))
      clear c5
      replace H:=Option.bind_eq_some_iff.mp H
      obtain ⟨t468,A60,H⟩:=H
      replace H:(if t468 < 0 then (some (-1)) else ((laws_heldIntS.f k1 ((rd_T65 l0 x5_1).f2) t468).bind fun t470=>(if t470 < 0 then (some (-1)) else (laws_heldLitS.l0 k1 l0 t470 (wrap64 (x5_1 + 1)))))) = some r:=H
      have A6:=Aside0.mk A60
      clear A60
      by_cases c7:t468 < 0
      ·rw [if_pos c7] at H
       have c7b0:=decide_eq_true c7
       clear c7
       obtain rfl:=Option.some.inj H
       have p466:0 ≤ (x5_1:Int):=oD
       have q466:x5_1 < (l0.length:Int):=oD
       obtain ⟨ad466,A466_1,c466_1,A466_2,c466_2,e466,hx466_0,hx466_1,hx466_2,hl466_1,hi466_1,hl466_2,hi466_2⟩:=at_T65 HR0.out x5_1 p466 q466
       cases e466
       have HR466_1:=Aside0.mk hi466_1
       have HC466_1:=Aside0.mk hl466_1
       clear hi466_1 hl466_1
       have HR466_2:=Aside0.mk hi466_2
       have HC466_2:=Aside0.mk hl466_2
       clear hi466_2 hl466_2
       replace p466:=eq_true p466
       replace q466:=eq_true q466
       have p467:0 ≤ (x5_1:Int):=oD
       have q467:x5_1 < (l0.length:Int):=oD
       obtain ⟨ad467,A467_1,c467_1,A467_2,c467_2,e467,hx467_0,hx467_1,hx467_2,hl467_1,hi467_1,hl467_2,hi467_2⟩:=at_T65 HR0.out x5_1 p467 q467
       obtain rfl:ad466 = ad467:=(by injection e467)
       have HR467_1:=Aside0.mk hi467_1
       have HC467_1:=Aside0.mk hl467_1
       clear hi467_1 hl467_1
       have HR467_2:=Aside0.mk hi467_2
       have HC467_2:=Aside0.mk hl467_2
       clear hi467_2 hl467_2
       replace p467:=eq_true p467
       replace q467:=eq_true q467
       have ea_:=Option.some.inj (hx466_1.symm.trans hx467_1)
       injection ea_ with ea_ en_ ec_
       subst ea_
       subst ec_
       clear en_
       have ea_:=Option.some.inj (hx466_2.symm.trans hx467_2)
       injection ea_ with ea_ en_ ec_
       subst ea_
       subst ec_
       clear en_
       go_wp2_with (first|((with_reducible refine gate_callee (f:=24) rfl ?_);refine goesL_ (some 29) rfl rfl Try.func24 (by kernel_rfl) rfl #[.slice A466_1 ((rd_T65 l0 x5_1).f1).length c466_1,.int .i64 (wrap64 (x1_1 + 1))] rfl Ya ?_;(with_reducible refine (laws_heldIntS.calls k1 _ _ ((rd_T65 l0 x5_1).f1) (wrap64 (x1_1 + 1)) t468 _ ?side1 ?side2 A6.out).mono ?_);(case side1=>repeat (first|exact HR467_1.out|(with_reducible refine Kd.C_alloc ?_ _)|(with_reducible refine Kd.C_drewN ?_ _)|(with_reducible refine Kd.C_drew ?_)));(case side2=>exact HC467_1.out);rintro e w' ⟨rfl,⟨nd,rfl⟩⟩;refine ⟨_,rfl,?_⟩))
       go_ret
       exact ⟨by first|rfl|(simp;done)|(simp [*];done),by repeat (first|exact Drawn0.refl _|apply Drawn0.step)⟩
      ·rw [if_neg c7] at H
       have c7b0:decide (t468 < 0) = false:=decide_eq_false c7
       clear c7
       replace H:=Option.bind_eq_some_iff.mp H
       obtain ⟨t470,A80,H⟩:=H
       replace H:(if t470 < 0 then (some (-1)) else (laws_heldLitS.l0 k1 l0 t470 (wrap64 (x5_1 + 1)))) = some r:=H
       have A8:=Aside0.mk A80
       clear A80
       by_cases c9:t470 < 0
       ·rw [if_pos c9] at H
        have c9b0:=decide_eq_true c9
        clear c9
        obtain rfl:=Option.some.inj H
        have p466:0 ≤ (x5_1:Int):=oD
        have q466:x5_1 < (l0.length:Int):=oD
        obtain ⟨ad466,A466_1,c466_1,A466_2,c466_2,e466,hx466_0,hx466_1,hx466_2,hl466_1,hi466_1,hl466_2,hi466_2⟩:=at_T65 HR0.out x5_1 p466 q466
        cases e466
        have HR466_1:=Aside0.mk hi466_1
        have HC466_1:=Aside0.mk hl466_1
        clear hi466_1 hl466_1
        have HR466_2:=Aside0.mk hi466_2
        have HC466_2:=Aside0.mk hl466_2
        clear hi466_2 hl466_2
        replace p466:=eq_true p466
        replace q466:=eq_true q466
        have p467:0 ≤ (x5_1:Int):=oD
        have q467:x5_1 < (l0.length:Int):=oD
        obtain ⟨ad467,A467_1,c467_1,A467_2,c467_2,e467,hx467_0,hx467_1,hx467_2,hl467_1,hi467_1,hl467_2,hi467_2⟩:=at_T65 HR0.out x5_1 p467 q467
        obtain rfl:ad466 = ad467:=(by injection e467)
        have HR467_1:=Aside0.mk hi467_1
        have HC467_1:=Aside0.mk hl467_1
        clear hi467_1 hl467_1
        have HR467_2:=Aside0.mk hi467_2
        have HC467_2:=Aside0.mk hl467_2
        clear hi467_2 hl467_2
        replace p467:=eq_true p467
        replace q467:=eq_true q467
        have ea_:=Option.some.inj (hx466_1.symm.trans hx467_1)
        injection ea_ with ea_ en_ ec_
        subst ea_
        subst ec_
        clear en_
        have ea_:=Option.some.inj (hx466_2.symm.trans hx467_2)
        injection ea_ with ea_ en_ ec_
        subst ea_
        subst ec_
        clear en_
        go_wp2_with (first|((with_reducible refine gate_callee (f:=24) rfl ?_);refine goesL_ (some 29) rfl rfl Try.func24 (by kernel_rfl) rfl #[.slice A466_1 ((rd_T65 l0 x5_1).f1).length c466_1,.int .i64 (wrap64 (x1_1 + 1))] rfl Ya ?_;(with_reducible refine (laws_heldIntS.calls k1 _ _ ((rd_T65 l0 x5_1).f1) (wrap64 (x1_1 + 1)) t468 _ ?side1 ?side2 A6.out).mono ?_);(case side1=>repeat (first|exact HR467_1.out|(with_reducible refine Kd.C_alloc ?_ _)|(with_reducible refine Kd.C_drewN ?_ _)|(with_reducible refine Kd.C_drew ?_)));(case side2=>exact HC467_1.out);rintro e w' ⟨rfl,⟨nd,rfl⟩⟩;refine ⟨_,rfl,?_⟩;have p469:0 ≤ (x5_1:Int):=oD;have q469:x5_1 < (l0.length:Int):=oD;obtain ⟨ad469,A469_1,c469_1,A469_2,c469_2,e469,hx469_0,hx469_1,hx469_2,hl469_1,hi469_1,hl469_2,hi469_2⟩:=at_T65 HR0.out x5_1 p469 q469;obtain rfl:ad466 = ad469:=(by injection e469);have HR469_1:=Aside0.mk hi469_1;have HC469_1:=Aside0.mk hl469_1;clear hi469_1 hl469_1;have HR469_2:=Aside0.mk hi469_2;have HC469_2:=Aside0.mk hl469_2;clear hi469_2 hl469_2;replace p469:=eq_true p469;replace q469:=eq_true q469;have ea_:=Option.some.inj (hx466_1.symm.trans hx469_1);injection ea_ with ea_ en_ ec_;subst ea_;subst ec_;clear en_;have ea_:=Option.some.inj (hx466_2.symm.trans hx469_2);injection ea_ with ea_ en_ ec_;subst ea_;subst ec_;clear en_)|((with_reducible refine gate_callee (f:=24) rfl ?_);refine goesL_ (some 38) rfl rfl Try.func24 (by kernel_rfl) rfl #[.slice A466_2 ((rd_T65 l0 x5_1).f2).length c466_2,.int .i64 t468] rfl Ya ?_;(with_reducible refine (laws_heldIntS.calls k1 _ _ ((rd_T65 l0 x5_1).f2) t468 t470 _ ?side1 ?side2 A8.out).mono ?_);(case side1=>repeat (first|exact HR469_2.out|(with_reducible refine Kd.C_alloc ?_ _)|(with_reducible refine Kd.C_drewN ?_ _)|(with_reducible refine Kd.C_drew ?_)));(case side2=>exact HC469_2.out);rintro e w' ⟨rfl,⟨nd,rfl⟩⟩;refine ⟨_,rfl,?_⟩))
        go_ret
        exact ⟨by first|rfl|(simp;done)|(simp [*];done),by repeat (first|exact Drawn0.refl _|apply Drawn0.step)⟩
       ·rw [if_neg c9] at H
        have c9b0:decide (t470 < 0) = false:=decide_eq_false c9
        clear c9
        have H':=Aside0.mk H
        clear H
        have p466:0 ≤ (x5_1:Int):=oD
        have q466:x5_1 < (l0.length:Int):=oD
        obtain ⟨ad466,A466_1,c466_1,A466_2,c466_2,e466,hx466_0,hx466_1,hx466_2,hl466_1,hi466_1,hl466_2,hi466_2⟩:=at_T65 HR0.out x5_1 p466 q466
        cases e466
        have HR466_1:=Aside0.mk hi466_1
        have HC466_1:=Aside0.mk hl466_1
        clear hi466_1 hl466_1
        have HR466_2:=Aside0.mk hi466_2
        have HC466_2:=Aside0.mk hl466_2
        clear hi466_2 hl466_2
        replace p466:=eq_true p466
        replace q466:=eq_true q466
        have p467:0 ≤ (x5_1:Int):=oD
        have q467:x5_1 < (l0.length:Int):=oD
        obtain ⟨ad467,A467_1,c467_1,A467_2,c467_2,e467,hx467_0,hx467_1,hx467_2,hl467_1,hi467_1,hl467_2,hi467_2⟩:=at_T65 HR0.out x5_1 p467 q467
        obtain rfl:ad466 = ad467:=(by injection e467)
        have HR467_1:=Aside0.mk hi467_1
        have HC467_1:=Aside0.mk hl467_1
        clear hi467_1 hl467_1
        have HR467_2:=Aside0.mk hi467_2
        have HC467_2:=Aside0.mk hl467_2
        clear hi467_2 hl467_2
        replace p467:=eq_true p467
        replace q467:=eq_true q467
        have ea_:=Option.some.inj (hx466_1.symm.trans hx467_1)
        injection ea_ with ea_ en_ ec_
        subst ea_
        subst ec_
        clear en_
        have ea_:=Option.some.inj (hx466_2.symm.trans hx467_2)
        injection ea_ with ea_ en_ ec_
        subst ea_
        subst ec_
        clear en_
        go_wp2_with (first|((with_reducible refine gate_callee (f:=24) rfl ?_);refine goesL_ (some 29) rfl rfl Try.func24 (by kernel_rfl) rfl #[.slice A466_1 ((rd_T65 l0 x5_1).f1).length c466_1,.int .i64 (wrap64 (x1_1 + 1))] rfl Ya ?_;(with_reducible refine (laws_heldIntS.calls k1 _ _ ((rd_T65 l0 x5_1).f1) (wrap64 (x1_1 + 1)) t468 _ ?side1 ?side2 A6.out).mono ?_);(case side1=>repeat (first|exact HR467_1.out|(with_reducible refine Kd.C_alloc ?_ _)|(with_reducible refine Kd.C_drewN ?_ _)|(with_reducible refine Kd.C_drew ?_)));(case side2=>exact HC467_1.out);rintro e w' ⟨rfl,⟨nd,rfl⟩⟩;refine ⟨_,rfl,?_⟩;have p469:0 ≤ (x5_1:Int):=oD;have q469:x5_1 < (l0.length:Int):=oD;obtain ⟨ad469,A469_1,c469_1,A469_2,c469_2,e469,hx469_0,hx469_1,hx469_2,hl469_1,hi469_1,hl469_2,hi469_2⟩:=at_T65 HR0.out x5_1 p469 q469;obtain rfl:ad466 = ad469:=(by injection e469);have HR469_1:=Aside0.mk hi469_1;have HC469_1:=Aside0.mk hl469_1;clear hi469_1 hl469_1;have HR469_2:=Aside0.mk hi469_2;have HC469_2:=Aside0.mk hl469_2;clear hi469_2 hl469_2;replace p469:=eq_true p469;replace q469:=eq_true q469;have ea_:=Option.some.inj (hx466_1.symm.trans hx469_1);injection ea_ with ea_ en_ ec_;subst ea_;subst ec_;clear en_;have ea_:=Option.some.inj (hx466_2.symm.trans hx469_2);injection ea_ with ea_ en_ ec_;subst ea_;subst ec_;clear en_)|((with_reducible refine gate_callee (f:=24) rfl ?_);refine goesL_ (some 38) rfl rfl Try.func24 (by kernel_rfl) rfl #[.slice A466_2 ((rd_T65 l0 x5_1).f2).length c466_2,.int .i64 t468] rfl Ya ?_;(with_reducible refine (laws_heldIntS.calls k1 _ _ ((rd_T65 l0 x5_1).f2) t468 t470 _ ?side1 ?side2 A8.out).mono ?_);(case side1=>repeat (first|exact HR469_2.out|(with_reducible refine Kd.C_alloc ?_ _)|(with_reducible refine Kd.C_drewN ?_ _)|(with_reducible refine Kd.C_drew ?_)));(case side2=>exact HC469_2.out);rintro e w' ⟨rfl,⟨nd,rfl⟩⟩;refine ⟨_,rfl,?_⟩))
        go_roundg k1
        case measure=>have:=HK1.out;omega
        case rel=>exact ⟨(t470),(wrap64 (x5_1 + 1)),Yb,Yb,H',⟨by have:=HK1.out;omega⟩,by repeat (first|exact Drawn0.refl _|apply Drawn0.step)⟩
    ·rw [if_neg c4] at H
     exact absurd H (by simp)
   ·rw [if_neg c3] at H
    have c3b0:decide (x5_1 < (l0.length:Int)) = false:=decide_eq_false c3
    clear c3
    obtain rfl:=Option.some.inj H
    go_wp2
    go_ret
    exact ⟨by first|rfl|(simp;done)|(simp [*];done),by repeat (first|exact Drawn0.refl _|apply Drawn0.step)⟩

end Go.Proofs.Ytlgnanbnicmdaab.QFnExactNormalClause
