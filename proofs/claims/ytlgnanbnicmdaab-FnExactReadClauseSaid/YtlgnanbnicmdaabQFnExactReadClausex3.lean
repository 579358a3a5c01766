-- Written by this session's own program (wip/x/xprint.py, over the kit's printer); Lean checks it.
import Derived.Test.YtlgnanbnicmdaabQFnExactReadClausex0
import Derived.Test.YtlgnanbnicmdaabQFnExactReadClausex2
namespace Go.Proofs.Ytlgnanbnicmdaab.QFnExactReadClause
open Go.RowKit Go.Proofs.YtlgnanbnicmdaabW.PrintWords Go.Proofs.YtlgnanbnicmdaabW.PrintLast Go.Proofs.YtlgnanbnicmdaabW.PrintMore
attribute [local go_sem] max2_int min2_int max_two min_two max_three min_three max_four min_four   -- for this text's walks alone
set_option linter.unusedVariables false
set_option linter.unusedSimpArgs false

/-! ### laws_heldLitS: function 29 -/
def laws_heldLitS.l0:Nat → List (S65) → Int → Int → Option (Int)
 | 0,_,_,_=>none
 | k + 1,x0,x1,x5=>if x5 < (x0.length:Int) then (if 0 ≤ x5 then (if (((rd_T65 x0 x5).f0) != ((Int.tmod x1 3) == 0)) = true then (some (-1)) else ((laws_heldIntS.f k ((rd_T65 x0 x5).f1) (wrap64 (x1 + 1))).bind fun t129=>(if t129 < 0 then (some (-1)) else ((laws_heldIntS.f k ((rd_T65 x0 x5).f2) t129).bind fun t131=>(if t131 < 0 then (some (-1)) else (laws_heldLitS.l0 k x0 t131 (wrap64 (x5 + 1)))))))) else (none)) else (some x1)
def laws_heldLitS.f (k:Nat) (l0:List (S65)) (a1:Int):Option (Int):=laws_heldLitS.l0 k l0 a1 0
theorem laws_heldLitS.mono_l:∀ k,(∀ y0 y1 y2,LeO (laws_heldLitS.l0 k y0 y1 y2) (laws_heldLitS.l0 (k + 1) y0 y1 y2))
 | 0=>fun _ _ _ r h=>by simp [laws_heldLitS.l0] at h
 | k + 1=>by
  have ih0:=laws_heldLitS.mono_l k
  ·intro y0 y1 y2
   unfold laws_heldLitS.l0
   have m0:=@laws_heldIntS.mono
   exact mO
theorem laws_heldLitS.mono:∀ a0 a1 k,LeO (laws_heldLitS.f k a0 a1) (laws_heldLitS.f (k + 1) a0 a1):=by
 intro a0 a1 k
 have ih0:=laws_heldLitS.mono_l k
 unfold laws_heldLitS.f
 have m0:=@laws_heldIntS.mono
 exact mO
set_option maxHeartbeats 8000000 in
set_option maxRecDepth 100000 in
theorem laws_heldLitS.calls (k:Nat) (A0:Option Addr) (c0:Nat) (l0:List (S65)) (a1:Int) (r:Int) (w:World) (hr0:Kd.C k65 w A0 l0.length l0) (hc0:l0.length ≤ c0) (h:laws_heldLitS.f k l0 a1 = some r) :
  Calls Try.prog 29 #[.slice A0 l0.length c0,.int .i64 a1] w fun e w'=>e = .returned (.int .i64 r) ∧ Drawn0 w w':=by
 have HR0:=Aside0.mk hr0
 have HC0:=Aside0.mk hc0
 clear hr0 hc0
 have H:(laws_heldLitS.l0 k l0 a1 0) = some r:=h
 clear h
 have H':=Aside0.mk H
 clear H
 go_enter Try.func29,Try.ntmps29
 go_wp2
 go_loopg [1,5] k (fun kq v1 v5 w'=>∃ (x1_1:Int) (x5_1:Int),v1 = .int .i64 x1_1 ∧ v5 = .int .i64 x5_1 ∧ Aside0 (laws_heldLitS.l0 kq l0 x1_1 x5_1 = some r) ∧ Aside0 (kq ≤ k) ∧ Drawn0 w w')
 case atStart=>exact ⟨(a1),(0),Yd,Yd,H',⟨Nat.le_refl _⟩,by repeat (first|exact Drawn0.refl _|apply Drawn0.step)⟩
 case round =>
  clear H'
  try clear c2
  try clear p2
  obtain ⟨x1_1,x5_1,rfl,rfl,HA,HK1,⟨m1,rfl⟩⟩:=hrel
  cases gk with
  | zero=>exact absurd HA.out (by simp [laws_heldLitS.l0])
  | succ k1 =>
   have H:=HA.out
   clear HA
   simp only [laws_heldLitS.l0] at H
   by_cases c3:x5_1 < (l0.length:Int)
   ·rw [if_pos c3] at H
    have c3b0:=decide_eq_true c3
    clear c3
    by_cases c4:0 ≤ x5_1
    ·rw [if_pos c4] at H
     have c4b0:=decide_eq_true c4
     clear c4
     by_cases c5:(((rd_T65 l0 x5_1).f0) != ((Int.tmod x1_1 3) == 0)) = true
     ·rw [if_pos c5] at H
      have c5b0:(((rd_T65 l0 x5_1).f0) != ((Int.tmod x1_1 3) == 0)) = true:=c5
      (try (have c5b1:decide (((rd_T65 l0 x5_1).f0) = ((Int.tmod x1_1 3) == 0)) = false:=by simpa using c5))
      (try (have c5b2:(((rd_T65 l0 x5_1).f0) == ((Int.tmod x1_1 3) == 0)) = false:=by simpa using c5))
      (try (have c5b3:¬ (((rd_T65 l0 x5_1).f0) = ((Int.tmod x1_1 3) == 0)):=by simpa using c5))
      clear c5
      obtain rfl:=Option.some.inj H
      have p127:0 ≤ (x5_1:Int):=oD
      have q127:x5_1 < (l0.length:Int):=oD
      obtain ⟨ad127,A127_1,c127_1,A127_2,c127_2,e127,hx127_0,hx127_1,hx127_2,hl127_1,hi127_1,hl127_2,hi127_2⟩:=at_T65 HR0.out x5_1 p127 q127
      cases e127
      have HR127_1:=Aside0.mk hi127_1
      have HC127_1:=Aside0.mk hl127_1
      clear hi127_1 hl127_1
      have HR127_2:=Aside0.mk hi127_2
      have HC127_2:=Aside0.mk hl127_2
      clear hi127_2 hl127_2
      replace p127:=eq_true p127
      replace q127:=eq_true q127
      go_wp2
      go_ret
      exact ⟨by first|rfl|(simp;done)|(simp [*];done),by repeat (first|exact Drawn0.refl _|apply Drawn0.step)⟩
     ·rw [if_neg c5] at H
      have c5b0:(((rd_T65 l0 x5_1).f0) != ((Int.tmod x1_1 3) == 0)) = false:=by simpa using c5
      (try (have c5b1:decide (((rd_T65 l0 x5_1).f0) = ((Int.tmod x1_1 3) == 0)) = true:=by simpa using c5))
      (try (have c5b2:(((rd_T65 l0 x5_1).f0) == ((Int.tmod x1_1 3) == 0)) = true:=by simpa using c5))
      clear c5
      replace H:=Option.bind_eq_some_iff.mp H
      obtain ⟨t129,A60,H⟩:=H
      replace H:(if t129 < 0 then (some (-1)) else ((laws_heldIntS.f k1 ((rd_T65 l0 x5_1).f2) t129).bind fun t131=>(if t131 < 0 then (some (-1)) else (laws_heldLitS.l0 k1 l0 t131 (wrap64 (x5_1 + 1)))))) = some r:=H
      have A6:=Aside0.mk A60
      clear A60
      by_cases c7:t129 < 0
      ·rw [if_pos c7] at H
       have c7b0:=decide_eq_true c7
       clear c7
       obtain rfl:=Option.some.inj H
       have p127:0 ≤ (x5_1:Int):=oD
       have q127:x5_1 < (l0.length:Int):=oD
       obtain ⟨ad127,A127_1,c127_1,A127_2,c127_2,e127,hx127_0,hx127_1,hx127_2,hl127_1,hi127_1,hl127_2,hi127_2⟩:=at_T65 HR0.out x5_1 p127 q127
       cases e127
       have HR127_1:=Aside0.mk hi127_1
       have HC127_1:=Aside0.mk hl127_1
       clear hi127_1 hl127_1
       have HR127_2:=Aside0.mk hi127_2
       have HC127_2:=Aside0.mk hl127_2
       clear hi127_2 hl127_2
       replace p127:=eq_true p127
       replace q127:=eq_true q127
       have p128:0 ≤ (x5_1:Int):=oD
       have q128:x5_1 < (l0.length:Int):=oD
       obtain ⟨ad128,A128_1,c128_1,A128_2,c128_2,e128,hx128_0,hx128_1,hx128_2,hl128_1,hi128_1,hl128_2,hi128_2⟩:=at_T65 HR0.out x5_1 p128 q128
       obtain rfl:ad127 = ad128:=(by injection e128)
       have HR128_1:=Aside0.mk hi128_1
       have HC128_1:=Aside0.mk hl128_1
       clear hi128_1 hl128_1
       have HR128_2:=Aside0.mk hi128_2
       have HC128_2:=Aside0.mk hl128_2
       clear hi128_2 hl128_2
       replace p128:=eq_true p128
       replace q128:=eq_true q128
       have ea_:=Option.some.inj (hx127_1.symm.trans hx128_1)
       injection ea_ with ea_ en_ ec_
       subst ea_
       subst ec_
       clear en_
       have ea_:=Option.some.inj (hx127_2.symm.trans hx128_2)
       injection ea_ with ea_ en_ ec_
       subst ea_
       subst ec_
       clear en_
       go_wp2_with (first|((with_reducible refine gate_callee (f:=24) rfl ?_);refine goesL_ (some 29) rfl rfl Try.func24 (by kernel_rfl) rfl #[.slice A127_1 ((rd_T65 l0 x5_1).f1).length c127_1,.int .i64 (wrap64 (x1_1 + 1))] rfl Ya ?_;(with_reducible refine (laws_heldIntS.calls k1 _ _ ((rd_T65 l0 x5_1).f1) (wrap64 (x1_1 + 1)) t129 _ ?side1 ?side2 A6.out).mono ?_);(case side1=>repeat (first|exact HR128_1.out|(with_reducible refine Kd.C_alloc ?_ _)|(with_reducible refine Kd.C_drewN ?_ _)|(with_reducible refine Kd.C_drew ?_)));(case side2=>exact HC128_1.out);rintro e w' ⟨rfl,⟨nd,rfl⟩⟩;refine ⟨_,rfl,?_⟩))
       go_ret
       exact ⟨by first|rfl|(simp;done)|(simp [*];done),by repeat (first|exact Drawn0.refl _|apply Drawn0.step)⟩
      ·rw [if_neg c7] at H
       have c7b0:decide (t129 < 0) = false:=decide_eq_false c7
       clear c7
       replace H:=Option.bind_eq_some_iff.mp H
       obtain ⟨t131,A80,H⟩:=H
       replace H:(if t131 < 0 then (some (-1)) else (laws_heldLitS.l0 k1 l0 t131 (wrap64 (x5_1 + 1)))) = some r:=H
       have A8:=Aside0.mk A80
       clear A80
       by_cases c9:t131 < 0
       ·rw [if_pos c9] at H
        have c9b0:=decide_eq_true c9
        clear c9
        obtain rfl:=Option.some.inj H
        have p127:0 ≤ (x5_1:Int):=oD
        have q127:x5_1 < (l0.length:Int):=oD
        obtain ⟨ad127,A127_1,c127_1,A127_2,c127_2,e127,hx127_0,hx127_1,hx127_2,hl127_1,hi127_1,hl127_2,hi127_2⟩:=at_T65 HR0.out x5_1 p127 q127
        cases e127
        have HR127_1:=Aside0.mk hi127_1
        have HC127_1:=Aside0.mk hl127_1
        clear hi127_1 hl127_1
        have HR127_2:=Aside0.mk hi127_2
        have HC127_2:=Aside0.mk hl127_2
        clear hi127_2 hl127_2
        replace p127:=eq_true p127
        replace q127:=eq_true q127
        have p128:0 ≤ (x5_1:Int):=oD
        have q128:x5_1 < (l0.length:Int):=oD
        obtain ⟨ad128,A128_1,c128_1,A128_2,c128_2,e128,hx128_0,hx128_1,hx128_2,hl128_1,hi128_1,hl128_2,hi128_2⟩:=at_T65 HR0.out x5_1 p128 q128
        obtain rfl:ad127 = ad128:=(by injection e128)
        have HR128_1:=Aside0.mk hi128_1
        have HC128_1:=Aside0.mk hl128_1
        clear hi128_1 hl128_1
        have HR128_2:=Aside0.mk hi128_2
        have HC128_2:=Aside0.mk hl128_2
        clear hi128_2 hl128_2
        replace p128:=eq_true p128
        replace q128:=eq_true q128
        have ea_:=Option.some.inj (hx127_1.symm.trans hx128_1)
        injection ea_ with ea_ en_ ec_
        subst ea_
        subst ec_
        clear en_
        have ea_:=Option.some.inj (hx127_2.symm.trans hx128_2)
        injection ea_ with ea_ en_ ec_
        subst ea_
        subst ec_
        clear en_
        go_wp2_with (first|((with_reducible refine gate_callee (f:=24) rfl ?_);refine goesL_ (some 29) rfl rfl Try.func24 (by kernel_rfl) rfl #[.slice A127_1 ((rd_T65 l0 x5_1).f1).length c127_1,.int .i64 (wrap64 (x1_1 + 1))] rfl Ya ?_;(with_reducible refine (laws_heldIntS.calls k1 _ _ ((rd_T65 l0 x5_1).f1) (wrap64 (x1_1 + 1)) t129 _ ?side1 ?side2 A6.out).mono ?_);(case side1=>repeat (first|exact HR128_1.out|(with_reducible refine Kd.C_alloc ?_ _)|(with_reducible refine Kd.C_drewN ?_ _)|(with_reducible refine Kd.C_drew ?_)));(case side2=>exact HC128_1.out);rintro e w' ⟨rfl,⟨nd,rfl⟩⟩;refine ⟨_,rfl,?_⟩;have p130:0 ≤ (x5_1:Int):=oD;have q130:x5_1 < (l0.length:Int):=oD;obtain ⟨ad130,A130_1,c130_1,A130_2,c130_2,e130,hx130_0,hx130_1,hx130_2,hl130_1,hi130_1,hl130_2,hi130_2⟩:=at_T65 HR0.out x5_1 p130 q130;obtain rfl:ad127 = ad130:=(by injection e130);have HR130_1:=Aside0.mk hi130_1;have HC130_1:=Aside0.mk hl130_1;clear hi130_1 hl130_1;have HR130_2:=Aside0.mk hi130_2;have HC130_2:=Aside0.mk hl130_2;clear hi130_2 hl130_2;replace p130:=eq_true p130;replace q130:=eq_true q130;have ea_:=Option.some.inj (hx127_1.symm.trans hx130_1);injection ea_ with ea_ en_ ec_;subst ea_;subst ec_;clear en_;have ea_:=Option.some.inj (hx127_2.symm.trans hx130_2);injection ea_ with ea_ en_ ec_;subst ea_;subst ec_;clear en_)|((with_reducible refine gate_callee (f:=24) rfl ?_);refine goesL_ (some 38) rfl rfl Try.func24 (by kernel_rfl) rfl #[.slice A127_2 ((rd_T65 l0 x5_1).f2).length c127_2,.int .i64 t129] rfl Ya ?_;(with_reducible refine (laws_heldIntS.calls k1 _ _ ((rd_T65 l0 x5_1).f2) t129 t131 _ ?side1 ?side2 A8.out).mono ?_);(case side1=>repeat (first|exact HR130_2.out|(with_reducible refine Kd.C_alloc ?_ _)|(with_reducible refine Kd.C_drewN ?_ _)|(with_reducible refine Kd.C_drew ?_)));(case side2=>exact HC130_2.out);rintro e w' ⟨rfl,⟨nd,rfl⟩⟩;refine ⟨_,rfl,?_⟩))
        go_ret
        exact ⟨by first|rfl|(simp;done)|(simp [*];done),by repeat (first|exact Drawn0.refl _|apply Drawn0.step)⟩
       ·rw [if_neg c9] at H
        have c9b0:decide (t131 < 0) = false:=decide_eq_false c9
        clear c9
        have H':=Aside0.mk H
        clear H
        have p127:0 ≤ (x5_1:Int):=oD
        have q127:x5_1 < (l0.length:Int):=oD
        obtain ⟨ad127,A127_1,c127_1,A127_2,c127_2,e127,hx127_0,hx127_1,hx127_2,hl127_1,hi127_1,hl127_2,hi127_2⟩:=at_T65 HR0.out x5_1 p127 q127
        cases e127
        have HR127_1:=Aside0.mk hi127_1
        have HC127_1:=Aside0.mk hl127_1
        clear hi127_1 hl127_1
        have HR127_2:=Aside0.mk hi127_2
        have HC127_2:=Aside0.mk hl127_2
        clear hi127_2 hl127_2
        replace p127:=eq_true p127
        replace q127:=eq_true q127
        have p128:0 ≤ (x5_1:Int):=oD
        have q128:x5_1 < (l0.length:Int):=oD
        obtain ⟨ad128,A128_1,c128_1,A128_2,c128_2,e128,hx128_0,hx128_1,hx128_2,hl128_1,hi128_1,hl128_2,hi128_2⟩:=at_T65 HR0.out x5_1 p128 q128
        obtain rfl:ad127 = ad128:=(by injection e128)
        have HR128_1:=Aside0.mk hi128_1
        have HC128_1:=Aside0.mk hl128_1
        clear hi128_1 hl128_1
        have HR128_2:=Aside0.mk hi128_2
        have HC128_2:=Aside0.mk hl128_2
        clear hi128_2 hl128_2
        replace p128:=eq_true p128
        replace q128:=eq_true q128
        have ea_:=Option.some.inj (hx127_1.symm.trans hx128_1)
        injection ea_ with ea_ en_ ec_
        subst ea_
        subst ec_
        clear en_
        have ea_:=Option.some.inj (hx127_2.symm.trans hx128_2)
        injection ea_ with ea_ en_ ec_
        subst ea_
        subst ec_
        clear en_
        go_wp2_with (first|((with_reducible refine gate_callee (f:=24) rfl ?_);refine goesL_ (some 29) rfl rfl Try.func24 (by kernel_rfl) rfl #[.slice A127_1 ((rd_T65 l0 x5_1).f1).length c127_1,.int .i64 (wrap64 (x1_1 + 1))] rfl Ya ?_;(with_reducible refine (laws_heldIntS.calls k1 _ _ ((rd_T65 l0 x5_1).f1) (wrap64 (x1_1 + 1)) t129 _ ?side1 ?side2 A6.out).mono ?_);(case side1=>repeat (first|exact HR128_1.out|(with_reducible refine Kd.C_alloc ?_ _)|(with_reducible refine Kd.C_drewN ?_ _)|(with_reducible refine Kd.C_drew ?_)));(case side2=>exact HC128_1.out);rintro e w' ⟨rfl,⟨nd,rfl⟩⟩;refine ⟨_,rfl,?_⟩;have p130:0 ≤ (x5_1:Int):=oD;have q130:x5_1 < (l0.length:Int):=oD;obtain ⟨ad130,A130_1,c130_1,A130_2,c130_2,e130,hx130_0,hx130_1,hx130_2,hl130_1,hi130_1,hl130_2,hi130_2⟩:=at_T65 HR0.out x5_1 p130 q130;obtain rfl:ad127 = ad130:=(by injection e130);have HR130_1:=Aside0.mk hi130_1;have HC130_1:=Aside0.mk hl130_1;clear hi130_1 hl130_1;have HR130_2:=Aside0.mk hi130_2;have HC130_2:=Aside0.mk hl130_2;clear hi130_2 hl130_2;replace p130:=eq_true p130;replace q130:=eq_true q130;have ea_:=Option.some.inj (hx127_1.symm.trans hx130_1);injection ea_ with ea_ en_ ec_;subst ea_;subst ec_;clear en_;have ea_:=Option.some.inj (hx127_2.symm.trans hx130_2);injection ea_ with ea_ en_ ec_;subst ea_;subst ec_;clear en_)|((with_reducible refine gate_callee (f:=24) rfl ?_);refine goesL_ (some 38) rfl rfl Try.func24 (by kernel_rfl) rfl #[.slice A127_2 ((rd_T65 l0 x5_1).f2).length c127_2,.int .i64 t129] rfl Ya ?_;(with_reducible refine (laws_heldIntS.calls k1 _ _ ((rd_T65 l0 x5_1).f2) t129 t131 _ ?side1 ?side2 A8.out).mono ?_);(case side1=>repeat (first|exact HR130_2.out|(with_reducible refine Kd.C_alloc ?_ _)|(with_reducible refine Kd.C_drewN ?_ _)|(with_reducible refine Kd.C_drew ?_)));(case side2=>exact HC130_2.out);rintro e w' ⟨rfl,⟨nd,rfl⟩⟩;refine ⟨_,rfl,?_⟩))
        go_roundg k1
        case measure=>have:=HK1.out;omega
        case rel=>exact ⟨(t131),(wrap64 (x5_1 + 1)),Yd,Yd,H',⟨by have:=HK1.out;omega⟩,by repeat (first|exact Drawn0.refl _|apply Drawn0.step)⟩
    ·rw [if_neg c4] at H
     exact absurd H (by simp)
   ·rw [if_neg c3] at H
    have c3b0:decide (x5_1 < (l0.length:Int)) = false:=decide_eq_false c3
    clear c3
    obtain rfl:=Option.some.inj H
    go_wp2
    go_ret
    exact ⟨by first|rfl|(simp;done)|(simp [*];done),by repeat (first|exact Drawn0.refl _|apply Drawn0.step)⟩

/-! ### spec_l1In: function 94 -/
def spec_l1In.f (a0:Int) (a1:Int) (a2:Int):Option (Bool):=if a0 ≥ a1 then (some (decide (a0 ≤ a2))) else (some false)
set_option maxHeartbeats 8000000 in
set_option maxRecDepth 100000 in
theorem spec_l1In.calls (a0:Int) (a1:Int) (a2:Int) (r:Bool) (w:World) (h:spec_l1In.f a0 a1 a2 = some r) :
  Calls Try.prog 94 #[.int .i64 a0,.int .i64 a1,.int .i64 a2] w fun e w'=>e = .returned (.bool r) ∧ Drawn0 w w':=by
 have H:(if a0 ≥ a1 then (some (decide (a0 ≤ a2))) else (some false)) = some r:=h
 clear h
 by_cases c4:a0 ≥ a1
 ·rw [if_pos c4] at H
  have c4b0:decide (a1 ≤ a0) = true:=decide_eq_true c4
  clear c4
  obtain rfl:=Option.some.inj H
  go_enter Try.func94,Try.ntmps94
  go_wp2
  go_ret
  exact ⟨by first|rfl|(simp;done)|(simp [*];done),by repeat (first|exact Drawn0.refl _|apply Drawn0.step)⟩
 ·rw [if_neg c4] at H
  have c4b0:decide (a1 ≤ a0) = false:=decide_eq_false c4
  clear c4
  obtain rfl:=Option.some.inj H
  go_enter Try.func94,Try.ntmps94
  go_wp2
  go_ret
  exact ⟨by first|rfl|(simp;done)|(simp [*];done),by repeat (first|exact Drawn0.refl _|apply Drawn0.step)⟩

/-! ### spec_l1All: function 88 -/
def spec_l1All.l0:Nat → Int → Int → List Int → Int → Int → Option (Bool)
 | 0,_,_,_,_,_=>none
 | k + 1,x1,x2,x9,x10,x11=>if x11 < x10 then (if 0 ≤ x11 then (if x11 < (x9.length:Int) then ((spec_l1In.f (rd x9 x11) x1 x2).bind fun t133=>(if t133 = true then (spec_l1All.l0 k x1 x2 x9 x10 (wrap64 (x11 + 1))) else (some false))) else (none)) else (none)) else (some true)
def spec_l1All.f (k:Nat) (l0:List Int) (a1:Int) (a2:Int):Option (Bool):=spec_l1All.l0 k a1 a2 l0 (l0.length:Int) 0
theorem spec_l1All.mono_l:∀ k,(∀ y0 y1 y2 y3 y4,LeO (spec_l1All.l0 k y0 y1 y2 y3 y4) (spec_l1All.l0 (k + 1) y0 y1 y2 y3 y4))
 | 0=>fun _ _ _ _ _ r h=>by simp [spec_l1All.l0] at h
 | k + 1=>by
  have ih0:=spec_l1All.mono_l k
  ·intro y0 y1 y2 y3 y4
   unfold spec_l1All.l0
   exact mO
theorem spec_l1All.mono:∀ a0 a1 a2 k,LeO (spec_l1All.f k a0 a1 a2) (spec_l1All.f (k + 1) a0 a1 a2):=by
 intro a0 a1 a2 k
 have ih0:=spec_l1All.mono_l k
 unfold spec_l1All.f
 exact mO
set_option maxHeartbeats 8000000 in
set_option maxRecDepth 100000 in
theorem spec_l1All.calls (k:Nat) (A0:Option Addr) (c0:Nat) (l0:List Int) (a1:Int) (a2:Int) (r:Bool) (w:World) (hr0:Kd.C (Kd.int .i64) w A0 l0.length l0) (hc0:l0.length ≤ c0) (h:spec_l1All.f k l0 a1 a2 = some r) :
  Calls Try.prog 88 #[.slice A0 l0.length c0,.int .i64 a1,.int .i64 a2] w fun e w'=>e = .returned (.bool r) ∧ Drawn0 w w':=by
 have HR0:=Aside0.mk hr0
 have HC0:=Aside0.mk hc0
 clear hr0 hc0
 have H:(spec_l1All.l0 k a1 a2 l0 (l0.length:Int) 0) = some r:=h
 clear h
 have H':=Aside0.mk H
 clear H
 go_enter Try.func88,Try.ntmps88
 go_wp2
 go_loopg [11] k (fun kq v11 w'=>∃ (x11_1:Int),v11 = .int .i64 x11_1 ∧ Aside0 (spec_l1All.l0 kq a1 a2 l0 (l0.length:Int) x11_1 = some r) ∧ Aside0 (kq ≤ k) ∧ Drawn0 w w')
 case atStart=>exact ⟨(0),Yd,H',⟨Nat.le_refl _⟩,by repeat (first|exact Drawn0.refl _|apply Drawn0.step)⟩
 case round =>
  clear H'
  try clear p2
  obtain ⟨x11_1,rfl,HA,HK1,⟨m1,rfl⟩⟩:=hrel
  cases gk with
  | zero=>exact absurd HA.out (by simp [spec_l1All.l0])
  | succ k1 =>
   have H:=HA.out
   clear HA
   simp only [spec_l1All.l0] at H
   by_cases c4:x11_1 < (l0.length:Int)
   ·rw [if_pos c4] at H
    have c4b0:=decide_eq_true c4
    clear c4
    by_cases c5:0 ≤ x11_1
    ·rw [if_pos c5] at H
     have c5b0:=decide_eq_true c5
     clear c5
     by_cases c6:x11_1 < (l0.length:Int)
     ·rw [if_pos c6] at H
      have c6b0:=decide_eq_true c6
      clear c6
      replace H:=Option.bind_eq_some_iff.mp H
      obtain ⟨t133,A70,H⟩:=H
      replace H:(if t133 = true then (spec_l1All.l0 k1 a1 a2 l0 (l0.length:Int) (wrap64 (x11_1 + 1))) else (some false)) = some r:=H
      have A7:=Aside0.mk A70
      clear A70
      by_cases c8:t133 = true
      ·subst c8
       have H1:(spec_l1All.l0 k1 a1 a2 l0 (l0.length:Int) (wrap64 (x11_1 + 1))) = some r:=by rw [if_pos rfl] at H;exact H
       clear H
       have H:=H1
       clear H1
       have H':=Aside0.mk H
       clear H
       have p132:0 ≤ (x11_1:Int):=oD
       have q132:x11_1 < (l0.length:Int):=oD
       obtain ⟨ad132,e132,hx132_0⟩:=Kd.at_int HR0.out x11_1 p132 q132
       cases e132
       replace p132:=eq_true p132
       replace q132:=eq_true q132
       go_wp2_with (first|((with_reducible refine gate_callee (f:=94) rfl ?_);refine goesL_ (some 18) rfl rfl Try.func94 (by kernel_rfl) rfl #[.int .i64 (rd l0 x11_1),.int .i64 a1,.int .i64 a2] rfl Ya ?_;(with_reducible refine (spec_l1In.calls (rd l0 x11_1) a1 a2 true _ A7.out).mono ?_);rintro e w' ⟨rfl,⟨nd,rfl⟩⟩;refine ⟨_,rfl,?_⟩))
       go_roundg k1
       case measure=>have:=HK1.out;omega
       case rel=>exact ⟨(wrap64 (x11_1 + 1)),Yd,H',⟨by have:=HK1.out;omega⟩,by repeat (first|exact Drawn0.refl _|apply Drawn0.step)⟩
      ·replace c8:=Bool.eq_false_iff.mpr c8
       subst c8
       have H1:(some false) = some r:=by rw [if_neg (show ¬ (false = true) by decide)] at H;exact H
       clear H
       have H:=H1
       clear H1
       obtain rfl:=Option.some.inj H
       have p132:0 ≤ (x11_1:Int):=oD
       have q132:x11_1 < (l0.length:Int):=oD
       obtain ⟨ad132,e132,hx132_0⟩:=Kd.at_int HR0.out x11_1 p132 q132
       cases e132
       replace p132:=eq_true p132
       replace q132:=eq_true q132
       go_wp2_with (first|((with_reducible refine gate_callee (f:=94) rfl ?_);refine goesL_ (some 18) rfl rfl Try.func94 (by kernel_rfl) rfl #[.int .i64 (rd l0 x11_1),.int .i64 a1,.int .i64 a2] rfl Ya ?_;(with_reducible refine (spec_l1In.calls (rd l0 x11_1) a1 a2 false _ A7.out).mono ?_);rintro e w' ⟨rfl,⟨nd,rfl⟩⟩;refine ⟨_,rfl,?_⟩))
       go_ret
       exact ⟨by first|rfl|(simp;done)|(simp [*];done),by repeat (first|exact Drawn0.refl _|apply Drawn0.step)⟩
     ·rw [if_neg c6] at H
      exact absurd H (by simp)
    ·rw [if_neg c5] at H
     exact absurd H (by simp)
   ·rw [if_neg c4] at H
    have c4b0:decide (x11_1 < (l0.length:Int)) = false:=decide_eq_false c4
    clear c4
    obtain rfl:=Option.some.inj H
    go_wp2
    go_ret
    exact ⟨by first|rfl|(simp;done)|(simp [*];done),by repeat (first|exact Drawn0.refl _|apply Drawn0.step)⟩

/-! ### spec_GoodSign: function 61 -/
def spec_GoodSign.f (k:Nat) (l0_0:List Int):Option (Bool):=(spec_l1In.f (l0_0.length:Int) 1 10).bind fun t135=>(if t135 = true then ((spec_l1All.f k l0_0 0 3).bind fun t136=>(if t136 = true then (if 0 < (l0_0.length:Int) then (some ((rd l0_0 0) == 0)) else (none)) else (some false))) else (some false))
theorem spec_GoodSign.mono:∀ a0 k,LeO (spec_GoodSign.f k a0) (spec_GoodSign.f (k + 1) a0):=by
 intro a0 k
 unfold spec_GoodSign.f
 have m0:=@spec_l1All.mono
 exact mO
set_option maxHeartbeats 8000000 in
set_option maxRecDepth 100000 in
theorem spec_GoodSign.calls (k:Nat) (A0_0:Option Addr) (c0_0:Nat) (l0_0:List Int) (r:Bool) (w:World) (hr0_0:Kd.C (Kd.int .i64) w A0_0 l0_0.length l0_0) (hc0_0:l0_0.length ≤ c0_0) (h:spec_GoodSign.f k l0_0 = some r) :
  Calls Try.prog 61 #[.agg #[.slice A0_0 l0_0.length c0_0]] w fun e w'=>e = .returned (.bool r) ∧ Below w.heap.size w w':=by
 have hu30:=Try.underlying30
 have HR0_0:=Aside0.mk hr0_0
 have HC0_0:=Aside0.mk hc0_0
 clear hr0_0 hc0_0
 have HB:=Aside0.mk (Below.refl w.heap.size w)
 have H:((spec_l1In.f (l0_0.length:Int) 1 10).bind fun t135=>(if t135 = true then ((spec_l1All.f k l0_0 0 3).bind fun t136=>(if t136 = true then (if 0 < (l0_0.length:Int) then (some ((rd l0_0 0) == 0)) else (none)) else (some false))) else (some false))) = some r:=h
 clear h
 replace H:=Option.bind_eq_some_iff.mp H
 obtain ⟨t135,A20,H⟩:=H
 replace H:(if t135 = true then ((spec_l1All.f k l0_0 0 3).bind fun t136=>(if t136 = true then (if 0 < (l0_0.length:Int) then (some ((rd l0_0 0) == 0)) else (none)) else (some false))) else (some false)) = some r:=H
 have A2:=Aside0.mk A20
 clear A20
 by_cases c3:t135 = true
 ·subst c3
  have H1:((spec_l1All.f k l0_0 0 3).bind fun t136=>(if t136 = true then (if 0 < (l0_0.length:Int) then (some ((rd l0_0 0) == 0)) else (none)) else (some false))) = some r:=by rw [if_pos rfl] at H;exact H
  clear H
  have H:=H1
  clear H1
  replace H:=Option.bind_eq_some_iff.mp H
  obtain ⟨t136,A40,H⟩:=H
  replace H:(if t136 = true then (if 0 < (l0_0.length:Int) then (some ((rd l0_0 0) == 0)) else (none)) else (some false)) = some r:=H
  have A4:=Aside0.mk A40
  clear A40
  by_cases c5:t136 = true
  ·subst c5
   have H1:(if 0 < (l0_0.length:Int) then (some ((rd l0_0 0) == 0)) else (none)) = some r:=by rw [if_pos rfl] at H;exact H
   clear H
   have H:=H1
   clear H1
   by_cases c6:0 < (l0_0.length:Int)
   ·rw [if_pos c6] at H
    have c6b0:=decide_eq_true c6
    have c6b1:decide (0 < l0_0.length) = true:=decide_eq_true (by omega)
    clear c6
    obtain rfl:=Option.some.inj H
    go_enter Try.func61,Try.ntmps61
    go_wp2_with (first|((with_reducible refine gate_dst (N:=1) rfl ?_);refine box_event ?hg (N:=1) ?hd (cs:=#[.slice A0_0 l0_0.length c0_0]) (t:=30) ?hr ?_;(case hd=>rfl);(case hg=>rfl);(case hr=>first|(go_simp;done)|(go_simp;rfl));intro gb134 hg w7 hbox hb;have BK134:=Aside0.mk (hbox);have GW134:=Aside0.mk ((hZ:w.heap.size ≤ gb134));have GE134:=Aside0.mk ((hZ:w.heap.size ≤ gb134));replace HB:=Aside0.mk (below_step bH hb);clear hb hbox hg;have hcz8_0:w7.cell? ⟨gb134,0,none⟩ = some (.slice A0_0 l0_0.length c0_0):=(blk_cell BK134.out 0).trans rfl;have hfz8_0:=blk_frozen BK134.out 0)|((with_reducible refine gate_callee (f:=94) rfl ?_);refine goesL_ (some 6) rfl rfl Try.func94 (by kernel_rfl) rfl #[.int .i64 (l0_0.length:Int),.int .i64 1,.int .i64 10] rfl Ya ?_;(with_reducible refine (spec_l1In.calls (l0_0.length:Int) 1 10 true _ A2.out).mono ?_);rintro e w' ⟨rfl,⟨nd,rfl⟩⟩;refine ⟨_,rfl,?_⟩)|(go_at_call 88;(with_reducible refine (spec_l1All.calls k _ _ l0_0 0 3 true _ ?side1 ?side2 A4.out).mono ?_);(case side1=>repeat (first|exact (Kd.C_below HR0_0.out bH)|(with_reducible refine Kd.C_alloc ?_ _)|(with_reducible refine Kd.C_drewN ?_ _)|(with_reducible refine Kd.C_drew ?_)));(case side2=>exact HC0_0.out);rintro e w' ⟨rfl,⟨nd,rfl⟩⟩;have p137:0 ≤ (0:Int):=(by omega);have q137:0 < (l0_0.length:Int):=oD;obtain ⟨ad137,e137,hx137_0⟩:=Kd.at_int HR0_0.out 0 p137 q137;cases e137;have qi137:(0 < l0_0.length) = True:=eq_true (by omega);(try rw [show ((0:Int)).toNat = 0 from rfl] at hx137_0);(try rw [Addr.add_zero'] at hx137_0);replace hx137_0:=(HB.out.cell (World.block_lt_of_cell? w _ hx137_0)).trans hx137_0;replace p137:=eq_true p137;replace q137:=eq_true q137))
    go_ret
    exact ⟨by first|rfl|(simp [errW_none,errW_some] <;> rfl)|(simp [*,errW_none,errW_some] <;> rfl),bH⟩
   ·rw [if_neg c6] at H
    exact absurd H (by simp)
  ·replace c5:=Bool.eq_false_iff.mpr c5
   subst c5
   have H1:(some false) = some r:=by rw [if_neg (show ¬ (false = true) by decide)] at H;exact H
   clear H
   have H:=H1
   clear H1
   obtain rfl:=Option.some.inj H
   go_enter Try.func61,Try.ntmps61
   go_wp2_with (first|((with_reducible refine gate_dst (N:=1) rfl ?_);refine box_event ?hg (N:=1) ?hd (cs:=#[.slice A0_0 l0_0.length c0_0]) (t:=30) ?hr ?_;(case hd=>rfl);(case hg=>rfl);(case hr=>first|(go_simp;done)|(go_simp;rfl));intro gb134 hg w9 hbox hb;have BK134:=Aside0.mk (hbox);have GW134:=Aside0.mk ((hZ:w.heap.size ≤ gb134));have GE134:=Aside0.mk ((hZ:w.heap.size ≤ gb134));replace HB:=Aside0.mk (below_step bH hb);clear hb hbox hg;have hcz10_0:w9.cell? ⟨gb134,0,none⟩ = some (.slice A0_0 l0_0.length c0_0):=(blk_cell BK134.out 0).trans rfl;have hfz10_0:=blk_frozen BK134.out 0)|((with_reducible refine gate_callee (f:=94) rfl ?_);refine goesL_ (some 6) rfl rfl Try.func94 (by kernel_rfl) rfl #[.int .i64 (l0_0.length:Int),.int .i64 1,.int .i64 10] rfl Ya ?_;(with_reducible refine (spec_l1In.calls (l0_0.length:Int) 1 10 true _ A2.out).mono ?_);rintro e w' ⟨rfl,⟨nd,rfl⟩⟩;refine ⟨_,rfl,?_⟩)|(go_at_call 88;(with_reducible refine (spec_l1All.calls k _ _ l0_0 0 3 false _ ?side1 ?side2 A4.out).mono ?_);(case side1=>repeat (first|exact (Kd.C_below HR0_0.out bH)|(with_reducible refine Kd.C_alloc ?_ _)|(with_reducible refine Kd.C_drewN ?_ _)|(with_reducible refine Kd.C_drew ?_)));(case side2=>exact HC0_0.out);rintro e w' ⟨rfl,⟨nd,rfl⟩⟩))
   go_ret
   exact ⟨by first|rfl|(simp [errW_none,errW_some] <;> rfl)|(simp [*,errW_none,errW_some] <;> rfl),bH⟩
 ·replace c3:=Bool.eq_false_iff.mpr c3
  subst c3
  have H1:(some false) = some r:=by rw [if_neg (show ¬ (false = true) by decide)] at H;exact H
  clear H
  have H:=H1
  clear H1
  obtain rfl:=Option.some.inj H
  go_enter Try.func61,Try.ntmps61
  go_wp2_with (first|((with_reducible refine gate_dst (N:=1) rfl ?_);refine box_event ?hg (N:=1) ?hd (cs:=#[.slice A0_0 l0_0.length c0_0]) (t:=30) ?hr ?_;(case hd=>rfl);(case hg=>rfl);(case hr=>first|(go_simp;done)|(go_simp;rfl));intro gb134 hg w11 hbox hb;have BK134:=Aside0.mk (hbox);have GW134:=Aside0.mk ((hZ:w.heap.size ≤ gb134));have GE134:=Aside0.mk ((hZ:w.heap.size ≤ gb134));replace HB:=Aside0.mk (below_step bH hb);clear hb hbox hg;have hcz12_0:w11.cell? ⟨gb134,0,none⟩ = some (.slice A0_0 l0_0.length c0_0):=(blk_cell BK134.out 0).trans rfl;have hfz12_0:=blk_frozen BK134.out 0)|((with_reducible refine gate_callee (f:=94) rfl ?_);refine goesL_ (some 6) rfl rfl Try.func94 (by kernel_rfl) rfl #[.int .i64 (l0_0.length:Int),.int .i64 1,.int .i64 10] rfl Ya ?_;(with_reducible refine (spec_l1In.calls (l0_0.length:Int) 1 10 false _ A2.out).mono ?_);rintro e w' ⟨rfl,⟨nd,rfl⟩⟩;refine ⟨_,rfl,?_⟩))
  go_ret
  exact ⟨by first|rfl|(simp [errW_none,errW_some] <;> rfl)|(simp [*,errW_none,errW_some] <;> rfl),bH⟩

end Go.Proofs.Ytlgnanbnicmdaab.QFnExactReadClause
