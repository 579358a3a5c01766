-- Written by this session's own program (wip/x/xprint.py, over the kit's printer); Lean checks it.
import Derived.Test.YtamiedpgahpihaaQFnExactPutTextx0
import Derived.Test.YtamiedpgahpihaaQFnExactPutTextx2
import Derived.Test.YtamiedpgahpihaaQFnExactPutTextx3
namespace Go.Proofs.Ytamiedpgahpihaa.QFnExactPutText
open Go.RowKit Go.Proofs.YtamiedpgahpihaaW.PrintWords Go.Proofs.YtamiedpgahpihaaW.PrintLast Go.Proofs.YtamiedpgahpihaaW.PrintMore
attribute [local go_sem] max2_int min2_int max_two min_two max_three min_three max_four min_four   -- for this text's walks alone
set_option linter.unusedVariables false
set_option linter.unusedSimpArgs false

/-! ### spec_ReadSector: function 11 -/
def spec_ReadSector.j0:Nat → Int → ByteArray → Bool → Option (ByteArray × Bool × Bool)
 | 0,_,_,_=>none
 | k + 1,x0,x1,x16=>if x16 = true then (some ((⟨#[]⟩:ByteArray),false,false)) else (if 2 < (x1.size:Int) then (if (Int.tmod (wrap64 (bt x1 2)) 128) > 10 then (some ((⟨#[]⟩:ByteArray),false,false)) else (if 3 ≤ (wrap64 (3 + (Int.tmod (wrap64 (bt x1 2)) 128))) then (if (wrap64 (3 + (Int.tmod (wrap64 (bt x1 2)) 128))) ≤ (x1.size:Int) then ((spec_l13Sector.f k x0 (decide ((bt x1 2) ≥ 128)) (x1.extract 3 ((wrap64 (3 + (Int.tmod (wrap64 (bt x1 2)) 128))):Int).toNat)).bind fun t172=>(if t172.toList = x1.toList then (some (x1.extract 3 ((wrap64 (3 + (Int.tmod (wrap64 (bt x1 2)) 128))):Int).toNat,decide ((bt x1 2) ≥ 128),true)) else (some ((⟨#[]⟩:ByteArray),false,false)))) else (none)) else (none))) else (none))
def spec_ReadSector.f (k:Nat) (a0:Int) (a1:ByteArray):Option (ByteArray × Bool × Bool):=(spec_l1In.f a0 0 399).bind fun t171=>(if t171 = true then (spec_ReadSector.j0 k a0 a1 ((a1.size:Int) != 16)) else (spec_ReadSector.j0 k a0 a1 true))
theorem spec_ReadSector.mono_l:∀ k,(∀ y0 y1 y2,LeO (spec_ReadSector.j0 k y0 y1 y2) (spec_ReadSector.j0 (k + 1) y0 y1 y2))
 | 0=>fun _ _ _ r h=>by simp [spec_ReadSector.j0] at h
 | k + 1=>by
  have ih0:=spec_ReadSector.mono_l k
  ·intro y0 y1 y2
   unfold spec_ReadSector.j0
   repeat' first
   | (with_reducible exact ih0 _ _ _)
   | (with_reducible exact spec_l13Sector.mono _ _ _ _)
   | (with_reducible exact LeO.refl _)
   | (with_reducible exact LeO.none _)
   | (with_reducible refine LeO.ite ?_ ?_)
   | (with_reducible refine LeO.bind ?_ (fun _=>?_))
   | exact ih0 _ _ _
   | exact spec_l13Sector.mono _ _ _ _
   | exact LeO.none _
   | refine LeO.ite ?_ ?_
   | refine LeO.bind ?_ (fun _=>?_)
theorem spec_ReadSector.mono:∀ a0 a1 k,LeO (spec_ReadSector.f k a0 a1) (spec_ReadSector.f (k + 1) a0 a1):=by
 intro a0 a1 k
 have ih0:=spec_ReadSector.mono_l k
 unfold spec_ReadSector.f
 repeat' first
   | (with_reducible exact ih0 _ _ _)
   | (with_reducible exact spec_l13Sector.mono _ _ _ _)
   | (with_reducible exact LeO.refl _)
   | (with_reducible exact LeO.none _)
   | (with_reducible refine LeO.ite ?_ ?_)
   | (with_reducible refine LeO.bind ?_ (fun _=>?_))
   | exact ih0 _ _ _
   | exact spec_l13Sector.mono _ _ _ _
   | exact LeO.none _
   | refine LeO.ite ?_ ?_
   | refine LeO.bind ?_ (fun _=>?_)
set_option maxHeartbeats 8000000 in
set_option maxRecDepth 100000 in
theorem spec_ReadSector.calls (k:Nat) (a0:Int) (a1:ByteArray) (r1:ByteArray) (r2:Bool) (r3:Bool) (w:World) (h:spec_ReadSector.f k a0 a1 = some (r1,r2,r3)) :
  Calls Try.prog 11 #[.int .i64 a0,.string a1] w fun e w'=>e = .returned (.tuple #[.string r1,.bool r2,.bool r3]) ∧ Below w.heap.size w w':=by
 have HB:=Aside0.mk (Below.refl w.heap.size w)
 have H:((spec_l1In.f a0 0 399).bind fun t171=>(if t171 = true then (spec_ReadSector.j0 k a0 a1 ((a1.size:Int) != 16)) else (spec_ReadSector.j0 k a0 a1 true))) = some (r1,r2,r3):=h
 clear h
 have HC3:=Aside0.mk H
 clear H
 go_enter Try.func11,Try.ntmps11
 go_upto_region 1 with (fail)
 go_cut [16] (fun v16 wc=>∃ (kq:Nat) (x16_2:Bool),v16 = .bool x16_2 ∧ Aside0 (spec_ReadSector.j0 kq a0 a1 x16_2 = some (r1,r2,r3)) ∧ Aside0 (kq ≤ k) ∧ Aside0 (Below w.heap.size w wc))
 case first =>
  have H:=HC3.out
  clear HC3
  replace H:=Option.bind_eq_some_iff.mp H
  obtain ⟨t171,A40,H⟩:=H
  replace H:(if t171 = true then (spec_ReadSector.j0 k a0 a1 ((a1.size:Int) != 16)) else (spec_ReadSector.j0 k a0 a1 true)) = some (r1,r2,r3):=H
  have A4:=Aside0.mk A40
  clear A40
  by_cases c5:t171 = true
  ·subst c5
   have H1:(spec_ReadSector.j0 k a0 a1 ((a1.size:Int) != 16)) = some (r1,r2,r3):=by rw [if_pos rfl] at H;exact H
   clear H
   have H:=H1
   clear H1
   have H':=Aside0.mk H
   clear H
   go_wp2_with (first|((with_reducible refine gate_callee (f:=29) rfl ?_);refine goesL_ (some 10) rfl rfl Try.func29 (by kernel_rfl) rfl #[.int .i64 a0,.int .i64 0,.int .i64 399] rfl (by (try simp only [List.map_toArray,List.map_cons,List.map_nil]);first|done|rfl|(simp only [List.length_drop,List.length_take];rfl)) ?_;(with_reducible refine (spec_l1In.calls a0 0 399 true _ A4.out).mono ?_);rintro e w' ⟨rfl,⟨nd,rfl⟩⟩;refine ⟨_,rfl,?_⟩))
   go_meet
   case rel=>exact ⟨_,(((a1.size:Int) != 16)),(by first|rfl|(simp;done)|(simp [*];done)),H',⟨by first|omega|exact Nat.le_refl _⟩,⟨by repeat (first|(with_reducible first|exact HB.out|apply below_alloc|apply pw_below_drewN|apply below_drew1)|exact HB.out)⟩⟩
  ·replace c5:=Bool.eq_false_iff.mpr c5
   subst c5
   have H1:(spec_ReadSector.j0 k a0 a1 true) = some (r1,r2,r3):=by rw [if_neg (show ¬ (false = true) by decide)] at H;exact H
   clear H
   have H:=H1
   clear H1
   have H':=Aside0.mk H
   clear H
   go_wp2_with (first|((with_reducible refine gate_callee (f:=29) rfl ?_);refine goesL_ (some 10) rfl rfl Try.func29 (by kernel_rfl) rfl #[.int .i64 a0,.int .i64 0,.int .i64 399] rfl (by (try simp only [List.map_toArray,List.map_cons,List.map_nil]);first|done|rfl|(simp only [List.length_drop,List.length_take];rfl)) ?_;(with_reducible refine (spec_l1In.calls a0 0 399 false _ A4.out).mono ?_);rintro e w' ⟨rfl,⟨nd,rfl⟩⟩;refine ⟨_,rfl,?_⟩))
   go_meet
   case rel=>exact ⟨_,(true),(by first|rfl|(simp;done)|(simp [*];done)),H',⟨by first|omega|exact Nat.le_refl _⟩,⟨by repeat (first|(with_reducible first|exact HB.out|apply below_alloc|apply pw_below_drewN|apply below_drew1)|exact HB.out)⟩⟩
 case rest =>
  clear HC3
  try clear c1
  try clear c2
  try clear p2
  try clear c5
  obtain ⟨kq,x16_2,rfl,HA,HJ2,HB⟩:=hcut
  cases kq with
  | zero=>exact absurd HA.out (by simp [spec_ReadSector.j0])
  | succ kj2 =>
   have H:=HA.out
   clear HA
   simp only [spec_ReadSector.j0] at H
   by_cases c6:x16_2 = true
   ·subst c6
    have H1:(some ((⟨#[]⟩:ByteArray),false,false)) = some (r1,r2,r3):=by rw [if_pos rfl] at H;exact H
    clear H
    have H:=H1
    clear H1
    simp only [Option.some.injEq,Prod.mk.injEq] at H
    obtain ⟨rfl,rfl,rfl⟩:=H
    go_wp2
    go_ret3
    exact ⟨by first|rfl|(simp [errW_none,errW_some] <;> rfl)|(simp [*,errW_none,errW_some] <;> rfl),by repeat (first|(with_reducible first|exact HB.out|apply below_alloc|apply pw_below_drewN|apply below_drew1)|exact HB.out)⟩
   ·replace c6:=Bool.eq_false_iff.mpr c6
    subst c6
    have H1:(if 2 < (a1.size:Int) then (if (Int.tmod (wrap64 (bt a1 2)) 128) > 10 then (some ((⟨#[]⟩:ByteArray),false,false)) else (if 3 ≤ (wrap64 (3 + (Int.tmod (wrap64 (bt a1 2)) 128))) then (if (wrap64 (3 + (Int.tmod (wrap64 (bt a1 2)) 128))) ≤ (a1.size:Int) then ((spec_l13Sector.f kj2 a0 (decide ((bt a1 2) ≥ 128)) (a1.extract 3 ((wrap64 (3 + (Int.tmod (wrap64 (bt a1 2)) 128))):Int).toNat)).bind fun t172=>(if t172.toList = a1.toList then (some (a1.extract 3 ((wrap64 (3 + (Int.tmod (wrap64 (bt a1 2)) 128))):Int).toNat,decide ((bt a1 2) ≥ 128),true)) else (some ((⟨#[]⟩:ByteArray),false,false)))) else (none)) else (none))) else (none)) = some (r1,r2,r3):=by rw [if_neg (show ¬ (false = true) by decide)] at H;exact H
    clear H
    have H:=H1
    clear H1
    by_cases c7:2 < (a1.size:Int)
    ·rw [if_pos c7] at H
     have c7b0:decide (2 < (a1.size:Int)) = true:=decide_eq_true c7
     have c7b1:decide (2 < a1.size) = true:=decide_eq_true (by omega)
     clear c7
     by_cases c10:(Int.tmod (wrap64 (bt a1 2)) 128) > 10
     ·rw [if_pos c10] at H
      have c10b0:decide (10 < (Int.tmod (wrap64 (bt a1 2)) 128)) = true:=decide_eq_true c10
      clear c10
      simp only [Option.some.injEq,Prod.mk.injEq] at H
      obtain ⟨rfl,rfl,rfl⟩:=H
      have p8:0 ≤ (2:Int):=(by omega)
      have q8:2 < a1.size:=(by have:(2:Int) < (a1.size:Int):=of_decide_eq_true (by first|(with_reducible assumption)|assumption);omega)
      have hx8:∀ h:2 < a1.size,((a1[2]'h).toNat:Int) = bt a1 2:=bt_at a1 2
      clear p8
      have qi8:(2 < (a1.size:Int)) = True:=eq_true (of_decide_eq_true (by first|(with_reducible assumption)|assumption))
      replace q8:=eq_true q8
      have p9:0 ≤ (2:Int):=(by omega)
      have q9:2 < a1.size:=(by have:(2:Int) < (a1.size:Int):=of_decide_eq_true (by first|(with_reducible assumption)|assumption);omega)
      have hx9:∀ h:2 < a1.size,((a1[2]'h).toNat:Int) = bt a1 2:=bt_at a1 2
      clear p9
      have qi9:(2 < (a1.size:Int)) = True:=eq_true (of_decide_eq_true (by first|(with_reducible assumption)|assumption))
      replace q9:=eq_true q9
      go_wp2
      go_ret3
      exact ⟨by first|rfl|(simp [errW_none,errW_some] <;> rfl)|(simp [*,errW_none,errW_some] <;> rfl),by repeat (first|(with_reducible first|exact HB.out|apply below_alloc|apply pw_below_drewN|apply below_drew1)|exact HB.out)⟩
     ·rw [if_neg c10] at H
      have c10b0:decide (10 < (Int.tmod (wrap64 (bt a1 2)) 128)) = false:=decide_eq_false c10
      clear c10
      by_cases c11:3 ≤ (wrap64 (3 + (Int.tmod (wrap64 (bt a1 2)) 128)))
      ·rw [if_pos c11] at H
       have c11b0:=eq_true c11
       have c11b1:decide (3 ≤ (wrap64 (3 + (Int.tmod (wrap64 (bt a1 2)) 128)))) = true:=decide_eq_true c11
       by_cases c12:(wrap64 (3 + (Int.tmod (wrap64 (bt a1 2)) 128))) ≤ (a1.size:Int)
       ·rw [if_pos c12] at H
        have c12b0:=eq_true c12
        have c12b1:decide ((wrap64 (3 + (Int.tmod (wrap64 (bt a1 2)) 128))) ≤ (a1.size:Int)) = true:=decide_eq_true c12
        replace H:=Option.bind_eq_some_iff.mp H
        obtain ⟨t172,A130,H⟩:=H
        replace H:(if t172.toList = a1.toList then (some (a1.extract 3 ((wrap64 (3 + (Int.tmod (wrap64 (bt a1 2)) 128))):Int).toNat,decide ((bt a1 2) ≥ 128),true)) else (some ((⟨#[]⟩:ByteArray),false,false))) = some (r1,r2,r3):=H
        have A13:=Aside0.mk A130
        clear A130
        by_cases c14:t172.toList = a1.toList
        ·rw [if_pos c14] at H
         have c14b0:(t172.toList == a1.toList) = true:=beq_iff_eq.mpr c14
         have c14b1:(t172.toList != a1.toList) = false:=bne_eq_false_iff_eq.mpr c14
         clear c14
         have c15b0:=eq_true (of_decide_eq_true (by first|(with_reducible assumption)|assumption):3 ≤ (wrap64 (3 + (Int.tmod (wrap64 (bt a1 2)) 128))))
         have c16b0:=eq_true (of_decide_eq_true (by first|(with_reducible assumption)|assumption):(wrap64 (3 + (Int.tmod (wrap64 (bt a1 2)) 128))) ≤ (a1.size:Int))
         simp only [Option.some.injEq,Prod.mk.injEq] at H
         obtain ⟨rfl,rfl,rfl⟩:=H
         have p8:0 ≤ (2:Int):=(by omega)
         have q8:2 < a1.size:=(by have:(2:Int) < (a1.size:Int):=of_decide_eq_true (by first|(with_reducible assumption)|assumption);omega)
         have hx8:∀ h:2 < a1.size,((a1[2]'h).toNat:Int) = bt a1 2:=bt_at a1 2
         clear p8
         have qi8:(2 < (a1.size:Int)) = True:=eq_true (of_decide_eq_true (by first|(with_reducible assumption)|assumption))
         replace q8:=eq_true q8
         have p9:0 ≤ (2:Int):=(by omega)
         have q9:2 < a1.size:=(by have:(2:Int) < (a1.size:Int):=of_decide_eq_true (by first|(with_reducible assumption)|assumption);omega)
         have hx9:∀ h:2 < a1.size,((a1[2]'h).toNat:Int) = bt a1 2:=bt_at a1 2
         clear p9
         have qi9:(2 < (a1.size:Int)) = True:=eq_true (of_decide_eq_true (by first|(with_reducible assumption)|assumption))
         replace q9:=eq_true q9
         go_wp2_with (first|(go_at_call 30;(with_reducible refine (spec_l13Sector.calls kj2 a0 (decide ((bt a1 2) ≥ 128)) (a1.extract 3 ((wrap64 (3 + (Int.tmod (wrap64 (bt a1 2)) 128))):Int).toNat) t172 _ A13.out).mono ?_);rintro e w17 ⟨rfl,hb⟩;have n0_:=Aside0.mk (below_step (by repeat (first|(with_reducible first|exact HB.out|apply below_alloc|apply pw_below_drewN|apply below_drew1)|exact HB.out)) hb);clear HB;have HB:=n0_;clear n0_;(try clear hb);(try clear hb2);(try clear hk);(try clear hi)))
         go_ret3
         exact ⟨by first|rfl|(simp [errW_none,errW_some] <;> rfl)|(simp [*,errW_none,errW_some] <;> rfl),by repeat (first|(with_reducible first|exact HB.out|apply below_alloc|apply pw_below_drewN|apply below_drew1)|exact HB.out)⟩
        ·rw [if_neg c14] at H
         have c14b0:(t172.toList == a1.toList) = false:=beq_eq_false_iff_ne.mpr c14
         have c14b1:(t172.toList != a1.toList) = true:=bne_iff_ne.mpr c14
         simp only [Option.some.injEq,Prod.mk.injEq] at H
         obtain ⟨rfl,rfl,rfl⟩:=H
         have p8:0 ≤ (2:Int):=(by omega)
         have q8:2 < a1.size:=(by have:(2:Int) < (a1.size:Int):=of_decide_eq_true (by first|(with_reducible assumption)|assumption);omega)
         have hx8:∀ h:2 < a1.size,((a1[2]'h).toNat:Int) = bt a1 2:=bt_at a1 2
         clear p8
         have qi8:(2 < (a1.size:Int)) = True:=eq_true (of_decide_eq_true (by first|(with_reducible assumption)|assumption))
         replace q8:=eq_true q8
         have p9:0 ≤ (2:Int):=(by omega)
         have q9:2 < a1.size:=(by have:(2:Int) < (a1.size:Int):=of_decide_eq_true (by first|(with_reducible assumption)|assumption);omega)
         have hx9:∀ h:2 < a1.size,((a1[2]'h).toNat:Int) = bt a1 2:=bt_at a1 2
         clear p9
         have qi9:(2 < (a1.size:Int)) = True:=eq_true (of_decide_eq_true (by first|(with_reducible assumption)|assumption))
         replace q9:=eq_true q9
         go_wp2_with (first|(go_at_call 30;(with_reducible refine (spec_l13Sector.calls kj2 a0 (decide ((bt a1 2) ≥ 128)) (a1.extract 3 ((wrap64 (3 + (Int.tmod (wrap64 (bt a1 2)) 128))):Int).toNat) t172 _ A13.out).mono ?_);rintro e w18 ⟨rfl,hb⟩;have n0_:=Aside0.mk (below_step (by repeat (first|(with_reducible first|exact HB.out|apply below_alloc|apply pw_below_drewN|apply below_drew1)|exact HB.out)) hb);clear HB;have HB:=n0_;clear n0_;(try clear hb);(try clear hb2);(try clear hk);(try clear hi)))
         go_ret3
         exact ⟨by first|rfl|(simp [errW_none,errW_some] <;> rfl)|(simp [*,errW_none,errW_some] <;> rfl),by repeat (first|(with_reducible first|exact HB.out|apply below_alloc|apply pw_below_drewN|apply below_drew1)|exact HB.out)⟩
       ·rw [if_neg c12] at H
        exact absurd H (by simp)
      ·rw [if_neg c11] at H
       exact absurd H (by simp)
    ·rw [if_neg c7] at H
     exact absurd H (by simp)

/-! ### spec_l13Texts: function 35 -/
def spec_l13Texts.l0:Nat → List ByteArray → Int → ByteArray → List ByteArray → Int → Int → Option (List ByteArray × Int)
 | 0,_,_,_,_,_,_=>none
 | k + 1,x4,x5,x6,x12,x13,x14=>if x14 < x13 then (if 0 ≤ x14 then (if x14 < (x12.length:Int) then ((spec_ReadSector.f k x14 (rdOf ByteArray.empty x12 x14)).bind fun bt174=>(if bt174.2.2 = true then (if x6.size + bt174.1.size ≤ 9223372036854775807 then (if bt174.2.1 = true then (if x4.length < 8796093022208 then (spec_l13Texts.l0 k (x4 ++ [x6 ++ bt174.1]) (wrap64 (x14 + 1)) (⟨#[]⟩:ByteArray) x12 x13 (wrap64 (x14 + 1))) else (none)) else (spec_l13Texts.l0 k x4 x5 (x6 ++ bt174.1) x12 x13 (wrap64 (x14 + 1)))) else (none)) else (some (x4,x5)))) else (none)) else (none)) else (some (x4,x5))
def spec_l13Texts.f (k:Nat) (l0:List ByteArray):Option (List ByteArray × Int):=spec_l13Texts.l0 k ([]:List ByteArray) 0 (⟨#[]⟩:ByteArray) l0 (l0.length:Int) 0
theorem spec_l13Texts.mono_l:∀ k,(∀ y0 y1 y2 y3 y4 y5,LeO (spec_l13Texts.l0 k y0 y1 y2 y3 y4 y5) (spec_l13Texts.l0 (k + 1) y0 y1 y2 y3 y4 y5))
 | 0=>fun _ _ _ _ _ _ r h=>by simp [spec_l13Texts.l0] at h
 | k + 1=>by
  have ih0:=spec_l13Texts.mono_l k
  ·intro y0 y1 y2 y3 y4 y5
   unfold spec_l13Texts.l0
   repeat' first
   | (with_reducible exact ih0 _ _ _ _ _ _)
   | (with_reducible exact spec_ReadSector.mono _ _ _)
   | (with_reducible exact LeO.refl _)
   | (with_reducible exact LeO.none _)
   | (with_reducible refine LeO.ite ?_ ?_)
   | (with_reducible refine LeO.bind ?_ (fun _=>?_))
   | exact ih0 _ _ _ _ _ _
   | exact spec_ReadSector.mono _ _ _
   | exact LeO.none _
   | refine LeO.ite ?_ ?_
   | refine LeO.bind ?_ (fun _=>?_)
theorem spec_l13Texts.mono:∀ a0 k,LeO (spec_l13Texts.f k a0) (spec_l13Texts.f (k + 1) a0):=by
 intro a0 k
 have ih0:=spec_l13Texts.mono_l k
 unfold spec_l13Texts.f
 repeat' first
   | (with_reducible exact ih0 _ _ _ _ _ _)
   | (with_reducible exact spec_ReadSector.mono _ _ _)
   | (with_reducible exact LeO.refl _)
   | (with_reducible exact LeO.none _)
   | (with_reducible refine LeO.ite ?_ ?_)
   | (with_reducible refine LeO.bind ?_ (fun _=>?_))
   | exact ih0 _ _ _ _ _ _
   | exact spec_ReadSector.mono _ _ _
   | exact LeO.none _
   | refine LeO.ite ?_ ?_
   | refine LeO.bind ?_ (fun _=>?_)
set_option maxHeartbeats 8000000 in
set_option maxRecDepth 100000 in
theorem spec_l13Texts.calls (k:Nat) (A0:Option Addr) (c0:Nat) (l0:List ByteArray) (r1:List ByteArray) (r2:Int) (w:World) (hr0:Kd.C Kd.string w A0 l0.length l0) (hc0:l0.length ≤ c0) (h:spec_l13Texts.f k l0 = some (r1,r2)) :
  Calls Try.prog 35 #[.slice A0 l0.length c0] w fun e w'=>∃ v0_:Value,e = .returned (.tuple #[v0_,.int .i64 r2]) ∧ Kd.R Kd.string 9 w' w.heap.size (fun _=>True) v0_ r1 ∧ Below w.heap.size w w':=by
 have HR0:=Aside0.mk hr0
 have HC0:=Aside0.mk hc0
 clear hr0 hc0
 have HB:=Aside0.mk (Below.refl w.heap.size w)
 have H:(spec_l13Texts.l0 k ([]:List ByteArray) 0 (⟨#[]⟩:ByteArray) l0 (l0.length:Int) 0) = some (r1,r2):=h
 clear h
 have H':=Aside0.mk H
 clear H
 go_enter Try.func35,Try.ntmps35
 go_wp2
 go_loopg [4,5,6,14] k (fun kq v4 v5 v6 v14 w'=>∃ (x4_1:List ByteArray) (x5_1:Int) (x6_1:ByteArray) (x14_1:Int),v5 = .int .i64 x5_1 ∧ v6 = .string x6_1 ∧ v14 = .int .i64 x14_1 ∧ Aside0 (spec_l13Texts.l0 kq x4_1 x5_1 x6_1 l0 (l0.length:Int) x14_1 = some (r1,r2)) ∧ Aside0 (kq ≤ k) ∧ Aside0 (Kd.R Kd.string 9 w' w.heap.size (fun _=>True) v4 x4_1) ∧ Aside0 (Below w.heap.size w w'))
 case atStart=>exact ⟨(([]:List ByteArray)),(0),((⟨#[]⟩:ByteArray)),(0),(by first|rfl|(simp;done)|(simp [*];done)),(by first|rfl|(simp;done)|(simp [*];done)),(by first|rfl|(simp;done)|(simp [*];done)),H',⟨Nat.le_refl _⟩,⟨by first|exact Kd.R_nil _ _ _ _ _|exact Kd.N_nil _ _ _ _ _|exact Kd.V_nil _ _ _ _ _|exact Kd.Q_nil _ _ _ _ _|exact Kd.S_nil _ _ _ _ _⟩,⟨by repeat (first|(with_reducible first|exact HB.out|apply below_alloc|apply pw_below_drewN|apply below_drew1)|exact HB.out)⟩⟩
 case round =>
  clear H'
  obtain ⟨x4_1,x5_1,x6_1,x14_1,rfl,rfl,rfl,HA,HK1,HO_4,HB⟩:=hrel
  cases gk with
  | zero=>exact absurd HA.out (by simp [spec_l13Texts.l0])
  | succ k1 =>
   have H:=HA.out
   clear HA
   simp only [spec_l13Texts.l0] at H
   by_cases c2:x14_1 < (l0.length:Int)
   ·rw [if_pos c2] at H
    have c2b0:decide (x14_1 < (l0.length:Int)) = true:=decide_eq_true c2
    clear c2
    by_cases c3:0 ≤ x14_1
    ·rw [if_pos c3] at H
     have c3b0:decide (0 ≤ x14_1) = true:=decide_eq_true c3
     clear c3
     by_cases c4:x14_1 < (l0.length:Int)
     ·rw [if_pos c4] at H
      have c4b0:decide (x14_1 < (l0.length:Int)) = true:=decide_eq_true c4
      clear c4
      replace H:=Option.bind_eq_some_iff.mp H
      obtain ⟨⟨t174,t175,t176⟩,A50,H⟩:=H
      replace H:(if t176 = true then (if x6_1.size + t174.size ≤ 9223372036854775807 then (if t175 = true then (if x4_1.length < 8796093022208 then (spec_l13Texts.l0 k1 (x4_1 ++ [x6_1 ++ t174]) (wrap64 (x14_1 + 1)) (⟨#[]⟩:ByteArray) l0 (l0.length:Int) (wrap64 (x14_1 + 1))) else (none)) else (spec_l13Texts.l0 k1 x4_1 x5_1 (x6_1 ++ t174) l0 (l0.length:Int) (wrap64 (x14_1 + 1)))) else (none)) else (some (x4_1,x5_1))) = some (r1,r2):=H
      have A5:=Aside0.mk A50
      clear A50
      by_cases c6:t176 = true
      ·subst c6
       have H1:(if x6_1.size + t174.size ≤ 9223372036854775807 then (if t175 = true then (if x4_1.length < 8796093022208 then (spec_l13Texts.l0 k1 (x4_1 ++ [x6_1 ++ t174]) (wrap64 (x14_1 + 1)) (⟨#[]⟩:ByteArray) l0 (l0.length:Int) (wrap64 (x14_1 + 1))) else (none)) else (spec_l13Texts.l0 k1 x4_1 x5_1 (x6_1 ++ t174) l0 (l0.length:Int) (wrap64 (x14_1 + 1)))) else (none)) = some (r1,r2):=by rw [if_pos rfl] at H;exact H
       clear H
       have H:=H1
       clear H1
       by_cases c7:x6_1.size + t174.size ≤ 9223372036854775807
       ·rw [if_pos c7] at H
        have c7b0:=eq_true c7
        have c7b1:decide (x6_1.size + t174.size ≤ 9223372036854775807) = true:=decide_eq_true c7
        try have c7b2:(9223372036854775807 < x6_1.size + t174.size) = False:=eq_false (Nat.not_lt.2 c7)
        by_cases c8:t175 = true
        ·subst c8
         have H1:(if x4_1.length < 8796093022208 then (spec_l13Texts.l0 k1 (x4_1 ++ [x6_1 ++ t174]) (wrap64 (x14_1 + 1)) (⟨#[]⟩:ByteArray) l0 (l0.length:Int) (wrap64 (x14_1 + 1))) else (none)) = some (r1,r2):=by rw [if_pos rfl] at H;exact H
         clear H
         have H:=H1
         clear H1
         by_cases c9:x4_1.length < 8796093022208
         ·rw [if_pos c9] at H
          have LMc9:=Aside0.mk c9
          clear c9
          obtain ⟨y177,hy177⟩:∃ y_:List ByteArray,y_ = (x4_1 ++ [x6_1 ++ t174]):=⟨_,rfl⟩
          replace H:(spec_l13Texts.l0 k1 y177 (wrap64 (x14_1 + 1)) (⟨#[]⟩:ByteArray) l0 (l0.length:Int) (wrap64 (x14_1 + 1))) = some (r1,r2):=by first|(rw [hy177];with_reducible exact H)|(have H2_:=(Option.bind_some _ _).symm.trans H;rw [hy177];with_reducible exact H2_)|(have H2_:=(Option.bind_some _ _).symm.trans H;with_reducible exact H2_)|with_reducible exact H|(rw [hy177];exact H)|exact H
          have Ny177:=Aside0.mk hy177
          clear hy177
          have H':=Aside0.mk H
          clear H
          have p173:0 ≤ (x14_1:Int):=of_decide_eq_true (by first|(with_reducible assumption)|assumption)
          have q173:x14_1 < (l0.length:Int):=of_decide_eq_true (by first|(with_reducible assumption)|assumption)
          obtain ⟨ad173,e173,hx173_0⟩:=Kd.at_string HR0.out x14_1 p173 q173
          cases e173
          replace hx173_0:=(HB.out.cell (World.block_lt_of_cell? w _ hx173_0)).trans hx173_0
          replace p173:=eq_true p173
          replace q173:=eq_true q173
          go_wp2_with (first|((with_reducible refine gate_callee (f:=11) rfl ?_);refine goesL_ (some 22) rfl rfl Try.func11 (by kernel_rfl) rfl #[.int .i64 x14_1,.string (rdOf ByteArray.empty l0 x14_1)] rfl (by (try simp only [List.map_toArray,List.map_cons,List.map_nil]);first|done|rfl|(simp only [List.length_drop,List.length_take];rfl)) ?_;(with_reducible refine (spec_ReadSector.calls k1 x14_1 (rdOf ByteArray.empty l0 x14_1) t174 true true _ A5.out).mono ?_);rintro e w10 ⟨rfl,hb⟩;refine ⟨_,rfl,?_⟩;have n0_:=Aside0.mk (Kd.R_below (by (with_reducible repeat (first|apply Kd.R_alloc|apply Kd.R_drewN|apply Kd.R_drew));exact HO_4.out) hb);have n1_:=Aside0.mk (below_step (by repeat (first|(with_reducible first|exact HB.out|apply below_alloc|apply pw_below_drewN|apply below_drew1)|exact HB.out)) hb);clear HO_4;clear HB;have HO_4:=n0_;have HB:=n1_;clear n0_ n1_;(try clear hb);(try clear hb2);(try clear hk);(try clear hi))|((with_reducible refine gate_builtin (b:=.append) (xs:=#[.tmp 32,.tmp 34]) rfl ?_);at_builtin;refine Kd.R_append Kd.string (w0:=w) w.heap.size rfl (.tmp 32) (.tmp 34) 28 9 (.string ⟨#[]⟩) 16 rfl Try.underlying28 info9 rfl (by decide) (by first|decide|omega) u4 x4_1 (x6_1 ++ t174) [.string (x6_1 ++ t174)] (fun _=>True) (fun _=>False) rfl rfl ?aP (fun _ hk=>hk.elim) ?aF ?aO ?aB ?aS ?aL ?_;(case aP=>exact rfl);(case aB=>exact (by repeat (first|(with_reducible first|exact HB.out|apply below_alloc|apply pw_below_drewN|apply below_drew1)|exact HB.out)));(case aF=>exact (fun _ _=>trivial));(case aO=>exact (by (with_reducible repeat (first|apply Kd.R_alloc|apply Kd.R_drewN|apply Kd.R_drew));exact HO_4.out));(case aS=>exact (below_size (by repeat (first|(with_reducible first|exact HB.out|apply below_alloc|apply pw_below_drewN|apply below_drew1)|exact HB.out))));(case aL=>have:=LMc9.out;omega);intro v178 w11 ho hb hg hat;rw [← Ny177.out] at ho;have n0_:=Aside0.mk (hb);have n1_:=Aside0.mk (ho);clear HB;clear HO_4;have HB:=n0_;have HO179:=n1_;clear n0_ n1_;clear ho hb hg hat))
          go_roundg k1
          case measure=>have:=HK1.out;omega
          case rel=>exact ⟨(y177),(wrap64 (x14_1 + 1)),((⟨#[]⟩:ByteArray)),(wrap64 (x14_1 + 1)),(by first|rfl|(simp;done)|(simp [*];done)),(by first|rfl|(simp;done)|(simp [*];done)),(by first|rfl|(simp;done)|(simp [*];done)),H',⟨by have:=HK1.out;omega⟩,⟨by (with_reducible repeat (first|apply Kd.R_alloc|apply Kd.R_drewN|apply Kd.R_drew));exact HO179.out⟩,⟨by repeat (first|(with_reducible first|exact HB.out|apply below_alloc|apply pw_below_drewN|apply below_drew1)|exact HB.out)⟩⟩
         ·rw [if_neg c9] at H
          exact absurd H (by simp)
        ·replace c8:=Bool.eq_false_iff.mpr c8
         subst c8
         have H1:(spec_l13Texts.l0 k1 x4_1 x5_1 (x6_1 ++ t174) l0 (l0.length:Int) (wrap64 (x14_1 + 1))) = some (r1,r2):=by rw [if_neg (show ¬ (false = true) by decide)] at H;exact H
         clear H
         have H:=H1
         clear H1
         have H':=Aside0.mk H
         clear H
         have p173:0 ≤ (x14_1:Int):=of_decide_eq_true (by first|(with_reducible assumption)|assumption)
         have q173:x14_1 < (l0.length:Int):=of_decide_eq_true (by first|(with_reducible assumption)|assumption)
         obtain ⟨ad173,e173,hx173_0⟩:=Kd.at_string HR0.out x14_1 p173 q173
         cases e173
         replace hx173_0:=(HB.out.cell (World.block_lt_of_cell? w _ hx173_0)).trans hx173_0
         replace p173:=eq_true p173
         replace q173:=eq_true q173
         go_wp2_with (first|((with_reducible refine gate_callee (f:=11) rfl ?_);refine goesL_ (some 22) rfl rfl Try.func11 (by kernel_rfl) rfl #[.int .i64 x14_1,.string (rdOf ByteArray.empty l0 x14_1)] rfl (by (try simp only [List.map_toArray,List.map_cons,List.map_nil]);first|done|rfl|(simp only [List.length_drop,List.length_take];rfl)) ?_;(with_reducible refine (spec_ReadSector.calls k1 x14_1 (rdOf ByteArray.empty l0 x14_1) t174 false true _ A5.out).mono ?_);rintro e w12 ⟨rfl,hb⟩;refine ⟨_,rfl,?_⟩;have n0_:=Aside0.mk (Kd.R_below (by (with_reducible repeat (first|apply Kd.R_alloc|apply Kd.R_drewN|apply Kd.R_drew));exact HO_4.out) hb);have n1_:=Aside0.mk (below_step (by repeat (first|(with_reducible first|exact HB.out|apply below_alloc|apply pw_below_drewN|apply below_drew1)|exact HB.out)) hb);clear HO_4;clear HB;have HO_4:=n0_;have HB:=n1_;clear n0_ n1_;(try clear hb);(try clear hb2);(try clear hk);(try clear hi)))
         go_roundg k1
         case measure=>have:=HK1.out;omega
         case rel=>exact ⟨(x4_1),(x5_1),(x6_1 ++ t174),(wrap64 (x14_1 + 1)),(by first|rfl|(simp;done)|(simp [*];done)),(by first|rfl|(simp;done)|(simp [*];done)),(by first|rfl|(simp;done)|(simp [*];done)),H',⟨by have:=HK1.out;omega⟩,⟨by (with_reducible repeat (first|apply Kd.R_alloc|apply Kd.R_drewN|apply Kd.R_drew));exact HO_4.out⟩,⟨by repeat (first|(with_reducible first|exact HB.out|apply below_alloc|apply pw_below_drewN|apply below_drew1)|exact HB.out)⟩⟩
       ·rw [if_neg c7] at H
        exact absurd H (by simp)
      ·replace c6:=Bool.eq_false_iff.mpr c6
       subst c6
       have H1:(some (x4_1,x5_1)) = some (r1,r2):=by rw [if_neg (show ¬ (false = true) by decide)] at H;exact H
       clear H
       have H:=H1
       clear H1
       simp only [Option.some.injEq,Prod.mk.injEq] at H
       obtain ⟨rfl,rfl⟩:=H
       have p173:0 ≤ (x14_1:Int):=of_decide_eq_true (by first|(with_reducible assumption)|assumption)
       have q173:x14_1 < (l0.length:Int):=of_decide_eq_true (by first|(with_reducible assumption)|assumption)
       obtain ⟨ad173,e173,hx173_0⟩:=Kd.at_string HR0.out x14_1 p173 q173
       cases e173
       replace hx173_0:=(HB.out.cell (World.block_lt_of_cell? w _ hx173_0)).trans hx173_0
       replace p173:=eq_true p173
       replace q173:=eq_true q173
       go_wp2_with (first|((with_reducible refine gate_callee (f:=11) rfl ?_);refine goesL_ (some 22) rfl rfl Try.func11 (by kernel_rfl) rfl #[.int .i64 x14_1,.string (rdOf ByteArray.empty l0 x14_1)] rfl (by (try simp only [List.map_toArray,List.map_cons,List.map_nil]);first|done|rfl|(simp only [List.length_drop,List.length_take];rfl)) ?_;(with_reducible refine (spec_ReadSector.calls k1 x14_1 (rdOf ByteArray.empty l0 x14_1) t174 t175 false _ A5.out).mono ?_);rintro e w13 ⟨rfl,hb⟩;refine ⟨_,rfl,?_⟩;have n0_:=Aside0.mk (Kd.R_below (by (with_reducible repeat (first|apply Kd.R_alloc|apply Kd.R_drewN|apply Kd.R_drew));exact HO_4.out) hb);have n1_:=Aside0.mk (below_step (by repeat (first|(with_reducible first|exact HB.out|apply below_alloc|apply pw_below_drewN|apply below_drew1)|exact HB.out)) hb);clear HO_4;clear HB;have HO_4:=n0_;have HB:=n1_;clear n0_ n1_;(try clear hb);(try clear hb2);(try clear hk);(try clear hi)))
       go_ret2
       exact ⟨_,by first|rfl|(simp [errW_none,errW_some] <;> rfl)|(simp [*,errW_none,errW_some] <;> rfl),by (with_reducible repeat (first|apply Kd.R_alloc|apply Kd.R_drewN|apply Kd.R_drew));exact HO_4.out,by repeat (first|(with_reducible first|exact HB.out|apply below_alloc|apply pw_below_drewN|apply below_drew1)|exact HB.out)⟩
     ·rw [if_neg c4] at H
      exact absurd H (by simp)
    ·rw [if_neg c3] at H
     exact absurd H (by simp)
   ·rw [if_neg c2] at H
    have c2b0:decide (x14_1 < (l0.length:Int)) = false:=decide_eq_false c2
    clear c2
    simp only [Option.some.injEq,Prod.mk.injEq] at H
    obtain ⟨rfl,rfl⟩:=H
    go_wp2
    go_ret2
    exact ⟨_,by first|rfl|(simp [errW_none,errW_some] <;> rfl)|(simp [*,errW_none,errW_some] <;> rfl),by (with_reducible repeat (first|apply Kd.R_alloc|apply Kd.R_drewN|apply Kd.R_drew));exact HO_4.out,by repeat (first|(with_reducible first|exact HB.out|apply below_alloc|apply pw_below_drewN|apply below_drew1)|exact HB.out)⟩

/-! ### spec_l13All: function 36 -/
def spec_l13All.f (l0_0:List ByteArray) (l0_1:List ByteArray):Option (List ByteArray):=(some (([]:List ByteArray):List ByteArray)).bind fun y181=>(if y181.length + l0_0.length < 8796093022208 then ((some (y181 ++ l0_0:List ByteArray)).bind fun y184=>(if y184.length + l0_1.length < 8796093022208 then (some (y184 ++ l0_1)) else (none))) else (none))
def spec_l13All.T1:Bool × List (List Nat × List Nat):=(true,[([],[]),([],[]),([1],[1]),([0,2],[0,2]),([],[]),([4],[4]),([3,5,3],[3,5]),([6,6,0,1,2,3,4,5,6],[6])])
def spec_l13All.B1:List Nat:=[0,0,2,7,0,16,63,127]
theorem spec_l13All.tab1:rtab .any (opsOf Try.f36 1) = spec_l13All.T1:=by kernel_rfl
theorem spec_l13All.bits1:waitsOk spec_l13All.T1.2 spec_l13All.B1 = true:=by kernel_rfl
set_option maxHeartbeats 8000000 in
set_option maxRecDepth 100000 in
theorem spec_l13All.calls (A0_0:Option Addr) (c0_0:Nat) (l0_0:List ByteArray) (A0_1:Option Addr) (c0_1:Nat) (l0_1:List ByteArray) (r:List ByteArray) (w:World) (hr0_0:Kd.C Kd.string w A0_0 l0_0.length l0_0) (hc0_0:l0_0.length ≤ c0_0) (hr0_1:Kd.C Kd.string w A0_1 l0_1.length l0_1) (hc0_1:l0_1.length ≤ c0_1) (h:spec_l13All.f l0_0 l0_1 = some r) :
  Calls Try.prog 36 #[.agg #[.slice A0_0 l0_0.length c0_0,.slice A0_1 l0_1.length c0_1]] w fun e w'=>∃ v0_:Value,e = .returned (v0_) ∧ Kd.R Kd.string 9 w' w.heap.size (fun _=>True) v0_ r ∧ Below w.heap.size w w':=by
 have hu34:=Try.underlying34
 have HR0_0:=Aside0.mk hr0_0
 have HC0_0:=Aside0.mk hc0_0
 clear hr0_0 hc0_0
 have HR0_1:=Aside0.mk hr0_1
 have HC0_1:=Aside0.mk hc0_1
 clear hr0_1 hc0_1
 have HB:=Aside0.mk (Below.refl w.heap.size w)
 have H:((some (([]:List ByteArray):List ByteArray)).bind fun y181=>(if y181.length + l0_0.length < 8796093022208 then ((some (y181 ++ l0_0:List ByteArray)).bind fun y184=>(if y184.length + l0_1.length < 8796093022208 then (some (y184 ++ l0_1)) else (none))) else (none))) = some r:=h
 clear h
 obtain ⟨y181,hy181⟩:∃ y_:List ByteArray,y_ = (([]:List ByteArray)):=⟨_,rfl⟩
 replace H:(if y181.length + l0_0.length < 8796093022208 then ((some (y181 ++ l0_0:List ByteArray)).bind fun y184=>(if y184.length + l0_1.length < 8796093022208 then (some (y184 ++ l0_1)) else (none))) else (none)) = some r:=by first|(rw [hy181];with_reducible exact H)|(have H2_:=(Option.bind_some _ _).symm.trans H;rw [hy181];with_reducible exact H2_)|(have H2_:=(Option.bind_some _ _).symm.trans H;with_reducible exact H2_)|with_reducible exact H|(rw [hy181];exact H)|exact H
 have Ny181:=Aside0.mk hy181
 clear hy181
 by_cases c2:y181.length + l0_0.length < 8796093022208
 ·rw [if_pos c2] at H
  have LMc2:=Aside0.mk c2
  clear c2
  obtain ⟨y184,hy184⟩:∃ y_:List ByteArray,y_ = (y181 ++ l0_0):=⟨_,rfl⟩
  replace H:(if y184.length + l0_1.length < 8796093022208 then (some (y184 ++ l0_1)) else (none)) = some r:=by first|(rw [hy184];with_reducible exact H)|(have H2_:=(Option.bind_some _ _).symm.trans H;rw [hy184];with_reducible exact H2_)|(have H2_:=(Option.bind_some _ _).symm.trans H;with_reducible exact H2_)|with_reducible exact H|(rw [hy184];exact H)|exact H
  have Ny184:=Aside0.mk hy184
  clear hy184
  by_cases c3:y184.length + l0_1.length < 8796093022208
  ·rw [if_pos c3] at H
   have LMc3:=Aside0.mk c3
   clear c3
   obtain ⟨y187,hy187⟩:∃ y_:List ByteArray,y_ = (y184 ++ l0_1):=⟨_,rfl⟩
   replace H:(some y187) = some r:=by first|(rw [hy187];with_reducible exact H)|(have H2_:=(Option.bind_some _ _).symm.trans H;rw [hy187];with_reducible exact H2_)|(have H2_:=(Option.bind_some _ _).symm.trans H;with_reducible exact H2_)|with_reducible exact H|(rw [hy187];exact H)|exact H
   have Ny187:=Aside0.mk hy187
   clear hy187
   obtain rfl:=Option.some.inj H
   go_enter Try.func36,Try.ntmps36
   try go_wp2_with (first|((with_reducible refine gate_dst (N:=1) rfl ?_);refine box_event ?hg (N:=1) ?hd (cs:=#[.slice A0_0 l0_0.length c0_0,.slice A0_1 l0_1.length c0_1]) (t:=34) ?hr ?_;(case hd=>rfl);(case hg=>rfl);(case hr=>first|(go_simp;done)|(go_simp;rfl));intro gb180 hg w4 hbox hb;have n0_:=Aside0.mk (below_step (by repeat (first|(with_reducible first|exact HB.out|apply below_alloc|apply pw_below_drewN|apply below_drew1)|exact HB.out)) hb);have n1_:=Aside0.mk (hbox);have n2_:=Aside0.mk ((by rw [hg];exact (below_size (by repeat (first|(with_reducible first|exact HB.out|apply below_alloc|apply pw_below_drewN|apply below_drew1)|exact HB.out))):w.heap.size ≤ gb180));have n3_:=Aside0.mk ((by rw [hg];exact (below_size (by repeat (first|(with_reducible first|exact HB.out|apply below_alloc|apply pw_below_drewN|apply below_drew1)|exact HB.out))):w.heap.size ≤ gb180));clear HB;have HB:=n0_;have BK180:=n1_;have GW180:=n2_;have GE180:=n3_;clear n0_ n1_ n2_ n3_;clear hb hbox hg))
   have n0_:=Aside0.mk (blk_drew BK180.out)
   have n1_:=Aside0.mk (below_drew1 HB.out)
   clear BK180
   clear HB
   have BK180:=n0_
   have HB:=n1_
   clear n0_ n1_
   refine start_ (n:=8) (S:=fun w'=>w'.cell? ⟨gb180,0,none⟩ = some (.slice A0_0 l0_0.length c0_0) ∧ w'.cell? ⟨gb180,1,none⟩ = some (.slice A0_1 l0_1.length c0_1)) (ds:=[]) #[false,false,false,false,false,false,false,false] (by kernel_rfl) rfl rfl ⟨(blk_cell BK180.out 0).trans rfl,(blk_cell BK180.out 1).trans rfl⟩ (fun hHeld=>?_);refine with_tabW spec_l13All.tab1 spec_l13All.bits1 (fun HT_ HW_=>?_)
   generalize w4.drew = w5 at BK180 HB hHeld ⊢
   refine pure_ (i:=1) (N:=some 4) (v:=?_) (a':=?_) #[false,true,false,false,false,false,false,false] rfl rfl (any_of HT_.out (by kernel_rfl)) (fun _ _ _ h=>h) (Or.inl ⟨by rfl,?_⟩) ?_ ?_
   rotate_left
   ·intro w'
    go_simp
    with_reducible rfl
   rotate_left
   ·simp only [Act.put,List.setIfInBounds_toArray,List.set_cons_zero,List.set_cons_succ,i64_w,i32_w]
    rfl
   refine pure_ (i:=4) (N:=some 7) (v:=?_) (a':=?_) #[false,true,false,false,true,false,false,false] rfl rfl (any_of HT_.out (by kernel_rfl)) (fun _ _ _ h=>h) (Or.inl ⟨by rfl,?_⟩) ?_ ?_
   rotate_left
   ·intro w'
    go_simp
    with_reducible rfl
   rotate_left
   ·simp only [Act.put,List.setIfInBounds_toArray,List.set_cons_zero,List.set_cons_succ,i64_w,i32_w]
    rfl
   refine take_ (i:=2) (N:=some 5) (v:=?_) (a':=?_) #[false,true,true,false,true,false,false,false] rfl rfl (take_ofW HT_.out HW_.out (by kernel_rfl)) (fun _ _ _ h=>h) (Or.inl ⟨by rfl,?_⟩) hHeld ?_ ?_
   rotate_left
   ·rintro w' ⟨s0,s1⟩
    go_simp
    with_reducible rfl
   rotate_left
   ·simp only [Act.put,List.setIfInBounds_toArray,List.set_cons_zero,List.set_cons_succ,i64_w,i32_w]
    rfl
   refine take_ (i:=5) (N:=some 8) (v:=?_) (a':=?_) #[false,true,true,false,true,true,false,false] rfl rfl (take_ofW HT_.out HW_.out (by kernel_rfl)) (fun _ _ _ h=>h) (Or.inl ⟨by rfl,?_⟩) hHeld ?_ ?_
   rotate_left
   ·rintro w' ⟨s0,s1⟩
    go_simp
    with_reducible rfl
   rotate_left
   ·simp only [Act.put,List.setIfInBounds_toArray,List.set_cons_zero,List.set_cons_succ,i64_w,i32_w]
    rfl
   refine one_ (i:=0) (N:=some 3) #[true,true,true,false,true,true,false,false] rfl rfl (one_of HT_.out (by kernel_rfl)) (by decide) (fun K hK=>?_)
   refine Kd.R_lit_step Kd.string _ 9 ?hg (N:=3) ?hd (xs:=([]:List ByteArray)) (inner:=[]) (ok:=fun _=>True) (okp:=fun _=>True) ?hr ?hp (fun _ hk=>hk) trivial (Below.refl _ _) (Nat.le_refl _) (by simp) ?_;(case hd=>rfl);(case hg=>rfl);(case hr=>first|(go_simp;done)|(go_simp;rfl));(case hp=>exact (Reps.none _ _))
   intro v182 w6 ho7 hb hg_ hnew_
   clear hg_ hnew_
   (first|rw [← Ny181.out] at ho7|(simp only [Int.reduceToNat] at ho7;rw [← Ny181.out] at ho7))
   have n0_:=Aside0.mk (Kd.R_lower ho7 (below_size (by repeat (first|(with_reducible first|exact HB.out|apply below_alloc|apply pw_below_drewN|apply below_drew1|refine below_set ?_ GE180.out)|exact HB.out))))
   have n1_:=Aside0.mk (blk_below (g:=gb180) (o:=.cells #[.slice A0_0 l0_0.length c0_0,.slice A0_1 l0_1.length c0_1] 34 (0,0)) (by (with_reducible repeat (first|refine blk_drewN ?_ _|refine blk_drew ?_|refine blk_alloc ?_ _));exact BK180.out) hb)
   have n2_:=Aside0.mk (below_step (by repeat (first|(with_reducible first|exact HB.out|apply below_alloc|apply pw_below_drewN|apply below_drew1|refine below_set ?_ GE180.out)|exact HB.out)) hb)
   clear BK180
   clear HB
   have HO183:=n0_
   have BK180:=n1_
   have HB:=n2_
   clear n0_ n1_ n2_
   clear hb ho7
   refine hK.out _ _ ⟨(blk_cell BK180.out 0).trans rfl,(blk_cell BK180.out 1).trans rfl⟩ (fun hHeld=>?_)
   clear hK K
   refine norm_ (a':=?_) ?_ ?_
   rotate_left
   ·show Act.put _ (some 3) _ = _
    simp only [Act.put,List.setIfInBounds_toArray,List.set_cons_zero,List.set_cons_succ,i64_w,i32_w]
    rfl
   refine one_ (i:=3) (N:=some 6) #[true,true,true,true,true,true,false,false] rfl rfl (one_of HT_.out (by kernel_rfl)) (by decide) (fun K hK=>?_)
   refine Kd.R_append_rows_step Kd.string (w0:=w) w.heap.size (by rfl) (.tmp 3) (.tmp 5) 28 9 (.string ⟨#[]⟩) 16 rfl Try.underlying28 info9 rfl (by decide) (by first|decide|omega) v182 y181 l0_0 _ _ _ (fun _=>True) (fun _=>False) rfl rfl ?aO ?aR (fun _ _ h=>h) (fun _ h=>h.elim) ?aF ?aB ?aS ?aL ?_
   (case aR=>repeat (first|exact (Kd.C_below HR0_0.out HB.out)|(with_reducible refine Kd.C_alloc ?_ _)|(with_reducible refine Kd.C_drewN ?_ _)|(with_reducible refine Kd.C_drew ?_)))
   (case aB=>exact (by repeat (first|(with_reducible first|exact HB.out|apply below_alloc|apply pw_below_drewN|apply below_drew1|refine below_set ?_ GE180.out)|exact HB.out)))
   (case aF=>exact (fun _ _=>trivial))
   (case aO=>exact (by (with_reducible repeat (first|apply Kd.R_alloc|apply Kd.R_drewN|apply Kd.R_drew));exact HO183.out))
   (case aS=>exact (below_size (by repeat (first|(with_reducible first|exact HB.out|apply below_alloc|apply pw_below_drewN|apply below_drew1|refine below_set ?_ GE180.out)|exact HB.out))))
   (case aL=>have:=LMc2.out;omega)
   intro v185 w8 ho hb hg hat
   rw [← Ny184.out] at ho
   have n0_:=Aside0.mk (blk_grown (g:=gb180) (o:=.cells #[.slice A0_0 l0_0.length c0_0,.slice A0_1 l0_1.length c0_1] 34 (0,0)) (by (with_reducible repeat (first|refine blk_drewN ?_ _|refine blk_drew ?_|refine blk_alloc ?_ _));exact BK180.out) hg (Kd.R_ne HO183.out BK180.out (by decide)))
   have n1_:=Aside0.mk (hb)
   have n2_:=Aside0.mk (ho)
   clear BK180
   clear HB
   clear HO183
   have BK180:=n0_
   have HB:=n1_
   have HO186:=n2_
   clear n0_ n1_ n2_
   clear ho hb hg hat
   refine hK.out _ _ ⟨(blk_cell BK180.out 0).trans rfl,(blk_cell BK180.out 1).trans rfl⟩ (fun hHeld=>?_)
   clear hK K
   refine norm_ (a':=?_) ?_ ?_
   rotate_left
   ·show Act.put _ (some 6) _ = _
    simp only [Act.put,List.setIfInBounds_toArray,List.set_cons_zero,List.set_cons_succ,i64_w,i32_w]
    rfl
   refine one_ (i:=6) (N:=some 9) #[true,true,true,true,true,true,true,false] rfl rfl (one_of HT_.out (by kernel_rfl)) (by decide) (fun K hK=>?_)
   refine Kd.R_append_rows_step Kd.string (w0:=w) w.heap.size (by rfl) (.tmp 6) (.tmp 8) 28 9 (.string ⟨#[]⟩) 16 rfl Try.underlying28 info9 rfl (by decide) (by first|decide|omega) v185 y184 l0_1 _ _ _ (fun _=>True) (fun _=>False) rfl rfl ?aO ?aR (fun _ _ h=>h) (fun _ h=>h.elim) ?aF ?aB ?aS ?aL ?_
   (case aR=>repeat (first|exact (Kd.C_below HR0_1.out HB.out)|(with_reducible refine Kd.C_alloc ?_ _)|(with_reducible refine Kd.C_drewN ?_ _)|(with_reducible refine Kd.C_drew ?_)))
   (case aB=>exact (by repeat (first|(with_reducible first|exact HB.out|apply below_alloc|apply pw_below_drewN|apply below_drew1|refine below_set ?_ GE180.out)|exact HB.out)))
   (case aF=>exact (fun _ _=>trivial))
   (case aO=>exact (by (with_reducible repeat (first|apply Kd.R_alloc|apply Kd.R_drewN|apply Kd.R_drew));exact HO186.out))
   (case aS=>exact (below_size (by repeat (first|(with_reducible first|exact HB.out|apply below_alloc|apply pw_below_drewN|apply below_drew1|refine below_set ?_ GE180.out)|exact HB.out))))
   (case aL=>have:=LMc3.out;omega)
   intro v188 w9 ho hb hg hat
   rw [← Ny187.out] at ho
   have n0_:=Aside0.mk (blk_grown (g:=gb180) (o:=.cells #[.slice A0_0 l0_0.length c0_0,.slice A0_1 l0_1.length c0_1] 34 (0,0)) (by (with_reducible repeat (first|refine blk_drewN ?_ _|refine blk_drew ?_|refine blk_alloc ?_ _));exact BK180.out) hg (Kd.R_ne HO186.out BK180.out (by decide)))
   have n1_:=Aside0.mk (hb)
   have n2_:=Aside0.mk (ho)
   clear BK180
   clear HB
   clear HO186
   have BK180:=n0_
   have HB:=n1_
   have HO189:=n2_
   clear n0_ n1_ n2_
   clear ho hb hg hat
   refine hK.out _ _ ⟨(blk_cell BK180.out 0).trans rfl,(blk_cell BK180.out 1).trans rfl⟩ (fun hHeld=>?_)
   clear hK K
   refine norm_ (a':=?_) ?_ ?_
   rotate_left
   ·show Act.put _ (some 9) _ = _
    simp only [Act.put,List.setIfInBounds_toArray,List.set_cons_zero,List.set_cons_succ,i64_w,i32_w]
    rfl
   refine pure_ (i:=7) (N:=some 2) (v:=?_) (a':=?_) #[true,true,true,true,true,true,true,true] rfl rfl (any_of HT_.out (by kernel_rfl)) (fun _ _ _ h=>h) (Or.inl ⟨by rfl,?_⟩) ?_ ?_
   rotate_left
   ·intro w'
    go_simp
    with_reducible rfl
   rotate_left
   ·simp only [Act.put,List.setIfInBounds_toArray,List.set_cons_zero,List.set_cons_succ,i64_w,i32_w]
    rfl
   refine done_ (done_of HT_.out (by kernel_rfl)) ?_
   try go_wp2
   go_ret
   exact ⟨_,by first|rfl|(simp [errW_none,errW_some] <;> rfl)|(simp [*,errW_none,errW_some] <;> rfl),by (with_reducible repeat (first|apply Kd.R_alloc|apply Kd.R_drewN|apply Kd.R_drew));exact HO189.out,by repeat (first|(with_reducible first|exact HB.out|apply below_alloc|apply pw_below_drewN|apply below_drew1|refine below_set ?_ GE180.out)|exact HB.out)⟩
  ·rw [if_neg c3] at H
   exact absurd H (by simp)
 ·rw [if_neg c2] at H
  exact absurd H (by simp)

end Go.Proofs.Ytamiedpgahpihaa.QFnExactPutText
