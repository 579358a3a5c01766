-- Written by this session's own program (wip/x/xprint.py, over the kit's printer); Lean checks it.
import Derived.Test.YtmgkflkfoccgkabQFnDiskx0
import Derived.Test.YtmgkflkfoccgkabQFnDiskx1
import Derived.Test.YtmgkflkfoccgkabQFnDiskx4
namespace Go.Proofs.Ytmgkflkfoccgkab.QFnDisk
open Go.RowKit Go.Proofs.YtmgkflkfoccgkabW.PrintWords Go.Proofs.YtmgkflkfoccgkabW.PrintLast Go.Proofs.YtmgkflkfoccgkabW.PrintMore
attribute [local go_sem] max2_int min2_int max_two min_two max_three min_three max_four min_four   -- for this text's walks alone
set_option linter.unusedVariables false
set_option linter.unusedSimpArgs false

/-! ### spec_ReadSector: function 88 -/
def spec_ReadSector.j0:Nat → Int → ByteArray → Bool → Option (ByteArray × Bool × Bool)
 | 0,_,_,_=>none
 | k + 1,x0,x1,x16=>if x16 = true then (some ((⟨#[]⟩:ByteArray),false,false)) else (if 2 < (x1.size:Int) then (if (Int.tmod (wrap64 (bt x1 2)) 128) > 10 then (some ((⟨#[]⟩:ByteArray),false,false)) else (if 3 ≤ (wrap64 (3 + (Int.tmod (wrap64 (bt x1 2)) 128))) then (if (wrap64 (3 + (Int.tmod (wrap64 (bt x1 2)) 128))) ≤ (x1.size:Int) then ((spec_l13Sector.f k x0 (decide ((bt x1 2) ≥ 128)) (x1.extract 3 ((wrap64 (3 + (Int.tmod (wrap64 (bt x1 2)) 128))):Int).toNat)).bind fun t166=>(if t166.toList = x1.toList then (some (x1.extract 3 ((wrap64 (3 + (Int.tmod (wrap64 (bt x1 2)) 128))):Int).toNat,decide ((bt x1 2) ≥ 128),true)) else (some ((⟨#[]⟩:ByteArray),false,false)))) else (none)) else (none))) else (none))
def spec_ReadSector.f (k:Nat) (a0:Int) (a1:ByteArray):Option (ByteArray × Bool × Bool):=(spec_l1In.f a0 0 399).bind fun t165=>(if t165 = true then (spec_ReadSector.j0 k a0 a1 ((a1.size:Int) != 16)) else (spec_ReadSector.j0 k a0 a1 true))
theorem spec_ReadSector.mono_l:∀ k,(∀ y0 y1 y2,LeO (spec_ReadSector.j0 k y0 y1 y2) (spec_ReadSector.j0 (k + 1) y0 y1 y2))
 | 0=>fun _ _ _ r h=>by simp [spec_ReadSector.j0] at h
 | k + 1=>by
  have ih0:=spec_ReadSector.mono_l k
  ·intro y0 y1 y2
   unfold spec_ReadSector.j0
   have m0:=@spec_l13Sector.mono
   exact mO
theorem spec_ReadSector.mono:∀ a0 a1 k,LeO (spec_ReadSector.f k a0 a1) (spec_ReadSector.f (k + 1) a0 a1):=by
 intro a0 a1 k
 have ih0:=spec_ReadSector.mono_l k
 unfold spec_ReadSector.f
 have m0:=@spec_l13Sector.mono
 exact mO
set_option maxHeartbeats 8000000 in
set_option maxRecDepth 100000 in
theorem spec_ReadSector.calls (k:Nat) (a0:Int) (a1:ByteArray) (r1:ByteArray) (r2:Bool) (r3:Bool) (w:World) (h:spec_ReadSector.f k a0 a1 = some (r1,r2,r3)) :
  Calls Try.prog 88 #[.int .i64 a0,.string a1] w fun e w'=>e = .returned (.tuple #[.string r1,.bool r2,.bool r3]) ∧ Below w.heap.size w w':=by
 have HB:=Aside0.mk (Below.refl w.heap.size w)
 have H:((spec_l1In.f a0 0 399).bind fun t165=>(if t165 = true then (spec_ReadSector.j0 k a0 a1 ((a1.size:Int) != 16)) else (spec_ReadSector.j0 k a0 a1 true))) = some (r1,r2,r3):=h
 clear h
 have HC3:=Aside0.mk H
 clear H
 go_enter Try.func88,Try.ntmps88
 go_upto_region 1 with (fail)
 go_cut [16] (fun v16 wc=>∃ (kq:Nat) (x16_2:Bool),v16 = .bool x16_2 ∧ Aside0 (spec_ReadSector.j0 kq a0 a1 x16_2 = some (r1,r2,r3)) ∧ Aside0 (kq ≤ k) ∧ Aside0 (Below w.heap.size w wc))
 case first =>
  have H:=HC3.out
  clear HC3
  replace H:=Option.bind_eq_some_iff.mp H
  obtain ⟨t165,A40,H⟩:=H
  replace H:(if t165 = true then (spec_ReadSector.j0 k a0 a1 ((a1.size:Int) != 16)) else (spec_ReadSector.j0 k a0 a1 true)) = some (r1,r2,r3):=H
  have A4:=Aside0.mk A40
  clear A40
  by_cases c5:t165 = true
  ·subst c5
   have H1:(spec_ReadSector.j0 k a0 a1 ((a1.size:Int) != 16)) = some (r1,r2,r3):=by rw [if_pos rfl] at H;exact H
   clear H
   have H:=H1
   clear H1
   have H':=Aside0.mk H
   clear H
   go_wp2_with (first|((with_reducible refine gate_callee (f:=46) rfl ?_);refine goesL_ (some 10) rfl rfl Try.func46 (by kernel_rfl) rfl #[.int .i64 a0,.int .i64 0,.int .i64 399] rfl Ya ?_;(with_reducible refine (spec_l1In.calls a0 0 399 true _ A4.out).mono ?_);rintro e w' ⟨rfl,⟨nd,rfl⟩⟩;refine ⟨_,rfl,?_⟩))
   go_meet
   case rel=>exact ⟨_,(((a1.size:Int) != 16)),Yh,H',⟨YQ⟩,⟨bH⟩⟩
  ·replace c5:=Bool.eq_false_iff.mpr c5
   subst c5
   have H1:(spec_ReadSector.j0 k a0 a1 true) = some (r1,r2,r3):=by rw [if_neg (show ¬ (false = true) by decide)] at H;exact H
   clear H
   have H:=H1
   clear H1
   have H':=Aside0.mk H
   clear H
   go_wp2_with (first|((with_reducible refine gate_callee (f:=46) rfl ?_);refine goesL_ (some 10) rfl rfl Try.func46 (by kernel_rfl) rfl #[.int .i64 a0,.int .i64 0,.int .i64 399] rfl Ya ?_;(with_reducible refine (spec_l1In.calls a0 0 399 false _ A4.out).mono ?_);rintro e w' ⟨rfl,⟨nd,rfl⟩⟩;refine ⟨_,rfl,?_⟩))
   go_meet
   case rel=>exact ⟨_,(true),Yh,H',⟨YQ⟩,⟨bH⟩⟩
 case rest =>
  clear HC3
  try clear p2
  try clear c4
  try clear c5
  obtain ⟨kq,x16_2,rfl,HA,HJ2,HB⟩:=hcut
  cases kq with
  | zero=>exact absurd HA.out (by simp [spec_ReadSector.j0])
  | succ kj2 =>
   have H:=HA.out
   clear HA
   simp only [spec_ReadSector.j0] at H
   by_cases c6:x16_2 = true
   ·subst c6
    have H1:(some ((⟨#[]⟩:ByteArray),false,false)) = some (r1,r2,r3):=by rw [if_pos rfl] at H;exact H
    clear H
    have H:=H1
    clear H1
    simp only [Option.some.injEq,Prod.mk.injEq] at H
    obtain ⟨rfl,rfl,rfl⟩:=H
    go_wp2
    go_ret3
    exact ⟨Yb,bH⟩
   ·replace c6:=Bool.eq_false_iff.mpr c6
    subst c6
    have H1:(if 2 < (a1.size:Int) then (if (Int.tmod (wrap64 (bt a1 2)) 128) > 10 then (some ((⟨#[]⟩:ByteArray),false,false)) else (if 3 ≤ (wrap64 (3 + (Int.tmod (wrap64 (bt a1 2)) 128))) then (if (wrap64 (3 + (Int.tmod (wrap64 (bt a1 2)) 128))) ≤ (a1.size:Int) then ((spec_l13Sector.f kj2 a0 (decide ((bt a1 2) ≥ 128)) (a1.extract 3 ((wrap64 (3 + (Int.tmod (wrap64 (bt a1 2)) 128))):Int).toNat)).bind fun t166=>(if t166.toList = a1.toList then (some (a1.extract 3 ((wrap64 (3 + (Int.tmod (wrap64 (bt a1 2)) 128))):Int).toNat,decide ((bt a1 2) ≥ 128),true)) else (some ((⟨#[]⟩:ByteArray),false,false)))) else (none)) else (none))) else (none)) = some (r1,r2,r3):=by rw [if_neg (show ¬ (false = true) by decide)] at H;exact H
    clear H
    have H:=H1
    clear H1
    by_cases c7:2 < (a1.size:Int)
    ·rw [if_pos c7] at H
     have c7b0:=decide_eq_true c7
     have c7b1:decide (2 < a1.size) = true:=decide_eq_true (by omega)
     clear c7
     by_cases c10:(Int.tmod (wrap64 (bt a1 2)) 128) > 10
     ·rw [if_pos c10] at H
      have c10b0:decide (10 < (Int.tmod (wrap64 (bt a1 2)) 128)) = true:=decide_eq_true c10
      clear c10
      simp only [Option.some.injEq,Prod.mk.injEq] at H
      obtain ⟨rfl,rfl,rfl⟩:=H
      have p8:0 ≤ (2:Int):=(by omega)
      have q8:2 < a1.size:=(by have:(2:Int) < (a1.size:Int):=oD;omega)
      have hx8:∀ h:2 < a1.size,((a1[2]'h).toNat:Int) = bt a1 2:=bt_at a1 2
      clear p8
      have qi8:(2 < (a1.size:Int)) = True:=eq_true (oD)
      replace q8:=eq_true q8
      have p9:0 ≤ (2:Int):=(by omega)
      have q9:2 < a1.size:=(by have:(2:Int) < (a1.size:Int):=oD;omega)
      have hx9:∀ h:2 < a1.size,((a1[2]'h).toNat:Int) = bt a1 2:=bt_at a1 2
      clear p9
      have qi9:(2 < (a1.size:Int)) = True:=eq_true (oD)
      replace q9:=eq_true q9
      go_wp2
      go_ret3
      exact ⟨Yb,bH⟩
     ·rw [if_neg c10] at H
      have c10b0:decide (10 < (Int.tmod (wrap64 (bt a1 2)) 128)) = false:=decide_eq_false c10
      clear c10
      by_cases c11:3 ≤ (wrap64 (3 + (Int.tmod (wrap64 (bt a1 2)) 128)))
      ·rw [if_pos c11] at H
       have c11b0:=eq_true c11
       have c11b1:=decide_eq_true c11
       by_cases c12:(wrap64 (3 + (Int.tmod (wrap64 (bt a1 2)) 128))) ≤ (a1.size:Int)
       ·rw [if_pos c12] at H
        have c12b0:=eq_true c12
        have c12b1:=decide_eq_true c12
        replace H:=Option.bind_eq_some_iff.mp H
        obtain ⟨t166,A130,H⟩:=H
        replace H:(if t166.toList = a1.toList then (some (a1.extract 3 ((wrap64 (3 + (Int.tmod (wrap64 (bt a1 2)) 128))):Int).toNat,decide ((bt a1 2) ≥ 128),true)) else (some ((⟨#[]⟩:ByteArray),false,false))) = some (r1,r2,r3):=H
        have A13:=Aside0.mk A130
        clear A130
        by_cases c14:t166.toList = a1.toList
        ·rw [if_pos c14] at H
         have c14b0:(t166.toList == a1.toList) = true:=beq_iff_eq.mpr c14
         have c14b1:(t166.toList != a1.toList) = false:=bne_eq_false_iff_eq.mpr c14
         clear c14
         have c15b0:=eq_true (oD:3 ≤ (wrap64 (3 + (Int.tmod (wrap64 (bt a1 2)) 128))))
         have c16b0:=eq_true (oD:(wrap64 (3 + (Int.tmod (wrap64 (bt a1 2)) 128))) ≤ (a1.size:Int))
         simp only [Option.some.injEq,Prod.mk.injEq] at H
         obtain ⟨rfl,rfl,rfl⟩:=H
         have p8:0 ≤ (2:Int):=(by omega)
         have q8:2 < a1.size:=(by have:(2:Int) < (a1.size:Int):=oD;omega)
         have hx8:∀ h:2 < a1.size,((a1[2]'h).toNat:Int) = bt a1 2:=bt_at a1 2
         clear p8
         have qi8:(2 < (a1.size:Int)) = True:=eq_true (oD)
         replace q8:=eq_true q8
         have p9:0 ≤ (2:Int):=(by omega)
         have q9:2 < a1.size:=(by have:(2:Int) < (a1.size:Int):=oD;omega)
         have hx9:∀ h:2 < a1.size,((a1[2]'h).toNat:Int) = bt a1 2:=bt_at a1 2
         clear p9
         have qi9:(2 < (a1.size:Int)) = True:=eq_true (oD)
         replace q9:=eq_true q9
         go_wp2_with (first|(go_at_call 89;(with_reducible refine (spec_l13Sector.calls kj2 a0 (decide ((bt a1 2) ≥ 128)) (a1.extract 3 ((wrap64 (3 + (Int.tmod (wrap64 (bt a1 2)) 128))):Int).toNat) t166 _ A13.out).mono ?_);rintro e w17 ⟨rfl,hb⟩;replace HB:=Aside0.mk (below_step bH hb);(try clear hb);(try clear hb2);(try clear hk);(try clear hi)))
         go_ret3
         exact ⟨Yb,bH⟩
        ·rw [if_neg c14] at H
         have c14b0:(t166.toList == a1.toList) = false:=beq_eq_false_iff_ne.mpr c14
         have c14b1:(t166.toList != a1.toList) = true:=bne_iff_ne.mpr c14
         simp only [Option.some.injEq,Prod.mk.injEq] at H
         obtain ⟨rfl,rfl,rfl⟩:=H
         have p8:0 ≤ (2:Int):=(by omega)
         have q8:2 < a1.size:=(by have:(2:Int) < (a1.size:Int):=oD;omega)
         have hx8:∀ h:2 < a1.size,((a1[2]'h).toNat:Int) = bt a1 2:=bt_at a1 2
         clear p8
         have qi8:(2 < (a1.size:Int)) = True:=eq_true (oD)
         replace q8:=eq_true q8
         have p9:0 ≤ (2:Int):=(by omega)
         have q9:2 < a1.size:=(by have:(2:Int) < (a1.size:Int):=oD;omega)
         have hx9:∀ h:2 < a1.size,((a1[2]'h).toNat:Int) = bt a1 2:=bt_at a1 2
         clear p9
         have qi9:(2 < (a1.size:Int)) = True:=eq_true (oD)
         replace q9:=eq_true q9
         go_wp2_with (first|(go_at_call 89;(with_reducible refine (spec_l13Sector.calls kj2 a0 (decide ((bt a1 2) ≥ 128)) (a1.extract 3 ((wrap64 (3 + (Int.tmod (wrap64 (bt a1 2)) 128))):Int).toNat) t166 _ A13.out).mono ?_);rintro e w18 ⟨rfl,hb⟩;replace HB:=Aside0.mk (below_step bH hb);(try clear hb);(try clear hb2);(try clear hk);(try clear hi)))
         go_ret3
         exact ⟨Yb,bH⟩
       ·rw [if_neg c12] at H
        exact absurd H (by simp)
      ·rw [if_neg c11] at H
       exact absurd H (by simp)
    ·rw [if_neg c7] at H
     exact absurd H (by simp)

/-! ### spec_l13Texts: function 56 -/
def spec_l13Texts.l0:Nat → List ByteArray → Int → ByteArray → List ByteArray → Int → Int → Option (List ByteArray × Int)
 | 0,_,_,_,_,_,_=>none
 | k + 1,x4,x5,x6,x12,x13,x14=>if x14 < x13 then (if 0 ≤ x14 then (if x14 < (x12.length:Int) then ((spec_ReadSector.f k x14 (rdOf ByteArray.empty x12 x14)).bind fun bt168=>(if bt168.2.2 = true then (if x6.size + bt168.1.size ≤ 9223372036854775807 then (if bt168.2.1 = true then (if x4.length < 8796093022208 then (spec_l13Texts.l0 k (x4 ++ [x6 ++ bt168.1]) (wrap64 (x14 + 1)) (⟨#[]⟩:ByteArray) x12 x13 (wrap64 (x14 + 1))) else (none)) else (spec_l13Texts.l0 k x4 x5 (x6 ++ bt168.1) x12 x13 (wrap64 (x14 + 1)))) else (none)) else (some (x4,x5)))) else (none)) else (none)) else (some (x4,x5))
def spec_l13Texts.f (k:Nat) (l0:List ByteArray):Option (List ByteArray × Int):=spec_l13Texts.l0 k ([]:List ByteArray) 0 (⟨#[]⟩:ByteArray) l0 (l0.length:Int) 0
theorem spec_l13Texts.mono_l:∀ k,(∀ y0 y1 y2 y3 y4 y5,LeO (spec_l13Texts.l0 k y0 y1 y2 y3 y4 y5) (spec_l13Texts.l0 (k + 1) y0 y1 y2 y3 y4 y5))
 | 0=>fun _ _ _ _ _ _ r h=>by simp [spec_l13Texts.l0] at h
 | k + 1=>by
  have ih0:=spec_l13Texts.mono_l k
  ·intro y0 y1 y2 y3 y4 y5
   unfold spec_l13Texts.l0
   have m0:=@spec_ReadSector.mono
   exact mO
theorem spec_l13Texts.mono:∀ a0 k,LeO (spec_l13Texts.f k a0) (spec_l13Texts.f (k + 1) a0):=by
 intro a0 k
 have ih0:=spec_l13Texts.mono_l k
 unfold spec_l13Texts.f
 have m0:=@spec_ReadSector.mono
 exact mO
set_option maxHeartbeats 8000000 in
set_option maxRecDepth 100000 in
theorem spec_l13Texts.calls (k:Nat) (A0:Option Addr) (c0:Nat) (l0:List ByteArray) (r1:List ByteArray) (r2:Int) (w:World) (hr0:Kd.C Kd.string w A0 l0.length l0) (hc0:l0.length ≤ c0) (h:spec_l13Texts.f k l0 = some (r1,r2)) :
  Calls Try.prog 56 #[.slice A0 l0.length c0] w fun e w'=>∃ v0_:Value,e = .returned (.tuple #[v0_,.int .i64 r2]) ∧ Kd.R Kd.string 9 w' w.heap.size (fun _=>True) v0_ r1 ∧ Below w.heap.size w w':=by
 have HR0:=Aside0.mk hr0
 have HC0:=Aside0.mk hc0
 clear hr0 hc0
 have HB:=Aside0.mk (Below.refl w.heap.size w)
 have H:(spec_l13Texts.l0 k ([]:List ByteArray) 0 (⟨#[]⟩:ByteArray) l0 (l0.length:Int) 0) = some (r1,r2):=h
 clear h
 have H':=Aside0.mk H
 clear H
 go_enter Try.func56,Try.ntmps56
 go_wp2
 go_loopg [4,5,6,14] k (fun kq v4 v5 v6 v14 w'=>∃ (x4_1:List ByteArray) (x5_1:Int) (x6_1:ByteArray) (x14_1:Int),v5 = .int .i64 x5_1 ∧ v6 = .string x6_1 ∧ v14 = .int .i64 x14_1 ∧ Aside0 (spec_l13Texts.l0 kq x4_1 x5_1 x6_1 l0 (l0.length:Int) x14_1 = some (r1,r2)) ∧ Aside0 (kq ≤ k) ∧ Aside0 (Kd.R Kd.string 9 w' w.heap.size (fun _=>True) v4 x4_1) ∧ Aside0 (Below w.heap.size w w'))
 case atStart=>exact ⟨(([]:List ByteArray)),(0),((⟨#[]⟩:ByteArray)),(0),Yh,Yh,Yh,H',⟨Nat.le_refl _⟩,⟨Yd⟩,⟨bH⟩⟩
 case round =>
  clear H'
  obtain ⟨x4_1,x5_1,x6_1,x14_1,rfl,rfl,rfl,HA,HK1,HO_4,HB⟩:=hrel
  cases gk with
  | zero=>exact absurd HA.out (by simp [spec_l13Texts.l0])
  | succ k1 =>
   have H:=HA.out
   clear HA
   simp only [spec_l13Texts.l0] at H
   by_cases c2:x14_1 < (l0.length:Int)
   ·rw [if_pos c2] at H
    have c2b0:=decide_eq_true c2
    clear c2
    by_cases c3:0 ≤ x14_1
    ·rw [if_pos c3] at H
     have c3b0:=decide_eq_true c3
     clear c3
     by_cases c4:x14_1 < (l0.length:Int)
     ·rw [if_pos c4] at H
      have c4b0:=decide_eq_true c4
      clear c4
      replace H:=Option.bind_eq_some_iff.mp H
      obtain ⟨⟨t168,t169,t170⟩,A50,H⟩:=H
      replace H:(if t170 = true then (if x6_1.size + t168.size ≤ 9223372036854775807 then (if t169 = true then (if x4_1.length < 8796093022208 then (spec_l13Texts.l0 k1 (x4_1 ++ [x6_1 ++ t168]) (wrap64 (x14_1 + 1)) (⟨#[]⟩:ByteArray) l0 (l0.length:Int) (wrap64 (x14_1 + 1))) else (none)) else (spec_l13Texts.l0 k1 x4_1 x5_1 (x6_1 ++ t168) l0 (l0.length:Int) (wrap64 (x14_1 + 1)))) else (none)) else (some (x4_1,x5_1))) = some (r1,r2):=H
      have A5:=Aside0.mk A50
      clear A50
      by_cases c6:t170 = true
      ·subst c6
       have H1:(if x6_1.size + t168.size ≤ 9223372036854775807 then (if t169 = true then (if x4_1.length < 8796093022208 then (spec_l13Texts.l0 k1 (x4_1 ++ [x6_1 ++ t168]) (wrap64 (x14_1 + 1)) (⟨#[]⟩:ByteArray) l0 (l0.length:Int) (wrap64 (x14_1 + 1))) else (none)) else (spec_l13Texts.l0 k1 x4_1 x5_1 (x6_1 ++ t168) l0 (l0.length:Int) (wrap64 (x14_1 + 1)))) else (none)) = some (r1,r2):=by rw [if_pos rfl] at H;exact H
       clear H
       have H:=H1
       clear H1
       by_cases c7:x6_1.size + t168.size ≤ 9223372036854775807
       ·rw [if_pos c7] at H
        have c7b0:=eq_true c7
        have c7b1:=decide_eq_true c7
        try have c7b2:(9223372036854775807 < x6_1.size + t168.size) = False:=eq_false (Nat.not_lt.2 c7)
        by_cases c8:t169 = true
        ·subst c8
         have H1:(if x4_1.length < 8796093022208 then (spec_l13Texts.l0 k1 (x4_1 ++ [x6_1 ++ t168]) (wrap64 (x14_1 + 1)) (⟨#[]⟩:ByteArray) l0 (l0.length:Int) (wrap64 (x14_1 + 1))) else (none)) = some (r1,r2):=by rw [if_pos rfl] at H;exact H
         clear H
         have H:=H1
         clear H1
         by_cases c9:x4_1.length < 8796093022208
         ·rw [if_pos c9] at H
          have LMc9:=Aside0.mk c9
          clear c9
          obtain ⟨y171,hy171⟩:∃ y_:List ByteArray,y_ = (x4_1 ++ [x6_1 ++ t168]):=⟨_,rfl⟩
          replace H:(spec_l13Texts.l0 k1 y171 (wrap64 (x14_1 + 1)) (⟨#[]⟩:ByteArray) l0 (l0.length:Int) (wrap64 (x14_1 + 1))) = some (r1,r2):=by first|(rw [hy171];with_reducible exact H)|(have H2_:=(Option.bind_some _ _).symm.trans H;rw [hy171];with_reducible exact H2_)|(have H2_:=(Option.bind_some _ _).symm.trans H;with_reducible exact H2_)|with_reducible exact H|(rw [hy171];exact H)|exact H
          have Ny171:=Aside0.mk hy171
          clear hy171
          have H':=Aside0.mk H
          clear H
          have p167:0 ≤ (x14_1:Int):=oD
          have q167:x14_1 < (l0.length:Int):=oD
          obtain ⟨ad167,e167,hx167_0⟩:=Kd.at_string HR0.out x14_1 p167 q167
          cases e167
          replace hx167_0:=(HB.out.cell (World.block_lt_of_cell? w _ hx167_0)).trans hx167_0
          replace p167:=eq_true p167
          replace q167:=eq_true q167
          go_wp2_with (first|((with_reducible refine gate_callee (f:=88) rfl ?_);refine goesL_ (some 22) rfl rfl Try.func88 (by kernel_rfl) rfl #[.int .i64 x14_1,.string (rdOf ByteArray.empty l0 x14_1)] rfl Ya ?_;(with_reducible refine (spec_ReadSector.calls k1 x14_1 (rdOf ByteArray.empty l0 x14_1) t168 true true _ A5.out).mono ?_);rintro e w10 ⟨rfl,hb⟩;refine ⟨_,rfl,?_⟩;replace HO_4:=Aside0.mk (Kd.R_below (rR HO_4) hb);replace HB:=Aside0.mk (below_step bH hb);(try clear hb);(try clear hb2);(try clear hk);(try clear hi))|((with_reducible refine gate_builtin (b:=.append) (xs:=#[.tmp 32,.tmp 34]) rfl ?_);at_builtin;refine Kd.R_append Kd.string (w0:=w) w.heap.size rfl (.tmp 32) (.tmp 34) 24 9 (.string ⟨#[]⟩) 16 rfl Try.underlying24 info9 rfl (by decide) Yy u4 x4_1 (x6_1 ++ t168) [.string (x6_1 ++ t168)] (fun _=>True) (fun _=>False) rfl rfl ?aP (fun _ hk=>hk.elim) ?aF ?aO ?aB ?aS ?aL ?_;(case aP=>exact rfl);(case aB=>exact bH);(case aF=>exact YE);(case aO=>exact (rR HO_4));(case aS=>exact YB);(case aL=>have:=LMc9.out;omega);intro v172 w11 ho hb hg hat;rw [← Ny171.out] at ho;have n0_:=Aside0.mk (hb);have n1_:=Aside0.mk (ho);clear HB;clear HO_4;have HB:=n0_;have HO173:=n1_;clear n0_ n1_;clear ho hb hg hat))
          go_roundg k1
          case measure=>have:=HK1.out;omega
          case rel=>exact ⟨(y171),(wrap64 (x14_1 + 1)),((⟨#[]⟩:ByteArray)),(wrap64 (x14_1 + 1)),Yh,Yh,Yh,H',⟨by have:=HK1.out;omega⟩,⟨rR HO173⟩,⟨bH⟩⟩
         ·rw [if_neg c9] at H
          exact absurd H (by simp)
        ·replace c8:=Bool.eq_false_iff.mpr c8
         subst c8
         have H1:(spec_l13Texts.l0 k1 x4_1 x5_1 (x6_1 ++ t168) l0 (l0.length:Int) (wrap64 (x14_1 + 1))) = some (r1,r2):=by rw [if_neg (show ¬ (false = true) by decide)] at H;exact H
         clear H
         have H:=H1
         clear H1
         have H':=Aside0.mk H
         clear H
         have p167:0 ≤ (x14_1:Int):=oD
         have q167:x14_1 < (l0.length:Int):=oD
         obtain ⟨ad167,e167,hx167_0⟩:=Kd.at_string HR0.out x14_1 p167 q167
         cases e167
         replace hx167_0:=(HB.out.cell (World.block_lt_of_cell? w _ hx167_0)).trans hx167_0
         replace p167:=eq_true p167
         replace q167:=eq_true q167
         go_wp2_with (first|((with_reducible refine gate_callee (f:=88) rfl ?_);refine goesL_ (some 22) rfl rfl Try.func88 (by kernel_rfl) rfl #[.int .i64 x14_1,.string (rdOf ByteArray.empty l0 x14_1)] rfl Ya ?_;(with_reducible refine (spec_ReadSector.calls k1 x14_1 (rdOf ByteArray.empty l0 x14_1) t168 false true _ A5.out).mono ?_);rintro e w12 ⟨rfl,hb⟩;refine ⟨_,rfl,?_⟩;replace HO_4:=Aside0.mk (Kd.R_below (rR HO_4) hb);replace HB:=Aside0.mk (below_step bH hb);(try clear hb);(try clear hb2);(try clear hk);(try clear hi)))
         go_roundg k1
         case measure=>have:=HK1.out;omega
         case rel=>exact ⟨(x4_1),(x5_1),(x6_1 ++ t168),(wrap64 (x14_1 + 1)),Yh,Yh,Yh,H',⟨by have:=HK1.out;omega⟩,⟨rR HO_4⟩,⟨bH⟩⟩
       ·rw [if_neg c7] at H
        exact absurd H (by simp)
      ·replace c6:=Bool.eq_false_iff.mpr c6
       subst c6
       have H1:(some (x4_1,x5_1)) = some (r1,r2):=by rw [if_neg (show ¬ (false = true) by decide)] at H;exact H
       clear H
       have H:=H1
       clear H1
       simp only [Option.some.injEq,Prod.mk.injEq] at H
       obtain ⟨rfl,rfl⟩:=H
       have p167:0 ≤ (x14_1:Int):=oD
       have q167:x14_1 < (l0.length:Int):=oD
       obtain ⟨ad167,e167,hx167_0⟩:=Kd.at_string HR0.out x14_1 p167 q167
       cases e167
       replace hx167_0:=(HB.out.cell (World.block_lt_of_cell? w _ hx167_0)).trans hx167_0
       replace p167:=eq_true p167
       replace q167:=eq_true q167
       go_wp2_with (first|((with_reducible refine gate_callee (f:=88) rfl ?_);refine goesL_ (some 22) rfl rfl Try.func88 (by kernel_rfl) rfl #[.int .i64 x14_1,.string (rdOf ByteArray.empty l0 x14_1)] rfl Ya ?_;(with_reducible refine (spec_ReadSector.calls k1 x14_1 (rdOf ByteArray.empty l0 x14_1) t168 t169 false _ A5.out).mono ?_);rintro e w13 ⟨rfl,hb⟩;refine ⟨_,rfl,?_⟩;replace HO_4:=Aside0.mk (Kd.R_below (rR HO_4) hb);replace HB:=Aside0.mk (below_step bH hb);(try clear hb);(try clear hb2);(try clear hk);(try clear hi)))
       go_ret2
       exact ⟨_,Yb,rR HO_4,bH⟩
     ·rw [if_neg c4] at H
      exact absurd H (by simp)
    ·rw [if_neg c3] at H
     exact absurd H (by simp)
   ·rw [if_neg c2] at H
    have c2b0:decide (x14_1 < (l0.length:Int)) = false:=decide_eq_false c2
    clear c2
    simp only [Option.some.injEq,Prod.mk.injEq] at H
    obtain ⟨rfl,rfl⟩:=H
    go_wp2
    go_ret2
    exact ⟨_,Yb,rR HO_4,bH⟩

/-! ### spec_l13Own: function 57 -/
def spec_l13Own.f (l0_0:List ByteArray) (l0_1:List ByteArray):Option (List ByteArray × List ByteArray):=(some (([]:List ByteArray):List ByteArray)).bind fun y176=>(if y176.length + l0_0.length < 8796093022208 then ((some (([]:List ByteArray):List ByteArray)).bind fun y182=>(if y182.length + l0_1.length < 8796093022208 then (some ((y176 ++ l0_0),(y182 ++ l0_1))) else (none))) else (none))
def spec_l13Own.T1:Bool × List (List Nat × List Nat):=(true,[([],[]),([],[]),([1],[1]),([0,2],[0,2]),([],[]),([],[]),([5],[5]),([4,6,3],[4,6]),([3,7],[3,7]),([8,7,0,1,2,3,4,5,6,7,8],[8])])
def spec_l13Own.B1:List Nat:=[0,0,2,7,0,0,32,127,255,511]
theorem spec_l13Own.tab1:rtab .any (opsOf Try.f57 1) = spec_l13Own.T1:=by kernel_rfl
theorem spec_l13Own.bits1:waitsOk spec_l13Own.T1.2 spec_l13Own.B1 = true:=by kernel_rfl
set_option maxHeartbeats 8000000 in
set_option maxRecDepth 100000 in
theorem spec_l13Own.calls (A0_0:Option Addr) (c0_0:Nat) (l0_0:List ByteArray) (A0_1:Option Addr) (c0_1:Nat) (l0_1:List ByteArray) (r1:List ByteArray) (r2:List ByteArray) (w:World) (hr0_0:Kd.C Kd.string w A0_0 l0_0.length l0_0) (hc0_0:l0_0.length ≤ c0_0) (hr0_1:Kd.C Kd.string w A0_1 l0_1.length l0_1) (hc0_1:l0_1.length ≤ c0_1) (h:spec_l13Own.f l0_0 l0_1 = some (r1,r2)) :
  Calls Try.prog 57 #[.agg #[.slice A0_0 l0_0.length c0_0,.slice A0_1 l0_1.length c0_1]] w fun e w'=>∃ v0_ v1_:Value,e = .returned (.agg #[v0_,v1_]) ∧ Kd.R Kd.string 9 w' w.heap.size (fun k_=>some k_ ≠ (v1_:Value).ownBlock) v0_ r1 ∧ Kd.R Kd.string 9 w' w.heap.size (fun k_=>some k_ ≠ (v0_:Value).ownBlock) v1_ r2 ∧ Below w.heap.size w w':=by
 have hu26:=Try.underlying26
 have HR0_0:=Aside0.mk hr0_0
 have HC0_0:=Aside0.mk hc0_0
 clear hr0_0 hc0_0
 have HR0_1:=Aside0.mk hr0_1
 have HC0_1:=Aside0.mk hc0_1
 clear hr0_1 hc0_1
 have HB:=Aside0.mk (Below.refl w.heap.size w)
 have H:((some (([]:List ByteArray):List ByteArray)).bind fun y176=>(if y176.length + l0_0.length < 8796093022208 then ((some (([]:List ByteArray):List ByteArray)).bind fun y182=>(if y182.length + l0_1.length < 8796093022208 then (some ((y176 ++ l0_0),(y182 ++ l0_1))) else (none))) else (none))) = some (r1,r2):=h
 clear h
 obtain ⟨y176,hy176⟩:∃ y_:List ByteArray,y_ = (([]:List ByteArray)):=⟨_,rfl⟩
 replace H:(if y176.length + l0_0.length < 8796093022208 then ((some (([]:List ByteArray):List ByteArray)).bind fun y182=>(if y182.length + l0_1.length < 8796093022208 then (some ((y176 ++ l0_0),(y182 ++ l0_1))) else (none))) else (none)) = some (r1,r2):=by first|(rw [hy176];with_reducible exact H)|(have H2_:=(Option.bind_some _ _).symm.trans H;rw [hy176];with_reducible exact H2_)|(have H2_:=(Option.bind_some _ _).symm.trans H;with_reducible exact H2_)|with_reducible exact H|(rw [hy176];exact H)|exact H
 have Ny176:=Aside0.mk hy176
 clear hy176
 by_cases c2:y176.length + l0_0.length < 8796093022208
 ·rw [if_pos c2] at H
  have LMc2:=Aside0.mk c2
  clear c2
  obtain ⟨y179,hy179⟩:∃ y_:List ByteArray,y_ = (y176 ++ l0_0):=⟨_,rfl⟩
  replace H:((some (([]:List ByteArray):List ByteArray)).bind fun y182=>(if y182.length + l0_1.length < 8796093022208 then (some (y179,(y182 ++ l0_1))) else (none))) = some (r1,r2):=by first|(rw [hy179];with_reducible exact H)|(have H2_:=(Option.bind_some _ _).symm.trans H;rw [hy179];with_reducible exact H2_)|(have H2_:=(Option.bind_some _ _).symm.trans H;with_reducible exact H2_)|with_reducible exact H|(rw [hy179];exact H)|exact H
  have Ny179:=Aside0.mk hy179
  clear hy179
  obtain ⟨y182,hy182⟩:∃ y_:List ByteArray,y_ = (([]:List ByteArray)):=⟨_,rfl⟩
  replace H:(if y182.length + l0_1.length < 8796093022208 then (some (y179,(y182 ++ l0_1))) else (none)) = some (r1,r2):=by first|(rw [hy182];with_reducible exact H)|(have H2_:=(Option.bind_some _ _).symm.trans H;rw [hy182];with_reducible exact H2_)|(have H2_:=(Option.bind_some _ _).symm.trans H;with_reducible exact H2_)|with_reducible exact H|(rw [hy182];exact H)|exact H
  have Ny182:=Aside0.mk hy182
  clear hy182
  by_cases c3:y182.length + l0_1.length < 8796093022208
  ·rw [if_pos c3] at H
   have LMc3:=Aside0.mk c3
   clear c3
   obtain ⟨y185,hy185⟩:∃ y_:List ByteArray,y_ = (y182 ++ l0_1):=⟨_,rfl⟩
   replace H:(some (y179,y185)) = some (r1,r2):=by first|(rw [hy185];with_reducible exact H)|(have H2_:=(Option.bind_some _ _).symm.trans H;rw [hy185];with_reducible exact H2_)|(have H2_:=(Option.bind_some _ _).symm.trans H;with_reducible exact H2_)|with_reducible exact H|(rw [hy185];exact H)|exact H
   have Ny185:=Aside0.mk hy185
   clear hy185
   simp only [Option.some.injEq,Prod.mk.injEq] at H
   obtain ⟨rfl,rfl⟩:=H
   go_enter Try.func57,Try.ntmps57
   try go_wp2_with (first|((with_reducible refine gate_dst (N:=1) rfl ?_);refine box_event ?hg (N:=1) ?hd (cs:=#[.slice A0_0 l0_0.length c0_0,.slice A0_1 l0_1.length c0_1]) (t:=26) ?hr ?_;(case hd=>rfl);(case hg=>rfl);(case hr=>exact Yg);intro gb174 hg w4 hbox hb;have BK174:=Aside0.mk (hbox);have GW174:=Aside0.mk ((hZ:w.heap.size ≤ gb174));have GE174:=Aside0.mk ((hZ:w.heap.size ≤ gb174));replace HB:=Aside0.mk (below_step bH hb);clear hb hbox hg)|((with_reducible refine gate_dst (N:=2) rfl ?_);refine box_event ?hg (N:=2) ?hd (cs:=#[.slice none 0 0,.slice none 0 0]) (t:=26) ?hr ?_;(case hd=>rfl);(case hg=>rfl);(case hr=>exact Yg);intro gb175 hg w5 hbox hb;have BK175:=Aside0.mk (hbox);have GW175:=Aside0.mk ((hZ:w.heap.size ≤ gb175));have GE175:=Aside0.mk ((hZ:w.heap.size ≤ gb175));replace HB:=Aside0.mk (below_step bH hb);have NB174_175:=Aside0.mk ((nL BK174:gb174 ≠ gb175));have NB175_174:=Aside0.mk ((nG BK174:gb175 ≠ gb174));replace BK174:=Aside0.mk (blk_below (bB BK174) hb);clear hb hbox hg))
   replace BK174:=Aside0.mk (blk_drew BK174.out);replace BK175:=Aside0.mk (blk_drew BK175.out);replace HB:=Aside0.mk (below_drew1 HB.out)
   refine start_ (n:=10) (S:=fun w'=>w'.cell? ⟨gb174,0,none⟩ = some (.slice A0_0 l0_0.length c0_0) ∧ w'.cell? ⟨gb174,1,none⟩ = some (.slice A0_1 l0_1.length c0_1)) (ds:=[]) #[false,false,false,false,false,false,false,false,false,false] (by kernel_rfl) rfl rfl ⟨(blk_cell BK174.out 0).trans rfl,(blk_cell BK174.out 1).trans rfl⟩ (fun hHeld=>?_);refine with_tabW spec_l13Own.tab1 spec_l13Own.bits1 (fun HT_ HW_=>?_)
   generalize w5.drew = w6 at BK174 BK175 HB hHeld ⊢
   refine pU (i:=1) (N:=some 4) #[false,true,false,false,false,false,false,false,false,false] (any_of HT_.out (by kernel_rfl)) ?_
   refine pU (i:=5) (N:=some 8) #[false,true,false,false,false,true,false,false,false,false] (any_of HT_.out (by kernel_rfl)) ?_
   refine take_ (i:=2) (N:=some 5) (v:=?_) (a':=?_) #[false,true,true,false,false,true,false,false,false,false] rfl rfl (take_ofW HT_.out HW_.out (by kernel_rfl)) (fun _ _ _ h=>h) (Or.inl ⟨by rfl,?_⟩) hHeld ?_ ?_
   rotate_left
   ·rintro w' ⟨s0,s1⟩
    go_simp
    with_reducible rfl
   rotate_left
   ·simp only [Act.put,List.setIfInBounds_toArray,List.set_cons_zero,List.set_cons_succ,i64_w,i32_w]
    rfl
   refine take_ (i:=6) (N:=some 9) (v:=?_) (a':=?_) #[false,true,true,false,false,true,true,false,false,false] rfl rfl (take_ofW HT_.out HW_.out (by kernel_rfl)) (fun _ _ _ h=>h) (Or.inl ⟨by rfl,?_⟩) hHeld ?_ ?_
   rotate_left
   ·rintro w' ⟨s0,s1⟩
    go_simp
    with_reducible rfl
   rotate_left
   ·simp only [Act.put,List.setIfInBounds_toArray,List.set_cons_zero,List.set_cons_succ,i64_w,i32_w]
    rfl
   refine join_ (σ:=Value × Value × Value) 3 #[true,true,true,true,true,true,true,false,false,false] (fun s_=>[(3,s_.1),(6,s_.2.1),(7,s_.2.2)]) (fun s_ w'=>(w'.cell? ⟨gb174,0,none⟩ = some (.slice A0_0 l0_0.length c0_0) ∧ w'.cell? ⟨gb174,1,none⟩ = some (.slice A0_1 l0_1.length c0_1)) ∧ (Kd.R Kd.string 9 w' w.heap.size (fun k_=>some k_ ≠ (s_.2.2:Value).ownBlock) s_.2.1 y179) ∧ (Kd.R Kd.string 9 w' w.heap.size (fun k_=>some k_ ≠ (s_.2.1:Value).ownBlock) s_.2.2 y182) ∧ (w'.heap[gb174]? = some (.cells #[.slice A0_0 l0_0.length c0_0,.slice A0_1 l0_1.length c0_1] 26 (0,0))) ∧ (w'.heap[gb175]? = some (.cells #[.slice none 0 0,.slice none 0 0] 26 (0,0))) ∧ (Below w.heap.size w w')) ?_ ?_
   rotate_left
   ·intro hCont
    refine two_ (i:=0) (j:=4) (Ni:=some 3) (Nj:=some 7) #[true,true,true,false,false,true,true,false,false,false] #[false,true,true,false,true,true,true,false,false,false] rfl rfl rfl rfl (two_of HT_.out (by kernel_rfl)) (by decide) (by decide) (fun K hK=>?_) (fun K hK=>?_)
    ·skip
     refine Kd.R_lit_step Kd.string _ 9 ?hg (N:=3) ?hd (xs:=([]:List ByteArray)) (inner:=[]) (ok:=fun _=>True) (okp:=fun _=>True) ?hr ?hp (fun _ hk=>hk) trivial (Below.refl _ _) (Nat.le_refl _) (by simp) ?_;(case hd=>rfl);(case hg=>rfl);(case hr=>exact Yg);(case hp=>exact ZN)
     intro v177 w7 ho8 hb hg_ hnew_
     clear hg_ hnew_
     (first|rw [← Ny176.out] at ho8|(simp only [Int.reduceToNat] at ho8;rw [← Ny176.out] at ho8))
     have HO178:=Aside0.mk (Kd.R_lower ho8 (below_size bH));replace BK174:=Aside0.mk (blk_below (bB BK174) hb);replace BK175:=Aside0.mk (blk_below (bB BK175) hb);replace HB:=Aside0.mk (below_step bH hb)
     clear hb ho8
     refine hK.out _ _ ⟨(blk_cell BK174.out 0).trans rfl,(blk_cell BK174.out 1).trans rfl⟩ (fun hHeld=>?_)
     clear hK K
     refine nM (N:=some 3) ?_
     refine two_ (i:=3) (j:=4) (Ni:=some 6) (Nj:=some 7) #[true,true,true,true,false,true,true,false,false,false] #[true,true,true,false,true,true,true,false,false,false] rfl rfl rfl rfl (two_of HT_.out (by kernel_rfl)) (by decide) (by decide) (fun K hK=>?_) (fun K hK=>?_)
     ·skip
      refine Kd.R_append_rows_step Kd.string (w0:=w) w.heap.size (by rfl) (.tmp 3) (.tmp 5) 24 9 (.string ⟨#[]⟩) 16 rfl Try.underlying24 info9 rfl (by decide) Yy v177 y176 l0_0 _ _ _ (fun _=>True) (fun _=>False) rfl rfl ?aO ?aR (fun _ _ h=>h) (fun _ h=>h.elim) ?aF ?aB ?aS ?aL ?_
      (case aR=>exact ZB)
      (case aB=>exact bH)
      (case aF=>exact YE)
      (case aO=>exact (rR HO178))
      (case aS=>exact YB)
      (case aL=>have:=LMc2.out;omega)
      intro v180 w9 ho hb hg hat
      rw [← Ny179.out] at ho
      have n0_:=Aside0.mk (blk_grown (bB BK174) hg (Kd.R_ne HO178.out BK174.out (by decide)));have n1_:=Aside0.mk (blk_grown (bB BK175) hg (Kd.R_ne HO178.out BK175.out (by decide)));have n2_:=Aside0.mk (hb);have n3_:=Aside0.mk (ho);clear BK174;clear BK175;clear HB;clear HO178;have BK174:=n0_;have BK175:=n1_;have HB:=n2_;have HO181:=n3_;clear n0_ n1_ n2_ n3_
      clear ho hb hg hat
      refine hK.out _ _ ⟨(blk_cell BK174.out 0).trans rfl,(blk_cell BK174.out 1).trans rfl⟩ (fun hHeld=>?_)
      clear hK K
      refine nM (N:=some 6) ?_
      refine one_ (i:=4) (N:=some 7) #[true,true,true,true,true,true,true,false,false,false] rfl rfl (one_of HT_.out (by kernel_rfl)) (by decide) (fun K hK=>?_)
      refine Kd.R_lit_step Kd.string _ 9 ?hg (N:=7) ?hd (xs:=([]:List ByteArray)) (inner:=[]) (ok:=fun _=>True) (okp:=fun _=>True) ?hr ?hp (fun _ hk=>hk) trivial (Below.refl _ _) (Nat.le_refl _) (by simp) ?_;(case hd=>rfl);(case hg=>rfl);(case hr=>exact Yg);(case hp=>exact ZN)
      intro v183 w10 ho11 hb hg_ hnew_
      clear hg_ hnew_
      (first|rw [← Ny182.out] at ho11|(simp only [Int.reduceToNat] at ho11;rw [← Ny182.out] at ho11))
      have HO184:=Aside0.mk (Kd.R_lower (Kd.R_new' ho11 (Kd.R_lt (rR HO181))) (below_size bH));replace HO181:=Aside0.mk (Kd.R_elder' (rR HO181) (Kd.R_base ho11) hb);replace BK174:=Aside0.mk (blk_below (bB BK174) hb);replace BK175:=Aside0.mk (blk_below (bB BK175) hb);replace HB:=Aside0.mk (below_step bH hb)
      clear hb ho11
      refine hK.out _ _ ⟨(blk_cell BK174.out 0).trans rfl,(blk_cell BK174.out 1).trans rfl⟩ (fun hHeld=>?_)
      clear hK K
      refine nM (N:=some 7) ?_
      exact norm_ Yi (hCont (v177,v180,v183) _ ⟨hHeld,(by (with_reducible repeat (first|apply Kd.R_alloc|apply Kd.R_drewN|apply Kd.R_drew));exact Kd.R_mono HO181.out (fun _ hk=>hk.2)),ZG,(bB BK174),(bB BK175),bH⟩)
     ·skip
      refine Kd.R_lit_step Kd.string _ 9 ?hg (N:=7) ?hd (xs:=([]:List ByteArray)) (inner:=[]) (ok:=fun _=>True) (okp:=fun _=>True) ?hr ?hp (fun _ hk=>hk) trivial (Below.refl _ _) (Nat.le_refl _) (by simp) ?_;(case hd=>rfl);(case hg=>rfl);(case hr=>exact Yg);(case hp=>exact ZN)
      intro v183 w9 ho10 hb hg_ hnew_
      clear hg_ hnew_
      (first|rw [← Ny182.out] at ho10|(simp only [Int.reduceToNat] at ho10;rw [← Ny182.out] at ho10))
      have HO184:=Aside0.mk (Kd.R_lower (Kd.R_new' ho10 (Kd.R_lt (rR HO178))) (below_size bH));replace HO178:=Aside0.mk (Kd.R_elder' (rR HO178) (Kd.R_base ho10) hb);replace BK174:=Aside0.mk (blk_below (bB BK174) hb);replace BK175:=Aside0.mk (blk_below (bB BK175) hb);replace HB:=Aside0.mk (below_step bH hb)
      clear hb ho10
      refine hK.out _ _ ⟨(blk_cell BK174.out 0).trans rfl,(blk_cell BK174.out 1).trans rfl⟩ (fun hHeld=>?_)
      clear hK K
      refine nM (N:=some 7) ?_
      refine one_ (i:=3) (N:=some 6) #[true,true,true,true,true,true,true,false,false,false] rfl rfl (one_of HT_.out (by kernel_rfl)) (by decide) (fun K hK=>?_)
      refine Kd.R_append_rows_step Kd.string (w0:=w) w.heap.size (by rfl) (.tmp 3) (.tmp 5) 24 9 (.string ⟨#[]⟩) 16 rfl Try.underlying24 info9 rfl (by decide) Yy v177 y176 l0_0 _ _ _ (fun k_=>some k_ ≠ (v183:Value).ownBlock) (fun _=>False) rfl rfl ?aO ?aR (fun _ _ h=>h) (fun _ h=>h.elim) ?aF ?aB ?aS ?aL ?_
      (case aR=>exact ZB)
      (case aB=>exact bH)
      (case aF=>exact (fun k_ hk=>Kd.fresh' (Kd.R_lt (rR HO184)) k_ hk))
      (case aO=>exact (by (with_reducible repeat (first|apply Kd.R_alloc|apply Kd.R_drewN|apply Kd.R_drew));exact Kd.R_mono HO178.out (fun _ hk=>hk.2)))
      (case aS=>exact YB)
      (case aL=>have:=LMc2.out;omega)
      intro v180 w11 ho hb hg hat
      rw [← Ny179.out] at ho
      have n0_:=Aside0.mk (blk_grown (bB BK174) hg (Kd.R_ne HO178.out BK174.out (by decide)));have n1_:=Aside0.mk (blk_grown (bB BK175) hg (Kd.R_ne HO178.out BK175.out (by decide)));have n2_:=Aside0.mk (Kd.R_after (ok:=(fun _=>True)) (rR HO184) hg hat);have n3_:=Aside0.mk (hb);have n4_:=Aside0.mk (ho);clear BK174;clear BK175;clear HO184;clear HB;clear HO178;have BK174:=n0_;have BK175:=n1_;have HO184:=n2_;have HB:=n3_;have HO181:=n4_;clear n0_ n1_ n2_ n3_ n4_
      clear ho hb hg hat
      refine hK.out _ _ ⟨(blk_cell BK174.out 0).trans rfl,(blk_cell BK174.out 1).trans rfl⟩ (fun hHeld=>?_)
      clear hK K
      refine nM (N:=some 6) ?_
      exact norm_ Yi (hCont (v177,v180,v183) _ ⟨hHeld,(rR HO181),ZG,(bB BK174),(bB BK175),bH⟩)
    ·skip
     refine Kd.R_lit_step Kd.string _ 9 ?hg (N:=7) ?hd (xs:=([]:List ByteArray)) (inner:=[]) (ok:=fun _=>True) (okp:=fun _=>True) ?hr ?hp (fun _ hk=>hk) trivial (Below.refl _ _) (Nat.le_refl _) (by simp) ?_;(case hd=>rfl);(case hg=>rfl);(case hr=>exact Yg);(case hp=>exact ZN)
     intro v183 w7 ho8 hb hg_ hnew_
     clear hg_ hnew_
     (first|rw [← Ny182.out] at ho8|(simp only [Int.reduceToNat] at ho8;rw [← Ny182.out] at ho8))
     have HO184:=Aside0.mk (Kd.R_lower ho8 (below_size bH));replace BK174:=Aside0.mk (blk_below (bB BK174) hb);replace BK175:=Aside0.mk (blk_below (bB BK175) hb);replace HB:=Aside0.mk (below_step bH hb)
     clear hb ho8
     refine hK.out _ _ ⟨(blk_cell BK174.out 0).trans rfl,(blk_cell BK174.out 1).trans rfl⟩ (fun hHeld=>?_)
     clear hK K
     refine nM (N:=some 7) ?_
     refine one_ (i:=0) (N:=some 3) #[true,true,true,false,true,true,true,false,false,false] rfl rfl (one_of HT_.out (by kernel_rfl)) (by decide) (fun K hK=>?_)
     refine Kd.R_lit_step Kd.string _ 9 ?hg (N:=3) ?hd (xs:=([]:List ByteArray)) (inner:=[]) (ok:=fun _=>True) (okp:=fun _=>True) ?hr ?hp (fun _ hk=>hk) trivial (Below.refl _ _) (Nat.le_refl _) (by simp) ?_;(case hd=>rfl);(case hg=>rfl);(case hr=>exact Yg);(case hp=>exact ZN)
     intro v177 w9 ho10 hb hg_ hnew_
     clear hg_ hnew_
     (first|rw [← Ny176.out] at ho10|(simp only [Int.reduceToNat] at ho10;rw [← Ny176.out] at ho10))
     have HO178:=Aside0.mk (Kd.R_lower (Kd.R_new' ho10 (Kd.R_lt (rR HO184))) (below_size bH));replace HO184:=Aside0.mk (Kd.R_elder' (rR HO184) (Kd.R_base ho10) hb);replace BK174:=Aside0.mk (blk_below (bB BK174) hb);replace BK175:=Aside0.mk (blk_below (bB BK175) hb);replace HB:=Aside0.mk (below_step bH hb)
     clear hb ho10
     refine hK.out _ _ ⟨(blk_cell BK174.out 0).trans rfl,(blk_cell BK174.out 1).trans rfl⟩ (fun hHeld=>?_)
     clear hK K
     refine nM (N:=some 3) ?_
     refine one_ (i:=3) (N:=some 6) #[true,true,true,true,true,true,true,false,false,false] rfl rfl (one_of HT_.out (by kernel_rfl)) (by decide) (fun K hK=>?_)
     refine Kd.R_append_rows_step Kd.string (w0:=w) w.heap.size (by rfl) (.tmp 3) (.tmp 5) 24 9 (.string ⟨#[]⟩) 16 rfl Try.underlying24 info9 rfl (by decide) Yy v177 y176 l0_0 _ _ _ (fun k_=>some k_ ≠ (v183:Value).ownBlock) (fun _=>False) rfl rfl ?aO ?aR (fun _ _ h=>h) (fun _ h=>h.elim) ?aF ?aB ?aS ?aL ?_
     (case aR=>exact ZB)
     (case aB=>exact bH)
     (case aF=>exact (fun k_ hk=>Kd.fresh' (Kd.R_lt (rR HO184)) k_ hk))
     (case aO=>exact (by (with_reducible repeat (first|apply Kd.R_alloc|apply Kd.R_drewN|apply Kd.R_drew));exact Kd.R_mono HO178.out (fun _ hk=>hk.2)))
     (case aS=>exact YB)
     (case aL=>have:=LMc2.out;omega)
     intro v180 w11 ho hb hg hat
     rw [← Ny179.out] at ho
     have n0_:=Aside0.mk (blk_grown (bB BK174) hg (Kd.R_ne HO178.out BK174.out (by decide)));have n1_:=Aside0.mk (blk_grown (bB BK175) hg (Kd.R_ne HO178.out BK175.out (by decide)));have n2_:=Aside0.mk (Kd.R_after (ok:=(fun _=>True)) (rR HO184) hg hat);have n3_:=Aside0.mk (hb);have n4_:=Aside0.mk (ho);clear BK174;clear BK175;clear HO184;clear HB;clear HO178;have BK174:=n0_;have BK175:=n1_;have HO184:=n2_;have HB:=n3_;have HO181:=n4_;clear n0_ n1_ n2_ n3_ n4_
     clear ho hb hg hat
     refine hK.out _ _ ⟨(blk_cell BK174.out 0).trans rfl,(blk_cell BK174.out 1).trans rfl⟩ (fun hHeld=>?_)
     clear hK K
     refine nM (N:=some 6) ?_
     exact norm_ Yi (hCont (v177,v180,v183) _ ⟨hHeld,(rR HO181),ZG,(bB BK174),(bB BK175),bH⟩)
   rintro ⟨v177,v180,v183⟩ w12 ⟨hS_,h0_,h1_,h2_,h3_,h4_⟩
   have n0_:Aside0 (Kd.R Kd.string 9 w12 w.heap.size (fun k_=>some k_ ≠ (v183:Value).ownBlock) v180 y179):=⟨h0_⟩
   have n1_:Aside0 (Kd.R Kd.string 9 w12 w.heap.size (fun k_=>some k_ ≠ (v180:Value).ownBlock) v183 y182):=⟨h1_⟩
   have n2_:Aside0 (w12.heap[gb174]? = some (.cells #[.slice A0_0 l0_0.length c0_0,.slice A0_1 l0_1.length c0_1] 26 (0,0))):=⟨h2_⟩
   have n3_:Aside0 (w12.heap[gb175]? = some (.cells #[.slice none 0 0,.slice none 0 0] 26 (0,0))):=⟨h3_⟩
   have n4_:Aside0 (Below w.heap.size w w12):=⟨h4_⟩
   clear BK174
   clear BK175
   clear HB
   clear h0_ h1_ h2_ h3_ h4_
   have HO181:=n0_
   have HO184:=n1_
   have BK174:=n2_
   have BK175:=n3_
   have HB:=n4_
   clear n0_ n1_ n2_ n3_ n4_
   have hHeld:w12.cell? ⟨gb174,0,none⟩ = some (.slice A0_0 l0_0.length c0_0) ∧ w12.cell? ⟨gb174,1,none⟩ = some (.slice A0_1 l0_1.length c0_1):=hS_
   refine norm_ (a':=?_) ?_ ?_
   rotate_left
   ·simp only [putAll,Act.put,List.setIfInBounds_toArray,List.set_cons_zero,List.set_cons_succ]
    rfl
   refine one_ (i:=7) (N:=some 10) #[true,true,true,true,true,true,true,true,false,false] rfl rfl (one_of HT_.out (by kernel_rfl)) (by decide) (fun K hK=>?_)
   refine Kd.R_append_rows_step Kd.string (w0:=w) w.heap.size (by rfl) (.tmp 7) (.tmp 9) 24 9 (.string ⟨#[]⟩) 16 rfl Try.underlying24 info9 rfl (by decide) Yy v183 y182 l0_1 _ _ _ (fun k_=>some k_ ≠ (v180:Value).ownBlock) (fun _=>False) rfl rfl ?aO ?aR (fun _ _ h=>h) (fun _ h=>h.elim) ?aF ?aB ?aS ?aL ?_
   (case aR=>exact ZP)
   (case aB=>exact bH)
   (case aF=>exact (fun k_ hk=>Kd.fresh' (Kd.R_lt (rR HO181)) k_ hk))
   (case aO=>exact (rR HO184))
   (case aS=>exact YB)
   (case aL=>have:=LMc3.out;omega)
   intro v186 w13 ho hb hg hat
   rw [← Ny185.out] at ho
   have n0_:=Aside0.mk (blk_grown (bB BK174) hg (Kd.R_ne HO184.out BK174.out (by decide)));have n1_:=Aside0.mk (blk_grown (bB BK175) hg (Kd.R_ne HO184.out BK175.out (by decide)));have n2_:=Aside0.mk (Kd.R_after (ok:=(fun _=>True)) (by (with_reducible repeat (first|apply Kd.R_alloc|apply Kd.R_drewN|apply Kd.R_drew));exact Kd.R_mono HO181.out (fun _ hk=>⟨trivial,hk⟩)) hg hat);have n3_:=Aside0.mk (hb);have n4_:=Aside0.mk (ho);clear BK174;clear BK175;clear HO181;clear HB;clear HO184;have BK174:=n0_;have BK175:=n1_;have HO181:=n2_;have HB:=n3_;have HO187:=n4_;clear n0_ n1_ n2_ n3_ n4_
   clear ho hb hg hat
   obtain ⟨Ao14,co14,eo14⟩:=Kd.R_slice HO187.out
   (first|subst eo14|(injection eo14 with f1_ f2_ f3_;have f4_:=f1_.symm;have f5_:=f3_.symm;clear f1_ f2_ f3_;subst f4_;subst f5_))
   obtain ⟨Ao15,co15,eo15⟩:=Kd.R_slice HO181.out
   (first|subst eo15|(injection eo15 with f1_ f2_ f3_;have f4_:=f1_.symm;have f5_:=f3_.symm;clear f1_ f2_ f3_;subst f4_;subst f5_))
   refine hK.out _ _ ⟨(blk_cell BK174.out 0).trans rfl,(blk_cell BK174.out 1).trans rfl⟩ (fun hHeld=>?_)
   clear hK K
   refine nM (N:=some 10) ?_
   refine pU (i:=8) (N:=some 11) #[true,true,true,true,true,true,true,true,true,false] (any_of HT_.out (by kernel_rfl)) ?_
   refine one_ (i:=9) (N:=none) #[true,true,true,true,true,true,true,true,true,true] rfl rfl (one_of HT_.out (by kernel_rfl)) (by decide) (fun K hK=>?_)
   have hs16:w13.cell? ⟨gb175,0,none⟩ = some (.slice none 0 0):=(blk_cell BK175.out 0).trans rfl
   have hfs16:=blk_frozen BK175.out 0
   have hns16_0:=NB174_175.out
   have hms16_0:=NB175_174.out
   have hs17:w13.cell? ⟨gb175,1,none⟩ = some (.slice none 0 0):=(blk_cell BK175.out 1).trans rfl
   have hfs17:=blk_frozen BK175.out 1
   have hns17_0:=NB174_175.out
   have hms17_0:=NB175_174.out
   refine skip_ (w1:=?_) (by rfl) rfl ?_ ?_
   rotate_left
   ·go_simp
    rfl
   refine hK.out _ _ ⟨((cell_far (p:=⟨gb175,_,none⟩) NB174_175.out _).trans (((cell_far (p:=⟨gb175,_,none⟩) NB174_175.out _).trans (hHeld.1)))),((cell_far (p:=⟨gb175,_,none⟩) NB174_175.out _).trans (((cell_far (p:=⟨gb175,_,none⟩) NB174_175.out _).trans (hHeld.2))))⟩ (fun hHeld=>?_)
   clear hK K
   refine done_ (done_of HT_.out (by kernel_rfl)) ?_
   try go_wp2
   refine bodyPost_ret (results_cell_row rfl _ _ gb175 26 #[.slice Ao15 y179.length co15,.slice Ao14 y185.length co14] (0,0) _ rfl (by (with_reducible repeat (first|refine blk_drewN ?_ _|refine blk_drew ?_|refine blk_alloc ?_ _));refine blk_put (cs:=#[.slice Ao15 y179.length co15,.slice none 0 0]) ?_ 1 _ rfl;(with_reducible repeat (first|refine blk_drewN ?_ _|refine blk_drew ?_|refine blk_alloc ?_ _));refine blk_put (cs:=#[.slice none 0 0,.slice none 0 0]) ?_ 0 _ rfl;(with_reducible repeat (first|refine blk_drewN ?_ _|refine blk_drew ?_|refine blk_alloc ?_ _));exact BK175.out) Try.underlying26 rfl (by kernel_rfl)) rfl ?_
   exact ⟨_,_,Yb,by (with_reducible repeat (first|apply Kd.R_alloc|apply Kd.R_drewN|apply Kd.R_drew));exact Kd.R_mono (Kd.R_far (p:=⟨gb175,1,none⟩) (Kd.R_far (p:=⟨gb175,0,none⟩) (Kd.R_types HO181.out BK175.out (by decide)) (fun _ hk=>hk.2) (.slice Ao15 y179.length co15)) (fun _ hk=>hk.2) (.slice Ao14 y185.length co14)) (fun _ hk=>hk.1.2),by (with_reducible repeat (first|apply Kd.R_alloc|apply Kd.R_drewN|apply Kd.R_drew));exact Kd.R_mono (Kd.R_far (p:=⟨gb175,1,none⟩) (Kd.R_far (p:=⟨gb175,0,none⟩) (Kd.R_types HO187.out BK175.out (by decide)) (fun _ hk=>hk.2) (.slice Ao15 y179.length co15)) (fun _ hk=>hk.2) (.slice Ao14 y185.length co14)) (fun _ hk=>hk.1),bH⟩
  ·rw [if_neg c3] at H
   exact absurd H (by simp)
 ·rw [if_neg c2] at H
  exact absurd H (by simp)

end Go.Proofs.Ytmgkflkfoccgkab.QFnDisk
