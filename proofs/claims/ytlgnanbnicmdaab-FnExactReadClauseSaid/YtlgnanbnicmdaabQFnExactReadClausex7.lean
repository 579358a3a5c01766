-- Written by this session's own program (wip/x/xprint.py, over the kit's printer); Lean checks it.
import Derived.Test.YtlgnanbnicmdaabQFnExactReadClausex0
import Derived.Test.YtlgnanbnicmdaabQFnExactReadClausex6
namespace Go.Proofs.Ytlgnanbnicmdaab.QFnExactReadClause
open Go.RowKit Go.Proofs.YtlgnanbnicmdaabW.PrintWords Go.Proofs.YtlgnanbnicmdaabW.PrintLast Go.Proofs.YtlgnanbnicmdaabW.PrintMore
attribute [local go_sem] max2_int min2_int max_two min_two max_three min_three max_four min_four   -- for this text's walks alone
set_option linter.unusedVariables false
set_option linter.unusedSimpArgs false

/-! ### impl_parser_take: function 100 -/
def impl_parser_take.l0:Nat → ByteArray → Int → Int → Int → List Int → ByteArray → Int → Int → Bool → Option (Int × ByteArray × Int × Int × Bool)
 | 0,_,_,_,_,_,_,_,_,_=>none
 | k + 1,x1,x5,x10,x11,x1000,x1001,x1002,x1003,x1004=>if x11 < x10 then (if 0 ≤ x11 then (if x11 < (x1.size:Int) then (if x5 = (bt x1 x11) then (if x5 = 0 then (impl_parser_take.l0 k x1 x5 x10 (wrap64 (x11 + 1)) x1000 x1001 x1002 x1003 x1004) else (some (x5,x1001,wrap64 (x1002 + 1),x1003,x1004))) else (impl_parser_take.l0 k x1 x5 x10 (wrap64 (x11 + 1)) x1000 x1001 x1002 x1003 x1004)) else (none)) else (none)) else (some (0,x1001,x1002,x1003,true))
def impl_parser_take.f (k:Nat) (s0_0:List Int) (s0_1:ByteArray) (s0_2:Int) (s0_3:Int) (s0_4:Bool) (a1:ByteArray):Option (Int × ByteArray × Int × Int × Bool):=(impl_parser_next.f s0_0 s0_1 s0_2 s0_3 s0_4).bind fun bt199=>(impl_parser_take.l0 k a1 bt199.1 (a1.size:Int) 0 s0_0 bt199.2.1 bt199.2.2.1 bt199.2.2.2.1 bt199.2.2.2.2)
theorem impl_parser_take.mono_l:∀ k,(∀ y0 y1 y2 y3 y4 y5 y6 y7 y8,LeO (impl_parser_take.l0 k y0 y1 y2 y3 y4 y5 y6 y7 y8) (impl_parser_take.l0 (k + 1) y0 y1 y2 y3 y4 y5 y6 y7 y8))
 | 0=>fun _ _ _ _ _ _ _ _ _ r h=>by simp [impl_parser_take.l0] at h
 | k + 1=>by
  have ih0:=impl_parser_take.mono_l k
  ·intro y0 y1 y2 y3 y4 y5 y6 y7 y8
   unfold impl_parser_take.l0
   exact mO
theorem impl_parser_take.mono:∀ a0 a1 a2 a3 a4 a5 k,LeO (impl_parser_take.f k a0 a1 a2 a3 a4 a5) (impl_parser_take.f (k + 1) a0 a1 a2 a3 a4 a5):=by
 intro a0 a1 a2 a3 a4 a5 k
 have ih0:=impl_parser_take.mono_l k
 unfold impl_parser_take.f
 exact mO
set_option maxHeartbeats 8000000 in
set_option maxRecDepth 100000 in
theorem impl_parser_take.calls (k:Nat) (g:Nat) (s0_0:List Int) (s0_1:ByteArray) (s0_2:Int) (s0_3:Int) (s0_4:Bool) (a1:ByteArray) (r1:Int) (r2:ByteArray) (r3:Int) (r4:Int) (r5:Bool) (w0 w:World) (hI:IsS89 w0 w g s0_0 s0_1 s0_2 s0_3 s0_4) (hB:Below w0.heap.size w0 w) (h:impl_parser_take.f k s0_0 s0_1 s0_2 s0_3 s0_4 a1 = some (r1,r2,r3,r4,r5)) :
  Calls Try.prog 100 #[.pointer (some ⟨g,0,none⟩),.string a1] w fun e w'=>e = .returned (.int .u8 r1) ∧ IsS89 w0 w' g s0_0 r2 r3 r4 r5 ∧ Below w0.heap.size w0 w' ∧ KeepBut w w' g none:=by
 have HI0:=Aside0.mk hI
 have HK:=Aside0.mk (KeepBut.refl w g none)
 have HL:=Aside0.mk hB.size
 clear hI
 have HW0:=Aside0.mk hB.size
 have HB:=Aside0.mk hB
 clear hB
 have H:((impl_parser_next.f s0_0 s0_1 s0_2 s0_3 s0_4).bind fun bt199=>(impl_parser_take.l0 k a1 bt199.1 (a1.size:Int) 0 s0_0 bt199.2.1 bt199.2.2.1 bt199.2.2.2.1 bt199.2.2.2.2)) = some (r1,r2,r3,r4,r5):=h
 clear h
 replace H:=Option.bind_eq_some_iff.mp H
 obtain ⟨⟨t199,t200,t201,t202,t203⟩,A30,H⟩:=H
 replace H:(impl_parser_take.l0 k a1 t199 (a1.size:Int) 0 s0_0 t200 t201 t202 t203) = some (r1,r2,r3,r4,r5):=H
 have A3:=Aside0.mk A30
 clear A30
 have H':=Aside0.mk H
 clear H
 go_enter Try.func100,Try.ntmps100
 go_wp2_with (first|((with_reducible refine gate_callee (f:=98) rfl ?_);refine goesL_ (some 8) rfl rfl Try.func98 (by kernel_rfl) rfl #[.pointer (some ⟨g,0,none⟩)] rfl Ya ?_;(with_reducible refine (impl_parser_next.calls g s0_0 s0_1 s0_2 s0_3 s0_4 t199 t200 t201 t202 t203 w0 _ ?side1 ?side2 A3.out).mono ?_);(case side1=>repeat (first|(with_reducible first|exact HI0.out|apply IsS89.alloc|apply IsS89.drewN|apply IsS89.drew|apply IsS89.set_1|apply IsS89.set_2|apply IsS89.set_3|apply IsS89.set_4)|exact HI0.out));(case side2=>repeat (first|(with_reducible first|exact HB.out|apply below_alloc|apply pw_below_drewN|apply below_drew1|refine below_set ?_ (IsS89.ge HI0.out))|exact HB.out));rintro e w4 ⟨rfl,hi,hb,hk⟩;refine ⟨_,rfl,?_⟩;replace HK:=Aside0.mk (KeepBut.trans Yb hk (.inl rfl));replace HB:=Aside0.mk (hb);replace HI0:=Aside0.mk (hi);(try clear hb);(try clear hb2);(try clear hk);(try clear hi)))
 go_loopg [11] k (fun kq v11 w'=>∃ (x11_1:Int) (x1002_1:Int),v11 = .int .i64 x11_1 ∧ Aside0 (impl_parser_take.l0 kq a1 t199 (a1.size:Int) x11_1 s0_0 t200 x1002_1 t202 t203 = some (r1,r2,r3,r4,r5)) ∧ Aside0 (kq ≤ k) ∧ Aside0 (IsS89 w0 w' g s0_0 t200 x1002_1 t202 t203) ∧ Aside0 (KeepBut w w' g none) ∧ Aside0 (Below w0.heap.size w0 w'))
 case atStart=>exact ⟨(0),(t201),Yd,H',⟨Nat.le_refl _⟩,⟨by repeat (first|(with_reducible first|exact HI0.out|apply IsS89.alloc|apply IsS89.drewN|apply IsS89.drew|apply IsS89.set_1|apply IsS89.set_2|apply IsS89.set_3|apply IsS89.set_4)|exact HI0.out)⟩,⟨by repeat (first|(with_reducible first|exact HK.out|apply KeepBut.set_|apply keep_drewN|apply keep_drew|apply keep_alloc)|exact HK.out)⟩,⟨by repeat (first|(with_reducible first|exact HB.out|apply below_alloc|apply pw_below_drewN|apply below_drew1|refine below_set ?_ (IsS89.ge HI0.out))|exact HB.out)⟩⟩
 case round =>
  clear H'
  try clear c1
  try clear p2
  obtain ⟨x11_1,x1002_1,rfl,HA,HK1,HI0,HK,HB⟩:=hrel
  cases gk with
  | zero=>exact absurd HA.out (by simp [impl_parser_take.l0])
  | succ k1 =>
   have H:=HA.out
   clear HA
   simp only [impl_parser_take.l0] at H
   by_cases c5:x11_1 < (a1.size:Int)
   ·rw [if_pos c5] at H
    have c5b0:=decide_eq_true c5
    clear c5
    by_cases c6:0 ≤ x11_1
    ·rw [if_pos c6] at H
     have c6b0:=decide_eq_true c6
     clear c6
     by_cases c7:x11_1 < (a1.size:Int)
     ·rw [if_pos c7] at H
      have c7b0:=decide_eq_true c7
      clear c7
      by_cases c9:t199 = (bt a1 x11_1)
      ·rw [if_pos c9] at H
       have c9b0:(t199 == (bt a1 x11_1)) = true:=beq_iff_eq.mpr c9
       have c9b1:(t199 != (bt a1 x11_1)) = false:=bne_eq_false_iff_eq.mpr c9
       clear c9
       by_cases c10:t199 = 0
       ·rw [if_pos c10] at H
        have c10b0:(t199 == 0) = true:=beq_iff_eq.mpr c10
        have c10b1:(t199 != 0) = false:=bne_eq_false_iff_eq.mpr c10
        clear c10
        have H':=Aside0.mk H
        clear H
        have p8:0 ≤ (x11_1:Int):=oD
        have q8:x11_1 < (a1.size:Int):=oD
        have hx8:=bt_at a1 x11_1
        replace p8:=eq_true p8
        replace q8:=eq_true q8
        go_wp2
        go_roundg k1
        case measure=>have:=HK1.out;omega
        case rel=>exact ⟨(wrap64 (x11_1 + 1)),(x1002_1),Yd,H',⟨by have:=HK1.out;omega⟩,⟨by repeat (first|(with_reducible first|exact HI0.out|apply IsS89.alloc|apply IsS89.drewN|apply IsS89.drew|apply IsS89.set_1|apply IsS89.set_2|apply IsS89.set_3|apply IsS89.set_4)|exact HI0.out)⟩,⟨by repeat (first|(with_reducible first|exact HK.out|apply KeepBut.set_|apply keep_drewN|apply keep_drew|apply keep_alloc)|exact HK.out)⟩,⟨by repeat (first|(with_reducible first|exact HB.out|apply below_alloc|apply pw_below_drewN|apply below_drew1|refine below_set ?_ (IsS89.ge HI0.out))|exact HB.out)⟩⟩
       ·rw [if_neg c10] at H
        have c10b0:(t199 == 0) = false:=beq_eq_false_iff_ne.mpr c10
        have c10b1:(t199 != 0) = true:=bne_iff_ne.mpr c10
        simp only [Option.some.injEq,Prod.mk.injEq] at H
        obtain ⟨rfl,rfl,rfl,rfl,rfl⟩:=H
        have p8:0 ≤ (x11_1:Int):=oD
        have q8:x11_1 < (a1.size:Int):=oD
        have hx8:=bt_at a1 x11_1
        replace p8:=eq_true p8
        replace q8:=eq_true q8
        obtain ⟨ASz11_0,cSz11_0,HGz11,hgz11,HSz11_0⟩:=HI0.out
        have hcz11_0:=cellS89_0 HGz11
        have hcz11_1:=cellS89_1 HGz11
        have hcz11_2:=cellS89_2 HGz11
        have hcz11_3:=cellS89_3 HGz11
        have hcz11_4:=cellS89_4 HGz11
        have hfz11_1:=blk_frozen HGz11 1
        have hfz11_2:=blk_frozen HGz11 2
        have hfz11_3:=blk_frozen HGz11 3
        have hfz11_4:=blk_frozen HGz11 4
        clear HGz11 hgz11
        go_wp2
        go_ret
        exact ⟨by first|rfl|(simp [errW_none,errW_some] <;> rfl)|(simp [*,errW_none,errW_some] <;> rfl),by repeat (first|(with_reducible first|exact HI0.out|apply IsS89.alloc|apply IsS89.drewN|apply IsS89.drew|apply IsS89.set_1|apply IsS89.set_2|apply IsS89.set_3|apply IsS89.set_4)|exact HI0.out),by repeat (first|(with_reducible first|exact HB.out|apply below_alloc|apply pw_below_drewN|apply below_drew1|refine below_set ?_ (IsS89.ge HI0.out))|exact HB.out),by repeat (first|(with_reducible first|exact HK.out|apply KeepBut.set_|apply keep_drewN|apply keep_drew|apply keep_alloc)|exact HK.out)⟩
      ·rw [if_neg c9] at H
       have c9b0:(t199 == (bt a1 x11_1)) = false:=beq_eq_false_iff_ne.mpr c9
       have c9b1:(t199 != (bt a1 x11_1)) = true:=bne_iff_ne.mpr c9
       have H':=Aside0.mk H
       clear H
       have p8:0 ≤ (x11_1:Int):=oD
       have q8:x11_1 < (a1.size:Int):=oD
       have hx8:=bt_at a1 x11_1
       replace p8:=eq_true p8
       replace q8:=eq_true q8
       go_wp2
       go_roundg k1
       case measure=>have:=HK1.out;omega
       case rel=>exact ⟨(wrap64 (x11_1 + 1)),(x1002_1),Yd,H',⟨by have:=HK1.out;omega⟩,⟨by repeat (first|(with_reducible first|exact HI0.out|apply IsS89.alloc|apply IsS89.drewN|apply IsS89.drew|apply IsS89.set_1|apply IsS89.set_2|apply IsS89.set_3|apply IsS89.set_4)|exact HI0.out)⟩,⟨by repeat (first|(with_reducible first|exact HK.out|apply KeepBut.set_|apply keep_drewN|apply keep_drew|apply keep_alloc)|exact HK.out)⟩,⟨by repeat (first|(with_reducible first|exact HB.out|apply below_alloc|apply pw_below_drewN|apply below_drew1|refine below_set ?_ (IsS89.ge HI0.out))|exact HB.out)⟩⟩
     ·rw [if_neg c7] at H
      exact absurd H (by simp)
    ·rw [if_neg c6] at H
     exact absurd H (by simp)
   ·rw [if_neg c5] at H
    have c5b0:decide (x11_1 < (a1.size:Int)) = false:=decide_eq_false c5
    clear c5
    simp only [Option.some.injEq,Prod.mk.injEq] at H
    obtain ⟨rfl,rfl,rfl,rfl,rfl⟩:=H
    obtain ⟨ASz12_0,cSz12_0,HGz12,hgz12,HSz12_0⟩:=HI0.out
    have hcz12_0:=cellS89_0 HGz12
    have hcz12_1:=cellS89_1 HGz12
    have hcz12_2:=cellS89_2 HGz12
    have hcz12_3:=cellS89_3 HGz12
    have hcz12_4:=cellS89_4 HGz12
    have hfz12_1:=blk_frozen HGz12 1
    have hfz12_2:=blk_frozen HGz12 2
    have hfz12_3:=blk_frozen HGz12 3
    have hfz12_4:=blk_frozen HGz12 4
    clear HGz12 hgz12
    go_wp2
    go_ret
    exact ⟨by first|rfl|(simp [errW_none,errW_some] <;> rfl)|(simp [*,errW_none,errW_some] <;> rfl),by repeat (first|(with_reducible first|exact HI0.out|apply IsS89.alloc|apply IsS89.drewN|apply IsS89.drew|apply IsS89.set_1|apply IsS89.set_2|apply IsS89.set_3|apply IsS89.set_4)|exact HI0.out),by repeat (first|(with_reducible first|exact HB.out|apply below_alloc|apply pw_below_drewN|apply below_drew1|refine below_set ?_ (IsS89.ge HI0.out))|exact HB.out),by repeat (first|(with_reducible first|exact HK.out|apply KeepBut.set_|apply keep_drewN|apply keep_drew|apply keep_alloc)|exact HK.out)⟩

/-! ### impl_parser_term: function 99 -/
mutual
def impl_parser_term.j0:Nat → Int → Bool → List Int → ByteArray → Int → Int → Bool → Option (List Int × ByteArray × Int × Int × Bool)
 | 0,_,_,_,_,_,_,_=>none
 | k + 1,x3,x9,x1000,x1001,x1002,x1003,x1004=>if x9 = true then (some ((([(-1) - ((x3 - 65) % 256)]:List Int)),x1001,wrap64 (x1002 + 1),x1003,x1004)) else (if x3 < 97 then (some (([]:List Int),x1001,x1002,x1003,true)) else (if ((x3 - 97) % 256) ≥ (x1000.length:Int) then (some (([]:List Int),x1001,x1002,x1003,true)) else (if 0 ≤ ((x3 - 97) % 256) then (if ((x3 - 97) % 256) < (x1000.length:Int) then (impl_parser_term.l0 k ((x3 - 97) % 256) (([(x3 - 97) % 256]:List Int)) (rd x1000 ((x3 - 97) % 256)) 0 x1000 x1001 (wrap64 (x1002 + 1)) x1003 x1004) else (none)) else (none))))
def impl_parser_term.l0:Nat → Int → List Int → Int → Int → List Int → ByteArray → Int → Int → Bool → Option (List Int × ByteArray × Int × Int × Bool)
 | 0,_,_,_,_,_,_,_,_,_=>none
 | k + 1,x4,x5,x71,x72,x1000,x1001,x1002,x1003,x1004=>if x72 < x71 then (if x72 = 0 then ((impl_parser_take.f k x1000 x1001 x1002 x1003 x1004 (⟨#[40]⟩:ByteArray)).bind fun bt222=>(if bt222.2.2.2.2 = true then (some (([]:List Int),bt222.2.1,bt222.2.2.1,bt222.2.2.2.1,bt222.2.2.2.2)) else ((impl_parser_term.f k x1000 bt222.2.1 bt222.2.2.1 bt222.2.2.2.1 bt222.2.2.2.2).bind fun bt227=>(if x5.length + bt227.1.length < 17592186044416 then (impl_parser_term.l0 k x4 (x5 ++ bt227.1) x71 (wrap64 (x72 + 1)) x1000 bt227.2.1 bt227.2.2.1 bt227.2.2.2.1 bt227.2.2.2.2) else (none))))) else ((impl_parser_take.f k x1000 x1001 x1002 x1003 x1004 (⟨#[44]⟩:ByteArray)).bind fun bt237=>(if bt237.2.2.2.2 = true then (some (([]:List Int),bt237.2.1,bt237.2.2.1,bt237.2.2.2.1,bt237.2.2.2.2)) else ((impl_parser_term.f k x1000 bt237.2.1 bt237.2.2.1 bt237.2.2.2.1 bt237.2.2.2.2).bind fun bt242=>(if x5.length + bt242.1.length < 17592186044416 then (impl_parser_term.l0 k x4 (x5 ++ bt242.1) x71 (wrap64 (x72 + 1)) x1000 bt242.2.1 bt242.2.2.1 bt242.2.2.2.1 bt242.2.2.2.2) else (none)))))) else (if 0 ≤ x4 then (if x4 < (x1000.length:Int) then (if (rd x1000 x4) > 0 then (if x1004 = true then (some (x5,x1001,x1002,x1003,x1004)) else ((impl_parser_take.f k x1000 x1001 x1002 x1003 x1004 (⟨#[41]⟩:ByteArray)).bind fun bt217=>(some (x5,bt217.2.1,bt217.2.2.1,bt217.2.2.2.1,bt217.2.2.2.2)))) else (some (x5,x1001,x1002,x1003,x1004))) else (none)) else (none))
def impl_parser_term.f:Nat → List Int → ByteArray → Int → Int → Bool → Option (List Int × ByteArray × Int × Int × Bool)
 | 0,_,_,_,_,_=>none
 | k + 1,s0_0,s0_1,s0_2,s0_3,s0_4=>(impl_parser_next.f s0_0 s0_1 s0_2 s0_3 s0_4).bind fun bt204=>(if bt204.1 ≥ 65 then (impl_parser_term.j0 k bt204.1 (decide (((bt204.1 - 65) % 256) < bt204.2.2.2.1)) s0_0 bt204.2.1 bt204.2.2.1 bt204.2.2.2.1 bt204.2.2.2.2) else (impl_parser_term.j0 k bt204.1 false s0_0 bt204.2.1 bt204.2.2.1 bt204.2.2.2.1 bt204.2.2.2.2))
end
theorem impl_parser_term.mono_l:∀ k,(∀ y0 y1 y2 y3 y4,LeO (impl_parser_term.f k y0 y1 y2 y3 y4) (impl_parser_term.f (k + 1) y0 y1 y2 y3 y4)) ∧ (∀ y0 y1 y2 y3 y4 y5 y6,LeO (impl_parser_term.j0 k y0 y1 y2 y3 y4 y5 y6) (impl_parser_term.j0 (k + 1) y0 y1 y2 y3 y4 y5 y6)) ∧ (∀ y0 y1 y2 y3 y4 y5 y6 y7 y8,LeO (impl_parser_term.l0 k y0 y1 y2 y3 y4 y5 y6 y7 y8) (impl_parser_term.l0 (k + 1) y0 y1 y2 y3 y4 y5 y6 y7 y8))
 | 0=>⟨fun _ _ _ _ _ r h=>by simp [impl_parser_term.f] at h,fun _ _ _ _ _ _ _ r h=>by simp [impl_parser_term.j0] at h,fun _ _ _ _ _ _ _ _ _ r h=>by simp [impl_parser_term.l0] at h⟩
 | k + 1=>by
  obtain ⟨ih0,ih1,ih2⟩:=impl_parser_term.mono_l k
  refine ⟨?_,?_,?_⟩
  ·intro y0 y1 y2 y3 y4
   unfold impl_parser_term.f
   have m0:=@impl_parser_take.mono
   exact mO
  ·intro y0 y1 y2 y3 y4 y5 y6
   unfold impl_parser_term.j0
   have m0:=@impl_parser_take.mono
   exact mO
  ·intro y0 y1 y2 y3 y4 y5 y6 y7 y8
   unfold impl_parser_term.l0
   have m0:=@impl_parser_take.mono
   exact mO
theorem impl_parser_term.mono:∀ a0 a1 a2 a3 a4 k,LeO (impl_parser_term.f k a0 a1 a2 a3 a4) (impl_parser_term.f (k + 1) a0 a1 a2 a3 a4):=by
 intro a0 a1 a2 a3 a4 k
 obtain ⟨ih0,ih1,ih2⟩:=impl_parser_term.mono_l k
 exact ih0 a0 a1 a2 a3 a4
set_option maxHeartbeats 8000000 in
set_option maxRecDepth 100000 in
theorem impl_parser_term.calls (k:Nat):∀ (g:Nat) (s0_0:List Int) (s0_1:ByteArray) (s0_2:Int) (s0_3:Int) (s0_4:Bool) (r1:List Int) (r2:ByteArray) (r3:Int) (r4:Int) (r5:Bool) (w0 w:World) (hI:IsS89 w0 w g s0_0 s0_1 s0_2 s0_3 s0_4) (hB:Below w0.heap.size w0 w) (h:impl_parser_term.f k s0_0 s0_1 s0_2 s0_3 s0_4 = some (r1,r2,r3,r4,r5)),
  Calls Try.prog 99 #[.pointer (some ⟨g,0,none⟩)] w fun e w'=>∃ v0_:Value,e = .returned (v0_) ∧ Kd.R (Kd.int .i64) 3 w' w.heap.size (fun _=>True) v0_ r1 ∧ IsS89 w0 w' g s0_0 r2 r3 r4 r5 ∧ Below w0.heap.size w0 w' ∧ KeepBut w w' g none:=by
 induction k using Nat.strongRecOn with
 | _ k ih =>
 intro g s0_0 s0_1 s0_2 s0_3 s0_4 r1 r2 r3 r4 r5 w0 w hI hB h
 cases k with
 | zero=>exact absurd h (by simp [impl_parser_term.f])
 | succ k =>
 simp only [impl_parser_term.f] at h
 have HI0:=Aside0.mk hI
 have HK:=Aside0.mk (KeepBut.refl w g none)
 have HL:=Aside0.mk hB.size
 clear hI
 have HW0:=Aside0.mk hB.size
 have HB:=Aside0.mk hB
 clear hB
 have H:((impl_parser_next.f s0_0 s0_1 s0_2 s0_3 s0_4).bind fun bt204=>(if bt204.1 ≥ 65 then (impl_parser_term.j0 k bt204.1 (decide (((bt204.1 - 65) % 256) < bt204.2.2.2.1)) s0_0 bt204.2.1 bt204.2.2.1 bt204.2.2.2.1 bt204.2.2.2.2) else (impl_parser_term.j0 k bt204.1 false s0_0 bt204.2.1 bt204.2.2.1 bt204.2.2.2.1 bt204.2.2.2.2))) = some (r1,r2,r3,r4,r5):=h
 clear h
 replace H:=Option.bind_eq_some_iff.mp H
 obtain ⟨⟨t204,t205,t206,t207,t208⟩,A20,H⟩:=H
 replace H:(if t204 ≥ 65 then (impl_parser_term.j0 k t204 (decide (((t204 - 65) % 256) < t207)) s0_0 t205 t206 t207 t208) else (impl_parser_term.j0 k t204 false s0_0 t205 t206 t207 t208)) = some (r1,r2,r3,r4,r5):=H
 have A2:=Aside0.mk A20
 clear A20
 have HC3:=Aside0.mk H
 clear H
 go_enter Try.func99,Try.ntmps99
 go_upto_region 2 with (first|((with_reducible refine gate_callee (f:=98) rfl ?_);refine goesL_ (some 8) rfl rfl Try.func98 (by kernel_rfl) rfl #[.pointer (some ⟨g,0,none⟩)] rfl Ya ?_;(with_reducible refine (impl_parser_next.calls g s0_0 s0_1 s0_2 s0_3 s0_4 t204 t205 t206 t207 t208 w0 _ ?side1 ?side2 A2.out).mono ?_);(case side1=>repeat (first|(with_reducible first|exact HI0.out|apply IsS89.alloc|apply IsS89.drewN|apply IsS89.drew|apply IsS89.set_1|apply IsS89.set_2|apply IsS89.set_3|apply IsS89.set_4)|exact HI0.out));(case side2=>repeat (first|(with_reducible first|exact HB.out|apply below_alloc|apply pw_below_drewN|apply below_drew1|refine below_set ?_ (IsS89.ge HI0.out))|exact HB.out));rintro e w4 ⟨rfl,hi,hb,hk⟩;refine ⟨_,rfl,?_⟩;replace HK:=Aside0.mk (KeepBut.trans Yb hk (.inl rfl));replace HB:=Aside0.mk (hb);replace HI0:=Aside0.mk (hi);(try clear hb);(try clear hb2);(try clear hk);(try clear hi)))
 (try simp only [Act.put,List.setIfInBounds_toArray,List.set_cons_zero,List.set_cons_succ])
 go_cut [9] (fun v9 wc=>∃ (kq:Nat) (x9_2:Bool),v9 = .bool x9_2 ∧ Aside0 (impl_parser_term.j0 kq t204 x9_2 s0_0 t205 t206 t207 t208 = some (r1,r2,r3,r4,r5)) ∧ Aside0 (kq ≤ k) ∧ Aside0 (IsS89 w0 wc g s0_0 t205 t206 t207 t208) ∧ Aside0 (KeepBut w wc g none) ∧ Aside0 (Below w0.heap.size w0 wc))
 case first =>
  have H:=HC3.out
  clear HC3
  by_cases c5:t204 ≥ 65
  ·rw [if_pos c5] at H
   have c5b0:decide (65 ≤ t204) = true:=decide_eq_true c5
   clear c5
   (first|rw [c5b0]|(simp only [i64_w,i32_w];rw [c5b0])|skip)
   have H':=Aside0.mk H
   clear H
   obtain ⟨ASz6_0,cSz6_0,HGz6,hgz6,HSz6_0⟩:=HI0.out
   have hcz6_0:=cellS89_0 HGz6
   have hcz6_1:=cellS89_1 HGz6
   have hcz6_2:=cellS89_2 HGz6
   have hcz6_3:=cellS89_3 HGz6
   have hcz6_4:=cellS89_4 HGz6
   have hfz6_1:=blk_frozen HGz6 1
   have hfz6_2:=blk_frozen HGz6 2
   have hfz6_3:=blk_frozen HGz6 3
   have hfz6_4:=blk_frozen HGz6 4
   clear HGz6 hgz6
   go_wp2
   go_meet
   case rel=>exact ⟨_,(decide (((t204 - 65) % 256) < t207)),Yd,H',⟨by first|omega|exact Nat.le_refl _⟩,⟨by repeat (first|(with_reducible first|exact HI0.out|apply IsS89.alloc|apply IsS89.drewN|apply IsS89.drew|apply IsS89.set_1|apply IsS89.set_2|apply IsS89.set_3|apply IsS89.set_4)|exact HI0.out)⟩,⟨by repeat (first|(with_reducible first|exact HK.out|apply KeepBut.set_|apply keep_drewN|apply keep_drew|apply keep_alloc)|exact HK.out)⟩,⟨by repeat (first|(with_reducible first|exact HB.out|apply below_alloc|apply pw_below_drewN|apply below_drew1|refine below_set ?_ (IsS89.ge HI0.out))|exact HB.out)⟩⟩
  ·rw [if_neg c5] at H
   have c5b0:decide (65 ≤ t204) = false:=decide_eq_false c5
   clear c5
   (first|rw [c5b0]|(simp only [i64_w,i32_w];rw [c5b0])|skip)
   have H':=Aside0.mk H
   clear H
   go_wp2
   go_meet
   case rel=>exact ⟨_,(false),Yd,H',⟨by first|omega|exact Nat.le_refl _⟩,⟨by repeat (first|(with_reducible first|exact HI0.out|apply IsS89.alloc|apply IsS89.drewN|apply IsS89.drew|apply IsS89.set_1|apply IsS89.set_2|apply IsS89.set_3|apply IsS89.set_4)|exact HI0.out)⟩,⟨by repeat (first|(with_reducible first|exact HK.out|apply KeepBut.set_|apply keep_drewN|apply keep_drew|apply keep_alloc)|exact HK.out)⟩,⟨by repeat (first|(with_reducible first|exact HB.out|apply below_alloc|apply pw_below_drewN|apply below_drew1|refine below_set ?_ (IsS89.ge HI0.out))|exact HB.out)⟩⟩
 case rest =>
  clear HC3
  try clear p2
  try clear c5
  try clear c5b0
  try clear hcz6_0
  try clear hcz6_1
  try clear hcz6_2
  try clear hcz6_3
  try clear hcz6_4
  try clear hfz6_1
  try clear hfz6_2
  try clear hfz6_3
  try clear hfz6_4
  obtain ⟨kq,x9_2,rfl,HA,HJ2,HI0,HK,HB⟩:=hcut
  cases kq with
  | zero=>exact absurd HA.out (by simp [impl_parser_term.j0])
  | succ kj2 =>
   have H:=HA.out
   clear HA
   simp only [impl_parser_term.j0] at H
   by_cases c7:x9_2 = true
   ·subst c7
    have H1:(some ((([(-1) - ((t204 - 65) % 256)]:List Int)),t205,wrap64 (t206 + 1),t207,t208)) = some (r1,r2,r3,r4,r5):=by rw [if_pos rfl] at H;exact H
    clear H
    have H:=H1
    clear H1
    obtain ⟨y209,hy209⟩:∃ y_:List Int,y_ = (([(-1) - ((t204 - 65) % 256)]:List Int)):=⟨_,rfl⟩
    replace H:(some (y209,t205,wrap64 (t206 + 1),t207,t208)) = some (r1,r2,r3,r4,r5):=by first|(rw [hy209];with_reducible exact H)|(have H2_:=(Option.bind_some _ _).symm.trans H;rw [hy209];with_reducible exact H2_)|(have H2_:=(Option.bind_some _ _).symm.trans H;with_reducible exact H2_)|with_reducible exact H|(rw [hy209];exact H)|exact H
    have Ny209:=Aside0.mk hy209
    clear hy209
    simp only [Option.some.injEq,Prod.mk.injEq] at H
    obtain ⟨rfl,rfl,rfl,rfl,rfl⟩:=H
    obtain ⟨ASz8_0,cSz8_0,HGz8,hgz8,HSz8_0⟩:=HI0.out
    have hcz8_0:=cellS89_0 HGz8
    have hcz8_1:=cellS89_1 HGz8
    have hcz8_2:=cellS89_2 HGz8
    have hcz8_3:=cellS89_3 HGz8
    have hcz8_4:=cellS89_4 HGz8
    have hfz8_1:=blk_frozen HGz8 1
    have hfz8_2:=blk_frozen HGz8 2
    have hfz8_3:=blk_frozen HGz8 3
    have hfz8_4:=blk_frozen HGz8 4
    clear HGz8 hgz8
    go_wp2_with (first|((with_reducible refine gate_dst (N:=33) rfl ?_);(try (refine gate_guard (by rfl) ?_;dsimp only));refine Kd.R_lit (Kd.int .i64) _ 3 ?hg (N:=33) ?hd (xs:=([(-1) - ((t204 - 65) % 256)]:List Int)) (inner:=[.int .i64 ((-1) - ((t204 - 65) % 256))]) (ok:=fun _=>True) (okp:=fun _=>True) ?hr ?hp (fun _ hk=>hk) trivial (Below.refl _ _) (Nat.le_refl _) (by simp) ?_;(case hd=>rfl);(case hg=>rfl);(case hr=>first|(go_simp;done)|(go_simp;rfl));(case hp=>exact (Reps.one (show Kd.M (Kd.int .i64) _ _ _ ((-1) - ((t204 - 65) % 256)) [.int .i64 ((-1) - ((t204 - 65) % 256))] from rfl) (Reps.none _ _)));intro v210 w9 ho10 hb hg_ hnew_;clear hg_ hnew_;(first|rw [← Ny209.out] at ho10|(simp only [Int.reduceToNat] at ho10;rw [← Ny209.out] at ho10));have HO211:=Aside0.mk (Kd.R_lower ho10 (keep_size (w:=w) (g:=g) (row:=none) Yb));replace HK:=Aside0.mk (KeepBut.trans Yb (KeepBut.of_below hb g none) (.inl rfl));replace HB:=Aside0.mk (below_step Yf hb);replace HI0:=Aside0.mk (IsS89.below (show IsS89 w0 (wc.setCell ⟨g,2,none⟩ (.int .i64 (wrap64 (t206 + 1)))) g s0_0 t205 (wrap64 (t206 + 1)) t207 t208 from by repeat (first|(with_reducible first|exact HI0.out|apply IsS89.alloc|apply IsS89.drewN|apply IsS89.drew|apply IsS89.set_1|apply IsS89.set_2|apply IsS89.set_3|apply IsS89.set_4)|exact HI0.out)) hb);clear hb ho10))
    go_ret
    exact ⟨_,by first|rfl|(simp [errW_none,errW_some] <;> rfl)|(simp [*,errW_none,errW_some] <;> rfl),rR HO211,by repeat (first|(with_reducible first|exact HI0.out|apply IsS89.alloc|apply IsS89.drewN|apply IsS89.drew|apply IsS89.set_1|apply IsS89.set_2|apply IsS89.set_3|apply IsS89.set_4)|exact HI0.out),by repeat (first|(with_reducible first|exact HB.out|apply below_alloc|apply pw_below_drewN|apply below_drew1|refine below_set ?_ (IsS89.ge HI0.out))|exact HB.out),by repeat (first|(with_reducible first|exact HK.out|apply KeepBut.set_|apply keep_drewN|apply keep_drew|apply keep_alloc)|exact HK.out)⟩
   ·replace c7:=Bool.eq_false_iff.mpr c7
    subst c7
    have H1:(if t204 < 97 then (some (([]:List Int),t205,t206,t207,true)) else (if ((t204 - 97) % 256) ≥ (s0_0.length:Int) then (some (([]:List Int),t205,t206,t207,true)) else (if 0 ≤ ((t204 - 97) % 256) then (if ((t204 - 97) % 256) < (s0_0.length:Int) then (impl_parser_term.l0 kj2 ((t204 - 97) % 256) (([(t204 - 97) % 256]:List Int)) (rd s0_0 ((t204 - 97) % 256)) 0 s0_0 t205 (wrap64 (t206 + 1)) t207 t208) else (none)) else (none)))) = some (r1,r2,r3,r4,r5):=by rw [if_neg (show ¬ (false = true) by decide)] at H;exact H
    clear H
    have H:=H1
    clear H1
    by_cases c11:t204 < 97
    ·rw [if_pos c11] at H
     have c11b0:=decide_eq_true c11
     clear c11
     simp only [Option.some.injEq,Prod.mk.injEq] at H
     obtain ⟨rfl,rfl,rfl,rfl,rfl⟩:=H
     obtain ⟨ASz12_0,cSz12_0,HGz12,hgz12,HSz12_0⟩:=HI0.out
     have hcz12_0:=cellS89_0 HGz12
     have hcz12_1:=cellS89_1 HGz12
     have hcz12_2:=cellS89_2 HGz12
     have hcz12_3:=cellS89_3 HGz12
     have hcz12_4:=cellS89_4 HGz12
     have hfz12_1:=blk_frozen HGz12 1
     have hfz12_2:=blk_frozen HGz12 2
     have hfz12_3:=blk_frozen HGz12 3
     have hfz12_4:=blk_frozen HGz12 4
     clear HGz12 hgz12
     go_wp2
     go_ret
     exact ⟨_,by first|rfl|(simp [errW_none,errW_some] <;> rfl)|(simp [*,errW_none,errW_some] <;> rfl),by first|exact Kd.R_nil _ _ _ _ _|exact Kd.N_nil _ _ _ _ _|exact Kd.V_nil _ _ _ _ _|exact Kd.Q_nil _ _ _ _ _|exact Kd.S_nil _ _ _ _ _,by repeat (first|(with_reducible first|exact HI0.out|apply IsS89.alloc|apply IsS89.drewN|apply IsS89.drew|apply IsS89.set_1|apply IsS89.set_2|apply IsS89.set_3|apply IsS89.set_4)|exact HI0.out),by repeat (first|(with_reducible first|exact HB.out|apply below_alloc|apply pw_below_drewN|apply below_drew1|refine below_set ?_ (IsS89.ge HI0.out))|exact HB.out),by repeat (first|(with_reducible first|exact HK.out|apply KeepBut.set_|apply keep_drewN|apply keep_drew|apply keep_alloc)|exact HK.out)⟩
    ·rw [if_neg c11] at H
     have c11b0:decide (t204 < 97) = false:=decide_eq_false c11
     clear c11
     by_cases c13:((t204 - 97) % 256) ≥ (s0_0.length:Int)
     ·rw [if_pos c13] at H
      have c13b0:decide ((s0_0.length:Int) ≤ ((t204 - 97) % 256)) = true:=decide_eq_true c13
      clear c13
      simp only [Option.some.injEq,Prod.mk.injEq] at H
      obtain ⟨rfl,rfl,rfl,rfl,rfl⟩:=H
      obtain ⟨ASz14_0,cSz14_0,HGz14,hgz14,HSz14_0⟩:=HI0.out
      have hcz14_0:=cellS89_0 HGz14
      have hcz14_1:=cellS89_1 HGz14
      have hcz14_2:=cellS89_2 HGz14
      have hcz14_3:=cellS89_3 HGz14
      have hcz14_4:=cellS89_4 HGz14
      have hfz14_1:=blk_frozen HGz14 1
      have hfz14_2:=blk_frozen HGz14 2
      have hfz14_3:=blk_frozen HGz14 3
      have hfz14_4:=blk_frozen HGz14 4
      clear HGz14 hgz14
      go_wp2
      go_ret
      exact ⟨_,by first|rfl|(simp [errW_none,errW_some] <;> rfl)|(simp [*,errW_none,errW_some] <;> rfl),by first|exact Kd.R_nil _ _ _ _ _|exact Kd.N_nil _ _ _ _ _|exact Kd.V_nil _ _ _ _ _|exact Kd.Q_nil _ _ _ _ _|exact Kd.S_nil _ _ _ _ _,by repeat (first|(with_reducible first|exact HI0.out|apply IsS89.alloc|apply IsS89.drewN|apply IsS89.drew|apply IsS89.set_1|apply IsS89.set_2|apply IsS89.set_3|apply IsS89.set_4)|exact HI0.out),by repeat (first|(with_reducible first|exact HB.out|apply below_alloc|apply pw_below_drewN|apply below_drew1|refine below_set ?_ (IsS89.ge HI0.out))|exact HB.out),by repeat (first|(with_reducible first|exact HK.out|apply KeepBut.set_|apply keep_drewN|apply keep_drew|apply keep_alloc)|exact HK.out)⟩
     ·rw [if_neg c13] at H
      have c13b0:decide ((s0_0.length:Int) ≤ ((t204 - 97) % 256)) = false:=decide_eq_false c13
      clear c13
      obtain ⟨y212,hy212⟩:∃ y_:List Int,y_ = (([(t204 - 97) % 256]:List Int)):=⟨_,rfl⟩
      replace H:(if 0 ≤ ((t204 - 97) % 256) then (if ((t204 - 97) % 256) < (s0_0.length:Int) then (impl_parser_term.l0 kj2 ((t204 - 97) % 256) y212 (rd s0_0 ((t204 - 97) % 256)) 0 s0_0 t205 (wrap64 (t206 + 1)) t207 t208) else (none)) else (none)) = some (r1,r2,r3,r4,r5):=by first|(rw [hy212];with_reducible exact H)|(have H2_:=(Option.bind_some _ _).symm.trans H;rw [hy212];with_reducible exact H2_)|(have H2_:=(Option.bind_some _ _).symm.trans H;with_reducible exact H2_)|with_reducible exact H|(rw [hy212];exact H)|exact H
      have Ny212:=Aside0.mk hy212
      clear hy212
      obtain ⟨ji15,hji15⟩:∃ j_:Int,((t204 - 97) % 256) = j_:=⟨_,rfl⟩
      replace H:(if 0 ≤ (ji15) then (if (ji15) < (s0_0.length:Int) then (impl_parser_term.l0 kj2 ji15 y212 (rd s0_0 (ji15)) 0 s0_0 t205 (wrap64 (t206 + 1)) t207 t208) else (none)) else (none)) = some (r1,r2,r3,r4,r5):=by first|(rw [hji15] at H;exact H)|(simp only [hji15] at H ⊢;exact H)
      (try rw [hji15] at c13b0)
      (try rw [hji15] at Ny212)
      by_cases c16:0 ≤ (ji15)
      ·rw [if_pos c16] at H
       have c16b0:=decide_eq_true c16
       clear c16
       by_cases c17:(ji15) < (s0_0.length:Int)
       ·rw [if_pos c17] at H
        have c17b0:=decide_eq_true c17
        clear c17
        have H':=Aside0.mk H
        clear H
        obtain ⟨ASz18_0,cSz18_0,HGz18,hgz18,HSz18_0⟩:=HI0.out
        have hcz18_0:=cellS89_0 HGz18
        have hcz18_1:=cellS89_1 HGz18
        have hcz18_2:=cellS89_2 HGz18
        have hcz18_3:=cellS89_3 HGz18
        have hcz18_4:=cellS89_4 HGz18
        have hfz18_1:=blk_frozen HGz18 1
        have hfz18_2:=blk_frozen HGz18 2
        have hfz18_3:=blk_frozen HGz18 3
        have hfz18_4:=blk_frozen HGz18 4
        clear HGz18 hgz18
        go_wp2_with (first|((with_reducible refine gate_dst (N:=63) rfl ?_);(try (refine gate_guard (by rfl) ?_;dsimp only));refine Kd.R_lit (Kd.int .i64) _ 3 ?hg (N:=63) ?hd (xs:=([ji15]:List Int)) (inner:=[.int .i64 ji15]) (ok:=fun _=>True) (okp:=fun _=>True) ?hr ?hp (fun _ hk=>hk) trivial (Below.refl _ _) (Nat.le_refl _) (by simp) ?_;(case hd=>rfl);(case hg=>rfl);(case hr=>first|(go_simp;done)|(go_simp;rfl));(case hp=>exact (Reps.one (show Kd.M (Kd.int .i64) _ _ _ ji15 [.int .i64 ji15] from rfl) (Reps.none _ _)));intro v213 w19 ho20 hb hg_ hnew_;clear hg_ hnew_;(first|rw [← Ny212.out] at ho20|(simp only [Int.reduceToNat] at ho20;rw [← Ny212.out] at ho20));have HO214:=Aside0.mk (Kd.R_lower ho20 (keep_size (w:=w) (g:=g) (row:=none) Yb));replace HK:=Aside0.mk (KeepBut.trans Yb (KeepBut.of_below hb g none) (.inl rfl));replace HB:=Aside0.mk (below_step Yf hb);replace HI0:=Aside0.mk (IsS89.below (show IsS89 w0 (wc.setCell ⟨g,2,none⟩ (.int .i64 (wrap64 (t206 + 1)))) g s0_0 t205 (wrap64 (t206 + 1)) t207 t208 from by repeat (first|(with_reducible first|exact HI0.out|apply IsS89.alloc|apply IsS89.drewN|apply IsS89.drew|apply IsS89.set_1|apply IsS89.set_2|apply IsS89.set_3|apply IsS89.set_4)|exact HI0.out)) hb);clear hb ho20;obtain ⟨ASz21_0,cSz21_0,HGz21,hgz21,HSz21_0⟩:=HI0.out;have hcz21_0:=cellS89_0 HGz21;have hcz21_1:=cellS89_1 HGz21;have hcz21_2:=cellS89_2 HGz21;have hcz21_3:=cellS89_3 HGz21;have hcz21_4:=cellS89_4 HGz21;have hfz21_1:=blk_frozen HGz21 1;have hfz21_2:=blk_frozen HGz21 2;have hfz21_3:=blk_frozen HGz21 3;have hfz21_4:=blk_frozen HGz21 4;clear HGz21 hgz21;have p215:0 ≤ ((ji15):Int):=oD;have q215:(ji15) < (s0_0.length:Int):=oD;obtain ⟨ad215,e215,hx215_0⟩:=Kd.at_int HSz21_0 (ji15) p215 q215;cases e215;replace hx215_0:=pw_cell_below HB.out hx215_0;replace p215:=eq_true p215;replace q215:=eq_true q215))
        go_loopg [5,72] kj2 (fun kq v5 v72 w'=>∃ (x5_2:List Int) (x72_2:Int) (x1001_2:ByteArray) (x1002_2:Int) (x1003_2:Int) (x1004_2:Bool),v72 = .int .i64 x72_2 ∧ Aside0 (impl_parser_term.l0 kq ji15 x5_2 (rd s0_0 (ji15)) x72_2 s0_0 x1001_2 x1002_2 x1003_2 x1004_2 = some (r1,r2,r3,r4,r5)) ∧ Aside0 (kq ≤ kj2) ∧ Aside0 (Kd.R (Kd.int .i64) 3 w' w.heap.size (fun _=>True) v5 x5_2) ∧ Aside0 (IsS89 w0 w' g s0_0 x1001_2 x1002_2 x1003_2 x1004_2) ∧ Aside0 (KeepBut w w' g none) ∧ Aside0 (Below w0.heap.size w0 w'))
        case atStart=>exact ⟨(y212),(0),(t205),(wrap64 (t206 + 1)),(t207),(t208),Yd,H',⟨Nat.le_refl _⟩,⟨rR HO214⟩,⟨by repeat (first|(with_reducible first|exact HI0.out|apply IsS89.alloc|apply IsS89.drewN|apply IsS89.drew|apply IsS89.set_1|apply IsS89.set_2|apply IsS89.set_3|apply IsS89.set_4)|exact HI0.out)⟩,⟨by repeat (first|(with_reducible first|exact HK.out|apply KeepBut.set_|apply keep_drewN|apply keep_drew|apply keep_alloc)|exact HK.out)⟩,⟨by repeat (first|(with_reducible first|exact HB.out|apply below_alloc|apply pw_below_drewN|apply below_drew1|refine below_set ?_ (IsS89.ge HI0.out))|exact HB.out)⟩⟩
        case round =>
         clear H'
         try clear c1
         try clear p2
         try clear q2
         try clear hx2
         try clear c5
         try clear c5b0
         try clear p6
         try clear c7
         try clear c9
         try clear c11
         try clear c11b0
         try clear c13
         try clear c13b0
         try clear c16
         try clear c16b0
         try clear c17
         try clear c17b0
         try clear p21
         try clear q21
         try clear hx21
         try clear hcz12_0
         try clear hcz12_1
         try clear hcz12_2
         try clear hcz12_3
         try clear hcz12_4
         try clear hcz14_0
         try clear hcz14_1
         try clear hcz14_2
         try clear hcz14_3
         try clear hcz14_4
         try clear hcz18_0
         try clear hcz18_1
         try clear hcz18_2
         try clear hcz18_3
         try clear hcz18_4
         try clear hcz21_0
         try clear hcz21_1
         try clear hcz21_2
         try clear hcz21_3
         try clear hcz21_4
         try clear hcz6_0
         try clear hcz6_1
         try clear hcz6_2
         try clear hcz6_3
         try clear hcz6_4
         try clear hcz8_0
         try clear hcz8_1
         try clear hcz8_2
         try clear hcz8_3
         try clear hcz8_4
         try clear hfz12_1
         try clear hfz12_2
         try clear hfz12_3
         try clear hfz12_4
         try clear hfz14_1
         try clear hfz14_2
         try clear hfz14_3
         try clear hfz14_4
         try clear hfz18_1
         try clear hfz18_2
         try clear hfz18_3
         try clear hfz18_4
         try clear hfz21_1
         try clear hfz21_2
         try clear hfz21_3
         try clear hfz21_4
         try clear hfz6_1
         try clear hfz6_2
         try clear hfz6_3
         try clear hfz6_4
         try clear hfz8_1
         try clear hfz8_2
         try clear hfz8_3
         try clear hfz8_4
         try clear hx215_0
         try clear p2
         try clear p215
         try clear q215
         obtain ⟨x5_2,x72_2,x1001_2,x1002_2,x1003_2,x1004_2,rfl,HA,HK2,HO_5,HI0,HK,HB⟩:=hrel
         cases gk with
         | zero=>exact absurd HA.out (by simp [impl_parser_term.l0])
         | succ k2 =>
          have H:=HA.out
          clear HA
          simp only [impl_parser_term.l0] at H
          by_cases c22:x72_2 < (rd s0_0 (ji15))
          ·rw [if_pos c22] at H
           have c22b0:=decide_eq_true c22
           clear c22
           by_cases c23:x72_2 = 0
           ·rw [if_pos c23] at H
            have c23b0:(x72_2 == 0) = true:=beq_iff_eq.mpr c23
            have c23b1:(x72_2 != 0) = false:=bne_eq_false_iff_eq.mpr c23
            clear c23
            replace H:=Option.bind_eq_some_iff.mp H
            obtain ⟨⟨t222,t223,t224,t225,t226⟩,A240,H⟩:=H
            replace H:(if t226 = true then (some (([]:List Int),t223,t224,t225,t226)) else ((impl_parser_term.f k2 s0_0 t223 t224 t225 t226).bind fun bt227=>(if x5_2.length + bt227.1.length < 17592186044416 then (impl_parser_term.l0 k2 ji15 (x5_2 ++ bt227.1) (rd s0_0 (ji15)) (wrap64 (x72_2 + 1)) s0_0 bt227.2.1 bt227.2.2.1 bt227.2.2.2.1 bt227.2.2.2.2) else (none)))) = some (r1,r2,r3,r4,r5):=H
            have A24:=Aside0.mk A240
            clear A240
            by_cases c25:t226 = true
            ·subst c25
             have H1:(some (([]:List Int),t223,t224,t225,true)) = some (r1,r2,r3,r4,r5):=by rw [if_pos rfl] at H;exact H
             clear H
             have H:=H1
             clear H1
             simp only [Option.some.injEq,Prod.mk.injEq] at H
             obtain ⟨rfl,rfl,rfl,rfl,rfl⟩:=H
             go_wp2_with (first|((with_reducible refine gate_callee (f:=100) rfl ?_);refine goesL_ (some 78) rfl rfl Try.func100 (by kernel_rfl) rfl #[.pointer (some ⟨g,0,none⟩),.string (⟨#[40]⟩:ByteArray)] rfl Ya ?_;(with_reducible refine (impl_parser_take.calls k2 g s0_0 x1001_2 x1002_2 x1003_2 x1004_2 (⟨#[40]⟩:ByteArray) t222 t223 t224 t225 true w0 _ ?side1 ?side2 A24.out).mono ?_);(case side1=>repeat (first|(with_reducible first|exact HI0.out|apply IsS89.alloc|apply IsS89.drewN|apply IsS89.drew|apply IsS89.set_1|apply IsS89.set_2|apply IsS89.set_3|apply IsS89.set_4)|exact HI0.out));(case side2=>repeat (first|(with_reducible first|exact HB.out|apply below_alloc|apply pw_below_drewN|apply below_drew1|refine below_set ?_ (IsS89.ge HI0.out))|exact HB.out));rintro e w26 ⟨rfl,hi,hb,hk⟩;refine ⟨_,rfl,?_⟩;replace HO_5:=Aside0.mk (Kd.R_mono (Kd.R_keep (IsS89.apart (show IsS89 w0 _ g s0_0 x1001_2 x1002_2 x1003_2 x1004_2 from by repeat (first|(with_reducible first|exact HI0.out|apply IsS89.alloc|apply IsS89.drewN|apply IsS89.drew|apply IsS89.set_1|apply IsS89.set_2|apply IsS89.set_3|apply IsS89.set_4)|exact HI0.out)) (rR HO_5) (by decide)) hk (fun _ h=>h.2)) (fun _ h=>h.1));replace HK:=Aside0.mk (KeepBut.trans Yb hk (.inl rfl));replace HB:=Aside0.mk (hb);replace HI0:=Aside0.mk (hi);(try clear hb);(try clear hb2);(try clear hk);(try clear hi);obtain ⟨ASz27_0,cSz27_0,HGz27,hgz27,HSz27_0⟩:=HI0.out;have hcz27_0:=cellS89_0 HGz27;have hcz27_1:=cellS89_1 HGz27;have hcz27_2:=cellS89_2 HGz27;have hcz27_3:=cellS89_3 HGz27;have hcz27_4:=cellS89_4 HGz27;have hfz27_1:=blk_frozen HGz27 1;have hfz27_2:=blk_frozen HGz27 2;have hfz27_3:=blk_frozen HGz27 3;have hfz27_4:=blk_frozen HGz27 4;clear HGz27 hgz27))
             go_ret
             exact ⟨_,by first|rfl|(simp [errW_none,errW_some] <;> rfl)|(simp only [← hji15];first|rfl|(simp [errW_none,errW_some] <;> rfl))|(simp [*,errW_none,errW_some] <;> rfl),by first|exact Kd.R_nil _ _ _ _ _|exact Kd.N_nil _ _ _ _ _|exact Kd.V_nil _ _ _ _ _|exact Kd.Q_nil _ _ _ _ _|exact Kd.S_nil _ _ _ _ _,by repeat (first|(with_reducible first|exact HI0.out|apply IsS89.alloc|apply IsS89.drewN|apply IsS89.drew|apply IsS89.set_1|apply IsS89.set_2|apply IsS89.set_3|apply IsS89.set_4)|exact HI0.out),by repeat (first|(with_reducible first|exact HB.out|apply below_alloc|apply pw_below_drewN|apply below_drew1|refine below_set ?_ (IsS89.ge HI0.out))|exact HB.out),by repeat (first|(with_reducible first|exact HK.out|apply KeepBut.set_|apply keep_drewN|apply keep_drew|apply keep_alloc)|exact HK.out)⟩
            ·replace c25:=Bool.eq_false_iff.mpr c25
             subst c25
             have H1:((impl_parser_term.f k2 s0_0 t223 t224 t225 false).bind fun bt227=>(if x5_2.length + bt227.1.length < 17592186044416 then (impl_parser_term.l0 k2 ji15 (x5_2 ++ bt227.1) (rd s0_0 (ji15)) (wrap64 (x72_2 + 1)) s0_0 bt227.2.1 bt227.2.2.1 bt227.2.2.2.1 bt227.2.2.2.2) else (none))) = some (r1,r2,r3,r4,r5):=by rw [if_neg (show ¬ (false = true) by decide)] at H;exact H
             clear H
             have H:=H1
             clear H1
             replace H:=Option.bind_eq_some_iff.mp H
             obtain ⟨⟨t227,t230,t231,t232,t233⟩,A280,H⟩:=H
             replace H:(if x5_2.length + t227.length < 17592186044416 then (impl_parser_term.l0 k2 ji15 (x5_2 ++ t227) (rd s0_0 (ji15)) (wrap64 (x72_2 + 1)) s0_0 t230 t231 t232 t233) else (none)) = some (r1,r2,r3,r4,r5):=H
             have A28:=Aside0.mk A280
             clear A280
             by_cases c29:x5_2.length + t227.length < 17592186044416
             ·rw [if_pos c29] at H
              have LMc29:=Aside0.mk c29
              clear c29
              obtain ⟨y234,hy234⟩:∃ y_:List Int,y_ = (x5_2 ++ t227):=⟨_,rfl⟩
              replace H:(impl_parser_term.l0 k2 ji15 y234 (rd s0_0 (ji15)) (wrap64 (x72_2 + 1)) s0_0 t230 t231 t232 t233) = some (r1,r2,r3,r4,r5):=by first|(rw [hy234];with_reducible exact H)|(have H2_:=(Option.bind_some _ _).symm.trans H;rw [hy234];with_reducible exact H2_)|(have H2_:=(Option.bind_some _ _).symm.trans H;with_reducible exact H2_)|with_reducible exact H|(rw [hy234];exact H)|exact H
              have Ny234:=Aside0.mk hy234
              clear hy234
              have H':=Aside0.mk H
              clear H
              go_wp2_with (first|((with_reducible refine gate_callee (f:=100) rfl ?_);refine goesL_ (some 78) rfl rfl Try.func100 (by kernel_rfl) rfl #[.pointer (some ⟨g,0,none⟩),.string (⟨#[40]⟩:ByteArray)] rfl Ya ?_;(with_reducible refine (impl_parser_take.calls k2 g s0_0 x1001_2 x1002_2 x1003_2 x1004_2 (⟨#[40]⟩:ByteArray) t222 t223 t224 t225 false w0 _ ?side1 ?side2 A24.out).mono ?_);(case side1=>repeat (first|(with_reducible first|exact HI0.out|apply IsS89.alloc|apply IsS89.drewN|apply IsS89.drew|apply IsS89.set_1|apply IsS89.set_2|apply IsS89.set_3|apply IsS89.set_4)|exact HI0.out));(case side2=>repeat (first|(with_reducible first|exact HB.out|apply below_alloc|apply pw_below_drewN|apply below_drew1|refine below_set ?_ (IsS89.ge HI0.out))|exact HB.out));rintro e w30 ⟨rfl,hi,hb,hk⟩;refine ⟨_,rfl,?_⟩;replace HO_5:=Aside0.mk (Kd.R_mono (Kd.R_keep (IsS89.apart (show IsS89 w0 _ g s0_0 x1001_2 x1002_2 x1003_2 x1004_2 from by repeat (first|(with_reducible first|exact HI0.out|apply IsS89.alloc|apply IsS89.drewN|apply IsS89.drew|apply IsS89.set_1|apply IsS89.set_2|apply IsS89.set_3|apply IsS89.set_4)|exact HI0.out)) (rR HO_5) (by decide)) hk (fun _ h=>h.2)) (fun _ h=>h.1));replace HK:=Aside0.mk (KeepBut.trans Yb hk (.inl rfl));replace HB:=Aside0.mk (hb);replace HI0:=Aside0.mk (hi);(try clear hb);(try clear hb2);(try clear hk);(try clear hi);obtain ⟨ASz31_0,cSz31_0,HGz31,hgz31,HSz31_0⟩:=HI0.out;have hcz31_0:=cellS89_0 HGz31;have hcz31_1:=cellS89_1 HGz31;have hcz31_2:=cellS89_2 HGz31;have hcz31_3:=cellS89_3 HGz31;have hcz31_4:=cellS89_4 HGz31;have hfz31_1:=blk_frozen HGz31 1;have hfz31_2:=blk_frozen HGz31 2;have hfz31_3:=blk_frozen HGz31 3;have hfz31_4:=blk_frozen HGz31 4;clear HGz31 hgz31)|((with_reducible refine gate_callee (f:=99) rfl ?_);refine goesL_ (some 87) rfl rfl Try.func99 (by kernel_rfl) rfl #[.pointer (some ⟨g,0,none⟩)] rfl Ya ?_;(with_reducible refine (ih k2 (by have:=HJ2.out;have:=HK2.out;omega) g s0_0 t223 t224 t225 false t227 t230 t231 t232 t233 w0 _ ?side1 ?side2 A28.out).mono ?_);(case side1=>repeat (first|(with_reducible first|exact HI0.out|apply IsS89.alloc|apply IsS89.drewN|apply IsS89.drew|apply IsS89.set_1|apply IsS89.set_2|apply IsS89.set_3|apply IsS89.set_4)|exact HI0.out));(case side2=>repeat (first|(with_reducible first|exact HB.out|apply below_alloc|apply pw_below_drewN|apply below_drew1|refine below_set ?_ (IsS89.ge HI0.out))|exact HB.out));rintro e w32 ⟨v228,rfl,ho0,hi,hb,hk⟩;refine ⟨_,rfl,?_⟩;have HO229:=Aside0.mk (Kd.R_lower (Kd.R_new' ho0 (Kd.R_lt (rR HO_5))) (keep_size (w:=w) (g:=g) (row:=none) Yb));replace HO_5:=Aside0.mk (Kd.R_mono (Kd.R_told (Kd.R_oldK (IsS89.apart (show IsS89 w0 _ g s0_0 t223 t224 t225 false from by repeat (first|(with_reducible first|exact HI0.out|apply IsS89.alloc|apply IsS89.drewN|apply IsS89.drew|apply IsS89.set_1|apply IsS89.set_2|apply IsS89.set_3|apply IsS89.set_4)|exact HI0.out)) (rR HO_5) (by decide)) hk) (Kd.R_base ho0)) (fun _ h_=>h_.1));replace HK:=Aside0.mk (KeepBut.trans Yb hk (.inl rfl));replace HB:=Aside0.mk (hb);replace HI0:=Aside0.mk (hi);(try clear hb);(try clear hb2);(try clear hk);(try clear hi);(try clear ho0);obtain ⟨Ao34,co34,eo34⟩:=Kd.R_slice HO229.out;subst eo34)|((with_reducible refine gate_builtin (b:=.append) (xs:=#[.tmp 85,.tmp 87]) rfl ?_);(try (refine gate_guard (by rfl) ?_;dsimp only));at_builtin;refine Kd.R_append_rows (Kd.int .i64) w.heap.size rfl (.tmp 85) (.tmp 87) 22 3 (.int .i64 0) 8 rfl Try.underlying22 info3 rfl (by decide) (by first|decide|omega) u5 x5_2 t227 _ _ _ (fun k_=>some k_ ≠ (.slice Ao34 t227.length co34:Value).ownBlock) (fun _=>False) rfl rfl ?aO ?aR (fun _ _ h=>h) (fun _ h=>h.elim) ?aF (Below.refl _ _) ?aS ?aL ?_;(case aR=>repeat (first|exact (Kd.R_reads' HO229.out).2.2|(with_reducible refine Kd.C_alloc ?_ _)|(with_reducible refine Kd.C_drewN ?_ _)|(with_reducible refine Kd.C_drew ?_)));(case aF=>exact (fun k_ hk=>Kd.fresh' (Kd.R_lt (rR HO229)) k_ hk));(case aO=>exact (by (with_reducible repeat (first|apply Kd.R_alloc|apply Kd.R_drewN|apply Kd.R_drew));exact Kd.R_mono HO_5.out (fun _ hk=>hk.2)));(case aS=>exact (keep_size (w:=w) (g:=g) (row:=none) Yb));(case aL=>have:=LMc29.out;omega);intro v235 w33 ho hb hg hat;rw [← Ny234.out] at ho;have n0_:=Aside0.mk (IsS89.grown Yh hg (IsS89.own_ne HI0.out HO_5.out (by decide)));have n1_:=Aside0.mk (Kd.R_after (ok:=(fun _=>True)) (rR HO229) hg hat);have n2_:=Aside0.mk (below_weaken Yf HL.out hb);have n3_:=Aside0.mk (KeepBut.trans Yb (KeepBut.of_grown hg g) (Kd.R_base2 HO_5.out));have n4_:=Aside0.mk (ho);clear HI0;clear HO229;clear HB;clear HK;clear HO_5;have HI0:=n0_;have HO229:=n1_;have HB:=n2_;have HK:=n3_;have HO236:=n4_;clear n0_ n1_ n2_ n3_ n4_;clear ho hb hg hat))
              go_roundg k2
              case measure=>have:=HJ2.out;have:=HK2.out;omega
              case rel=>exact ⟨(y234),(wrap64 (x72_2 + 1)),(t230),(t231),(t232),(t233),Yd,H',⟨by have:=HJ2.out;have:=HK2.out;omega⟩,⟨by (with_reducible repeat (first|apply Kd.R_alloc|apply Kd.R_drewN|apply Kd.R_drew));exact Kd.R_mono HO236.out (fun _ hk=>trivial)⟩,⟨by repeat (first|(with_reducible first|exact HI0.out|apply IsS89.alloc|apply IsS89.drewN|apply IsS89.drew|apply IsS89.set_1|apply IsS89.set_2|apply IsS89.set_3|apply IsS89.set_4)|exact HI0.out)⟩,⟨by repeat (first|(with_reducible first|exact HK.out|apply KeepBut.set_|apply keep_drewN|apply keep_drew|apply keep_alloc)|exact HK.out)⟩,⟨by repeat (first|(with_reducible first|exact HB.out|apply below_alloc|apply pw_below_drewN|apply below_drew1|refine below_set ?_ (IsS89.ge HI0.out))|exact HB.out)⟩⟩
             ·rw [if_neg c29] at H
              exact absurd H (by simp)
           ·rw [if_neg c23] at H
            have c23b0:(x72_2 == 0) = false:=beq_eq_false_iff_ne.mpr c23
            have c23b1:(x72_2 != 0) = true:=bne_iff_ne.mpr c23
            replace H:=Option.bind_eq_some_iff.mp H
            obtain ⟨⟨t237,t238,t239,t240,t241⟩,A350,H⟩:=H
            replace H:(if t241 = true then (some (([]:List Int),t238,t239,t240,t241)) else ((impl_parser_term.f k2 s0_0 t238 t239 t240 t241).bind fun bt242=>(if x5_2.length + bt242.1.length < 17592186044416 then (impl_parser_term.l0 k2 ji15 (x5_2 ++ bt242.1) (rd s0_0 (ji15)) (wrap64 (x72_2 + 1)) s0_0 bt242.2.1 bt242.2.2.1 bt242.2.2.2.1 bt242.2.2.2.2) else (none)))) = some (r1,r2,r3,r4,r5):=H
            have A35:=Aside0.mk A350
            clear A350
            by_cases c36:t241 = true
            ·subst c36
             have H1:(some (([]:List Int),t238,t239,t240,true)) = some (r1,r2,r3,r4,r5):=by rw [if_pos rfl] at H;exact H
             clear H
             have H:=H1
             clear H1
             simp only [Option.some.injEq,Prod.mk.injEq] at H
             obtain ⟨rfl,rfl,rfl,rfl,rfl⟩:=H
             go_wp2_with (first|((with_reducible refine gate_callee (f:=100) rfl ?_);refine goesL_ (some 80) rfl rfl Try.func100 (by kernel_rfl) rfl #[.pointer (some ⟨g,0,none⟩),.string (⟨#[44]⟩:ByteArray)] rfl Ya ?_;(with_reducible refine (impl_parser_take.calls k2 g s0_0 x1001_2 x1002_2 x1003_2 x1004_2 (⟨#[44]⟩:ByteArray) t237 t238 t239 t240 true w0 _ ?side1 ?side2 A35.out).mono ?_);(case side1=>repeat (first|(with_reducible first|exact HI0.out|apply IsS89.alloc|apply IsS89.drewN|apply IsS89.drew|apply IsS89.set_1|apply IsS89.set_2|apply IsS89.set_3|apply IsS89.set_4)|exact HI0.out));(case side2=>repeat (first|(with_reducible first|exact HB.out|apply below_alloc|apply pw_below_drewN|apply below_drew1|refine below_set ?_ (IsS89.ge HI0.out))|exact HB.out));rintro e w37 ⟨rfl,hi,hb,hk⟩;refine ⟨_,rfl,?_⟩;replace HO_5:=Aside0.mk (Kd.R_mono (Kd.R_keep (IsS89.apart (show IsS89 w0 _ g s0_0 x1001_2 x1002_2 x1003_2 x1004_2 from by repeat (first|(with_reducible first|exact HI0.out|apply IsS89.alloc|apply IsS89.drewN|apply IsS89.drew|apply IsS89.set_1|apply IsS89.set_2|apply IsS89.set_3|apply IsS89.set_4)|exact HI0.out)) (rR HO_5) (by decide)) hk (fun _ h=>h.2)) (fun _ h=>h.1));replace HK:=Aside0.mk (KeepBut.trans Yb hk (.inl rfl));replace HB:=Aside0.mk (hb);replace HI0:=Aside0.mk (hi);(try clear hb);(try clear hb2);(try clear hk);(try clear hi);obtain ⟨ASz38_0,cSz38_0,HGz38,hgz38,HSz38_0⟩:=HI0.out;have hcz38_0:=cellS89_0 HGz38;have hcz38_1:=cellS89_1 HGz38;have hcz38_2:=cellS89_2 HGz38;have hcz38_3:=cellS89_3 HGz38;have hcz38_4:=cellS89_4 HGz38;have hfz38_1:=blk_frozen HGz38 1;have hfz38_2:=blk_frozen HGz38 2;have hfz38_3:=blk_frozen HGz38 3;have hfz38_4:=blk_frozen HGz38 4;clear HGz38 hgz38))
             go_ret
             exact ⟨_,by first|rfl|(simp [errW_none,errW_some] <;> rfl)|(simp only [← hji15];first|rfl|(simp [errW_none,errW_some] <;> rfl))|(simp [*,errW_none,errW_some] <;> rfl),by first|exact Kd.R_nil _ _ _ _ _|exact Kd.N_nil _ _ _ _ _|exact Kd.V_nil _ _ _ _ _|exact Kd.Q_nil _ _ _ _ _|exact Kd.S_nil _ _ _ _ _,by repeat (first|(with_reducible first|exact HI0.out|apply IsS89.alloc|apply IsS89.drewN|apply IsS89.drew|apply IsS89.set_1|apply IsS89.set_2|apply IsS89.set_3|apply IsS89.set_4)|exact HI0.out),by repeat (first|(with_reducible first|exact HB.out|apply below_alloc|apply pw_below_drewN|apply below_drew1|refine below_set ?_ (IsS89.ge HI0.out))|exact HB.out),by repeat (first|(with_reducible first|exact HK.out|apply KeepBut.set_|apply keep_drewN|apply keep_drew|apply keep_alloc)|exact HK.out)⟩
            ·replace c36:=Bool.eq_false_iff.mpr c36
             subst c36
             have H1:((impl_parser_term.f k2 s0_0 t238 t239 t240 false).bind fun bt242=>(if x5_2.length + bt242.1.length < 17592186044416 then (impl_parser_term.l0 k2 ji15 (x5_2 ++ bt242.1) (rd s0_0 (ji15)) (wrap64 (x72_2 + 1)) s0_0 bt242.2.1 bt242.2.2.1 bt242.2.2.2.1 bt242.2.2.2.2) else (none))) = some (r1,r2,r3,r4,r5):=by rw [if_neg (show ¬ (false = true) by decide)] at H;exact H
             clear H
             have H:=H1
             clear H1
             replace H:=Option.bind_eq_some_iff.mp H
             obtain ⟨⟨t242,t245,t246,t247,t248⟩,A390,H⟩:=H
             replace H:(if x5_2.length + t242.length < 17592186044416 then (impl_parser_term.l0 k2 ji15 (x5_2 ++ t242) (rd s0_0 (ji15)) (wrap64 (x72_2 + 1)) s0_0 t245 t246 t247 t248) else (none)) = some (r1,r2,r3,r4,r5):=H
             have A39:=Aside0.mk A390
             clear A390
             by_cases c40:x5_2.length + t242.length < 17592186044416
             ·rw [if_pos c40] at H
              have LMc40:=Aside0.mk c40
              clear c40
              obtain ⟨y249,hy249⟩:∃ y_:List Int,y_ = (x5_2 ++ t242):=⟨_,rfl⟩
              replace H:(impl_parser_term.l0 k2 ji15 y249 (rd s0_0 (ji15)) (wrap64 (x72_2 + 1)) s0_0 t245 t246 t247 t248) = some (r1,r2,r3,r4,r5):=by first|(rw [hy249];with_reducible exact H)|(have H2_:=(Option.bind_some _ _).symm.trans H;rw [hy249];with_reducible exact H2_)|(have H2_:=(Option.bind_some _ _).symm.trans H;with_reducible exact H2_)|with_reducible exact H|(rw [hy249];exact H)|exact H
              have Ny249:=Aside0.mk hy249
              clear hy249
              have H':=Aside0.mk H
              clear H
              go_wp2_with (first|((with_reducible refine gate_callee (f:=100) rfl ?_);refine goesL_ (some 80) rfl rfl Try.func100 (by kernel_rfl) rfl #[.pointer (some ⟨g,0,none⟩),.string (⟨#[44]⟩:ByteArray)] rfl Ya ?_;(with_reducible refine (impl_parser_take.calls k2 g s0_0 x1001_2 x1002_2 x1003_2 x1004_2 (⟨#[44]⟩:ByteArray) t237 t238 t239 t240 false w0 _ ?side1 ?side2 A35.out).mono ?_);(case side1=>repeat (first|(with_reducible first|exact HI0.out|apply IsS89.alloc|apply IsS89.drewN|apply IsS89.drew|apply IsS89.set_1|apply IsS89.set_2|apply IsS89.set_3|apply IsS89.set_4)|exact HI0.out));(case side2=>repeat (first|(with_reducible first|exact HB.out|apply below_alloc|apply pw_below_drewN|apply below_drew1|refine below_set ?_ (IsS89.ge HI0.out))|exact HB.out));rintro e w41 ⟨rfl,hi,hb,hk⟩;refine ⟨_,rfl,?_⟩;replace HO_5:=Aside0.mk (Kd.R_mono (Kd.R_keep (IsS89.apart (show IsS89 w0 _ g s0_0 x1001_2 x1002_2 x1003_2 x1004_2 from by repeat (first|(with_reducible first|exact HI0.out|apply IsS89.alloc|apply IsS89.drewN|apply IsS89.drew|apply IsS89.set_1|apply IsS89.set_2|apply IsS89.set_3|apply IsS89.set_4)|exact HI0.out)) (rR HO_5) (by decide)) hk (fun _ h=>h.2)) (fun _ h=>h.1));replace HK:=Aside0.mk (KeepBut.trans Yb hk (.inl rfl));replace HB:=Aside0.mk (hb);replace HI0:=Aside0.mk (hi);(try clear hb);(try clear hb2);(try clear hk);(try clear hi);obtain ⟨ASz42_0,cSz42_0,HGz42,hgz42,HSz42_0⟩:=HI0.out;have hcz42_0:=cellS89_0 HGz42;have hcz42_1:=cellS89_1 HGz42;have hcz42_2:=cellS89_2 HGz42;have hcz42_3:=cellS89_3 HGz42;have hcz42_4:=cellS89_4 HGz42;have hfz42_1:=blk_frozen HGz42 1;have hfz42_2:=blk_frozen HGz42 2;have hfz42_3:=blk_frozen HGz42 3;have hfz42_4:=blk_frozen HGz42 4;clear HGz42 hgz42)|((with_reducible refine gate_callee (f:=99) rfl ?_);refine goesL_ (some 87) rfl rfl Try.func99 (by kernel_rfl) rfl #[.pointer (some ⟨g,0,none⟩)] rfl Ya ?_;(with_reducible refine (ih k2 (by have:=HJ2.out;have:=HK2.out;omega) g s0_0 t238 t239 t240 false t242 t245 t246 t247 t248 w0 _ ?side1 ?side2 A39.out).mono ?_);(case side1=>repeat (first|(with_reducible first|exact HI0.out|apply IsS89.alloc|apply IsS89.drewN|apply IsS89.drew|apply IsS89.set_1|apply IsS89.set_2|apply IsS89.set_3|apply IsS89.set_4)|exact HI0.out));(case side2=>repeat (first|(with_reducible first|exact HB.out|apply below_alloc|apply pw_below_drewN|apply below_drew1|refine below_set ?_ (IsS89.ge HI0.out))|exact HB.out));rintro e w43 ⟨v243,rfl,ho0,hi,hb,hk⟩;refine ⟨_,rfl,?_⟩;have HO244:=Aside0.mk (Kd.R_lower (Kd.R_new' ho0 (Kd.R_lt (rR HO_5))) (keep_size (w:=w) (g:=g) (row:=none) Yb));replace HO_5:=Aside0.mk (Kd.R_mono (Kd.R_told (Kd.R_oldK (IsS89.apart (show IsS89 w0 _ g s0_0 t238 t239 t240 false from by repeat (first|(with_reducible first|exact HI0.out|apply IsS89.alloc|apply IsS89.drewN|apply IsS89.drew|apply IsS89.set_1|apply IsS89.set_2|apply IsS89.set_3|apply IsS89.set_4)|exact HI0.out)) (rR HO_5) (by decide)) hk) (Kd.R_base ho0)) (fun _ h_=>h_.1));replace HK:=Aside0.mk (KeepBut.trans Yb hk (.inl rfl));replace HB:=Aside0.mk (hb);replace HI0:=Aside0.mk (hi);(try clear hb);(try clear hb2);(try clear hk);(try clear hi);(try clear ho0);obtain ⟨Ao45,co45,eo45⟩:=Kd.R_slice HO244.out;subst eo45)|((with_reducible refine gate_builtin (b:=.append) (xs:=#[.tmp 85,.tmp 87]) rfl ?_);(try (refine gate_guard (by rfl) ?_;dsimp only));at_builtin;refine Kd.R_append_rows (Kd.int .i64) w.heap.size rfl (.tmp 85) (.tmp 87) 22 3 (.int .i64 0) 8 rfl Try.underlying22 info3 rfl (by decide) (by first|decide|omega) u5 x5_2 t242 _ _ _ (fun k_=>some k_ ≠ (.slice Ao45 t242.length co45:Value).ownBlock) (fun _=>False) rfl rfl ?aO ?aR (fun _ _ h=>h) (fun _ h=>h.elim) ?aF (Below.refl _ _) ?aS ?aL ?_;(case aR=>repeat (first|exact (Kd.R_reads' HO244.out).2.2|(with_reducible refine Kd.C_alloc ?_ _)|(with_reducible refine Kd.C_drewN ?_ _)|(with_reducible refine Kd.C_drew ?_)));(case aF=>exact (fun k_ hk=>Kd.fresh' (Kd.R_lt (rR HO244)) k_ hk));(case aO=>exact (by (with_reducible repeat (first|apply Kd.R_alloc|apply Kd.R_drewN|apply Kd.R_drew));exact Kd.R_mono HO_5.out (fun _ hk=>hk.2)));(case aS=>exact (keep_size (w:=w) (g:=g) (row:=none) Yb));(case aL=>have:=LMc40.out;omega);intro v250 w44 ho hb hg hat;rw [← Ny249.out] at ho;have n0_:=Aside0.mk (IsS89.grown Yh hg (IsS89.own_ne HI0.out HO_5.out (by decide)));have n1_:=Aside0.mk (Kd.R_after (ok:=(fun _=>True)) (rR HO244) hg hat);have n2_:=Aside0.mk (below_weaken Yf HL.out hb);have n3_:=Aside0.mk (KeepBut.trans Yb (KeepBut.of_grown hg g) (Kd.R_base2 HO_5.out));have n4_:=Aside0.mk (ho);clear HI0;clear HO244;clear HB;clear HK;clear HO_5;have HI0:=n0_;have HO244:=n1_;have HB:=n2_;have HK:=n3_;have HO251:=n4_;clear n0_ n1_ n2_ n3_ n4_;clear ho hb hg hat))
              go_roundg k2
              case measure=>have:=HJ2.out;have:=HK2.out;omega
              case rel=>exact ⟨(y249),(wrap64 (x72_2 + 1)),(t245),(t246),(t247),(t248),Yd,H',⟨by have:=HJ2.out;have:=HK2.out;omega⟩,⟨by (with_reducible repeat (first|apply Kd.R_alloc|apply Kd.R_drewN|apply Kd.R_drew));exact Kd.R_mono HO251.out (fun _ hk=>trivial)⟩,⟨by repeat (first|(with_reducible first|exact HI0.out|apply IsS89.alloc|apply IsS89.drewN|apply IsS89.drew|apply IsS89.set_1|apply IsS89.set_2|apply IsS89.set_3|apply IsS89.set_4)|exact HI0.out)⟩,⟨by repeat (first|(with_reducible first|exact HK.out|apply KeepBut.set_|apply keep_drewN|apply keep_drew|apply keep_alloc)|exact HK.out)⟩,⟨by repeat (first|(with_reducible first|exact HB.out|apply below_alloc|apply pw_below_drewN|apply below_drew1|refine below_set ?_ (IsS89.ge HI0.out))|exact HB.out)⟩⟩
             ·rw [if_neg c40] at H
              exact absurd H (by simp)
          ·rw [if_neg c22] at H
           have c22b0:decide (x72_2 < (rd s0_0 (ji15))) = false:=decide_eq_false c22
           clear c22
           by_cases c46:0 ≤ ji15
           ·rw [if_pos c46] at H
            have c46b0:=decide_eq_true c46
            clear c46
            by_cases c47:ji15 < (s0_0.length:Int)
            ·rw [if_pos c47] at H
             have c47b0:=decide_eq_true c47
             clear c47
             by_cases c48:(rd s0_0 ji15) > 0
             ·rw [if_pos c48] at H
              have c48b0:decide (0 < (rd s0_0 ji15)) = true:=decide_eq_true c48
              clear c48
              by_cases c49:x1004_2 = true
              ·subst c49
               have H1:(some (x5_2,x1001_2,x1002_2,x1003_2,true)) = some (r1,r2,r3,r4,r5):=by rw [if_pos rfl] at H;exact H
               clear H
               have H:=H1
               clear H1
               simp only [Option.some.injEq,Prod.mk.injEq] at H
               obtain ⟨rfl,rfl,rfl,rfl,rfl⟩:=H
               obtain ⟨ASz50_0,cSz50_0,HGz50,hgz50,HSz50_0⟩:=HI0.out
               have hcz50_0:=cellS89_0 HGz50
               have hcz50_1:=cellS89_1 HGz50
               have hcz50_2:=cellS89_2 HGz50
               have hcz50_3:=cellS89_3 HGz50
               have hcz50_4:=cellS89_4 HGz50
               have hfz50_1:=blk_frozen HGz50 1
               have hfz50_2:=blk_frozen HGz50 2
               have hfz50_3:=blk_frozen HGz50 3
               have hfz50_4:=blk_frozen HGz50 4
               clear HGz50 hgz50
               have p216:0 ≤ (ji15:Int):=oD
               have q216:ji15 < (s0_0.length:Int):=oD
               obtain ⟨ad216,e216,hx216_0⟩:=Kd.at_int HSz50_0 ji15 p216 q216
               cases e216
               replace hx216_0:=pw_cell_below HB.out hx216_0
               replace p216:=eq_true p216
               replace q216:=eq_true q216
               go_wp2
               go_ret
               exact ⟨_,by first|rfl|(simp [errW_none,errW_some] <;> rfl)|(simp only [← hji15];first|rfl|(simp [errW_none,errW_some] <;> rfl))|(simp [*,errW_none,errW_some] <;> rfl),rR HO_5,by repeat (first|(with_reducible first|exact HI0.out|apply IsS89.alloc|apply IsS89.drewN|apply IsS89.drew|apply IsS89.set_1|apply IsS89.set_2|apply IsS89.set_3|apply IsS89.set_4)|exact HI0.out),by repeat (first|(with_reducible first|exact HB.out|apply below_alloc|apply pw_below_drewN|apply below_drew1|refine below_set ?_ (IsS89.ge HI0.out))|exact HB.out),by repeat (first|(with_reducible first|exact HK.out|apply KeepBut.set_|apply keep_drewN|apply keep_drew|apply keep_alloc)|exact HK.out)⟩
              ·replace c49:=Bool.eq_false_iff.mpr c49
               subst c49
               have H1:((impl_parser_take.f k2 s0_0 x1001_2 x1002_2 x1003_2 false (⟨#[41]⟩:ByteArray)).bind fun bt217=>(some (x5_2,bt217.2.1,bt217.2.2.1,bt217.2.2.2.1,bt217.2.2.2.2))) = some (r1,r2,r3,r4,r5):=by rw [if_neg (show ¬ (false = true) by decide)] at H;exact H
               clear H
               have H:=H1
               clear H1
               replace H:=Option.bind_eq_some_iff.mp H
               obtain ⟨⟨t217,t218,t219,t220,t221⟩,A510,H⟩:=H
               replace H:(some (x5_2,t218,t219,t220,t221)) = some (r1,r2,r3,r4,r5):=H
               have A51:=Aside0.mk A510
               clear A510
               simp only [Option.some.injEq,Prod.mk.injEq] at H
               obtain ⟨rfl,rfl,rfl,rfl,rfl⟩:=H
               obtain ⟨ASz52_0,cSz52_0,HGz52,hgz52,HSz52_0⟩:=HI0.out
               have hcz52_0:=cellS89_0 HGz52
               have hcz52_1:=cellS89_1 HGz52
               have hcz52_2:=cellS89_2 HGz52
               have hcz52_3:=cellS89_3 HGz52
               have hcz52_4:=cellS89_4 HGz52
               have hfz52_1:=blk_frozen HGz52 1
               have hfz52_2:=blk_frozen HGz52 2
               have hfz52_3:=blk_frozen HGz52 3
               have hfz52_4:=blk_frozen HGz52 4
               clear HGz52 hgz52
               have p216:0 ≤ (ji15:Int):=oD
               have q216:ji15 < (s0_0.length:Int):=oD
               obtain ⟨ad216,e216,hx216_0⟩:=Kd.at_int HSz52_0 ji15 p216 q216
               cases e216
               replace hx216_0:=pw_cell_below HB.out hx216_0
               replace p216:=eq_true p216
               replace q216:=eq_true q216
               go_wp2_with (first|((with_reducible refine gate_callee (f:=100) rfl ?_);refine goesL_ (some 107) rfl rfl Try.func100 (by kernel_rfl) rfl #[.pointer (some ⟨g,0,none⟩),.string (⟨#[41]⟩:ByteArray)] rfl Ya ?_;(with_reducible refine (impl_parser_take.calls k2 g s0_0 x1001_2 x1002_2 x1003_2 false (⟨#[41]⟩:ByteArray) t217 t218 t219 t220 t221 w0 _ ?side1 ?side2 A51.out).mono ?_);(case side1=>repeat (first|(with_reducible first|exact HI0.out|apply IsS89.alloc|apply IsS89.drewN|apply IsS89.drew|apply IsS89.set_1|apply IsS89.set_2|apply IsS89.set_3|apply IsS89.set_4)|exact HI0.out));(case side2=>repeat (first|(with_reducible first|exact HB.out|apply below_alloc|apply pw_below_drewN|apply below_drew1|refine below_set ?_ (IsS89.ge HI0.out))|exact HB.out));rintro e w53 ⟨rfl,hi,hb,hk⟩;refine ⟨_,rfl,?_⟩;replace HO_5:=Aside0.mk (Kd.R_mono (Kd.R_keep (IsS89.apart (show IsS89 w0 _ g s0_0 x1001_2 x1002_2 x1003_2 false from by repeat (first|(with_reducible first|exact HI0.out|apply IsS89.alloc|apply IsS89.drewN|apply IsS89.drew|apply IsS89.set_1|apply IsS89.set_2|apply IsS89.set_3|apply IsS89.set_4)|exact HI0.out)) (rR HO_5) (by decide)) hk (fun _ h=>h.2)) (fun _ h=>h.1));replace HK:=Aside0.mk (KeepBut.trans Yb hk (.inl rfl));replace HB:=Aside0.mk (hb);replace HI0:=Aside0.mk (hi);(try clear hb);(try clear hb2);(try clear hk);(try clear hi)))
               go_ret
               exact ⟨_,by first|rfl|(simp [errW_none,errW_some] <;> rfl)|(simp only [← hji15];first|rfl|(simp [errW_none,errW_some] <;> rfl))|(simp [*,errW_none,errW_some] <;> rfl),rR HO_5,by repeat (first|(with_reducible first|exact HI0.out|apply IsS89.alloc|apply IsS89.drewN|apply IsS89.drew|apply IsS89.set_1|apply IsS89.set_2|apply IsS89.set_3|apply IsS89.set_4)|exact HI0.out),by repeat (first|(with_reducible first|exact HB.out|apply below_alloc|apply pw_below_drewN|apply below_drew1|refine below_set ?_ (IsS89.ge HI0.out))|exact HB.out),by repeat (first|(with_reducible first|exact HK.out|apply KeepBut.set_|apply keep_drewN|apply keep_drew|apply keep_alloc)|exact HK.out)⟩
             ·rw [if_neg c48] at H
              have c48b0:decide (0 < (rd s0_0 ji15)) = false:=decide_eq_false c48
              clear c48
              simp only [Option.some.injEq,Prod.mk.injEq] at H
              obtain ⟨rfl,rfl,rfl,rfl,rfl⟩:=H
              obtain ⟨ASz54_0,cSz54_0,HGz54,hgz54,HSz54_0⟩:=HI0.out
              have hcz54_0:=cellS89_0 HGz54
              have hcz54_1:=cellS89_1 HGz54
              have hcz54_2:=cellS89_2 HGz54
              have hcz54_3:=cellS89_3 HGz54
              have hcz54_4:=cellS89_4 HGz54
              have hfz54_1:=blk_frozen HGz54 1
              have hfz54_2:=blk_frozen HGz54 2
              have hfz54_3:=blk_frozen HGz54 3
              have hfz54_4:=blk_frozen HGz54 4
              clear HGz54 hgz54
              have p216:0 ≤ (ji15:Int):=oD
              have q216:ji15 < (s0_0.length:Int):=oD
              obtain ⟨ad216,e216,hx216_0⟩:=Kd.at_int HSz54_0 ji15 p216 q216
              cases e216
              replace hx216_0:=pw_cell_below HB.out hx216_0
              replace p216:=eq_true p216
              replace q216:=eq_true q216
              go_wp2
              go_ret
              exact ⟨_,by first|rfl|(simp [errW_none,errW_some] <;> rfl)|(simp only [← hji15];first|rfl|(simp [errW_none,errW_some] <;> rfl))|(simp [*,errW_none,errW_some] <;> rfl),rR HO_5,by repeat (first|(with_reducible first|exact HI0.out|apply IsS89.alloc|apply IsS89.drewN|apply IsS89.drew|apply IsS89.set_1|apply IsS89.set_2|apply IsS89.set_3|apply IsS89.set_4)|exact HI0.out),by repeat (first|(with_reducible first|exact HB.out|apply below_alloc|apply pw_below_drewN|apply below_drew1|refine below_set ?_ (IsS89.ge HI0.out))|exact HB.out),by repeat (first|(with_reducible first|exact HK.out|apply KeepBut.set_|apply keep_drewN|apply keep_drew|apply keep_alloc)|exact HK.out)⟩
            ·rw [if_neg c47] at H
             exact absurd H (by simp)
           ·rw [if_neg c46] at H
            exact absurd H (by simp)
       ·rw [if_neg c17] at H
        exact absurd H (by simp)
      ·rw [if_neg c16] at H
       exact absurd H (by simp)

end Go.Proofs.Ytlgnanbnicmdaab.QFnExactReadClause
