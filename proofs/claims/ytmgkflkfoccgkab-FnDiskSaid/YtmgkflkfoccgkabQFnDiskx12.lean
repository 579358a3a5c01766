-- Written by this session's own program (wip/x/xprint.py, over the kit's printer); Lean checks it.
import Derived.Test.YtmgkflkfoccgkabQFnDiskx0
import Derived.Test.YtmgkflkfoccgkabQFnDiskx10
namespace Go.Proofs.Ytmgkflkfoccgkab.QFnDisk
open Go.RowKit Go.Proofs.YtmgkflkfoccgkabW.PrintWords Go.Proofs.YtmgkflkfoccgkabW.PrintLast Go.Proofs.YtmgkflkfoccgkabW.PrintMore
attribute [local go_sem] max2_int min2_int max_two min_two max_three min_three max_four min_four   -- for this text's walks alone
set_option linter.unusedVariables false
set_option linter.unusedSimpArgs false

/-! ### laws_sameTexts: function 15 -/
def laws_sameTexts.l0:Nat → List ByteArray → List ByteArray → Int → Int → Option (Bool)
 | 0,_,_,_,_=>none
 | k + 1,x0,x1,x12,x13=>if x13 < x12 then (if 0 ≤ x13 then (if x13 < (x0.length:Int) then (if x13 < (x1.length:Int) then (if (rdOf ByteArray.empty x0 x13).toList = (rdOf ByteArray.empty x1 x13).toList then (laws_sameTexts.l0 k x0 x1 x12 (wrap64 (x13 + 1))) else (some false)) else (none)) else (none)) else (none)) else (some true)
def laws_sameTexts.f (k:Nat) (l0:List ByteArray) (l1:List ByteArray):Option (Bool):=if (l0.length:Int) = (l1.length:Int) then (laws_sameTexts.l0 k l0 l1 (l0.length:Int) 0) else (some false)
theorem laws_sameTexts.mono_l:∀ k,(∀ y0 y1 y2 y3,LeO (laws_sameTexts.l0 k y0 y1 y2 y3) (laws_sameTexts.l0 (k + 1) y0 y1 y2 y3))
 | 0=>fun _ _ _ _ r h=>by simp [laws_sameTexts.l0] at h
 | k + 1=>by
  have ih0:=laws_sameTexts.mono_l k
  ·intro y0 y1 y2 y3
   unfold laws_sameTexts.l0
   exact mO
theorem laws_sameTexts.mono:∀ a0 a1 k,LeO (laws_sameTexts.f k a0 a1) (laws_sameTexts.f (k + 1) a0 a1):=by
 intro a0 a1 k
 have ih0:=laws_sameTexts.mono_l k
 unfold laws_sameTexts.f
 exact mO
set_option maxHeartbeats 8000000 in
set_option maxRecDepth 100000 in
theorem laws_sameTexts.calls (k:Nat) (A0:Option Addr) (c0:Nat) (l0:List ByteArray) (A1:Option Addr) (c1:Nat) (l1:List ByteArray) (r:Bool) (w:World) (hr0:Kd.C Kd.string w A0 l0.length l0) (hc0:l0.length ≤ c0) (hr1:Kd.C Kd.string w A1 l1.length l1) (hc1:l1.length ≤ c1) (h:laws_sameTexts.f k l0 l1 = some r) :
  Calls Try.prog 15 #[.slice A0 l0.length c0,.slice A1 l1.length c1] w fun e w'=>e = .returned (.bool r) ∧ Drawn0 w w':=by
 have HR0:=Aside0.mk hr0
 have HC0:=Aside0.mk hc0
 clear hr0 hc0
 have HR1:=Aside0.mk hr1
 have HC1:=Aside0.mk hc1
 clear hr1 hc1
 have H:(if (l0.length:Int) = (l1.length:Int) then (laws_sameTexts.l0 k l0 l1 (l0.length:Int) 0) else (some false)) = some r:=h
 clear h
 by_cases c3:(l0.length:Int) = (l1.length:Int)
 ·rw [if_pos c3] at H
  have c3b0:((l0.length:Int) == (l1.length:Int)) = true:=beq_iff_eq.mpr c3
  have c3b1:((l0.length:Int) != (l1.length:Int)) = false:=bne_eq_false_iff_eq.mpr c3
  have c3b2:(l0.length == l1.length) = true:=by first|simpa using c3|(simp at c3 ⊢;omega)
  clear c3
  have H':=Aside0.mk H
  clear H
  go_enter Try.func15,Try.ntmps15
  go_wp2
  repeat (go_quiet (fail);try go_wp2)
  go_loopg [13] k (fun kq v13 w'=>∃ (x13_1:Int),v13 = .int .i64 x13_1 ∧ Aside0 (laws_sameTexts.l0 kq l0 l1 (l0.length:Int) x13_1 = some r) ∧ Aside0 (kq ≤ k) ∧ Drawn0 w w')
  case atStart=>exact ⟨(0),Yh,H',⟨Nat.le_refl _⟩,Yp⟩
  case round =>
   clear H'
   try clear c1
   try clear p2
   try clear c3
   try clear c3b0
   try clear c3b1
   try clear c3b2
   obtain ⟨x13_1,rfl,HA,HK1,⟨m1,rfl⟩⟩:=hrel
   cases gk with
   | zero=>exact absurd HA.out (by simp [laws_sameTexts.l0])
   | succ k1 =>
    have H:=HA.out
    clear HA
    simp only [laws_sameTexts.l0] at H
    by_cases c4:x13_1 < (l0.length:Int)
    ·rw [if_pos c4] at H
     have c4b0:=decide_eq_true c4
     clear c4
     by_cases c5:0 ≤ x13_1
     ·rw [if_pos c5] at H
      have c5b0:=decide_eq_true c5
      clear c5
      by_cases c6:x13_1 < (l0.length:Int)
      ·rw [if_pos c6] at H
       have c6b0:=decide_eq_true c6
       clear c6
       by_cases c7:x13_1 < (l1.length:Int)
       ·rw [if_pos c7] at H
        have c7b0:=decide_eq_true c7
        clear c7
        by_cases c8:(rdOf ByteArray.empty l0 x13_1).toList = (rdOf ByteArray.empty l1 x13_1).toList
        ·rw [if_pos c8] at H
         have c8b0:((rdOf ByteArray.empty l0 x13_1).toList == (rdOf ByteArray.empty l1 x13_1).toList) = true:=beq_iff_eq.mpr c8
         have c8b1:((rdOf ByteArray.empty l0 x13_1).toList != (rdOf ByteArray.empty l1 x13_1).toList) = false:=bne_eq_false_iff_eq.mpr c8
         clear c8
         have H':=Aside0.mk H
         clear H
         have p379:0 ≤ (x13_1:Int):=oD
         have q379:x13_1 < (l0.length:Int):=oD
         obtain ⟨ad379,e379,hx379_0⟩:=Kd.at_string HR0.out x13_1 p379 q379
         cases e379
         replace p379:=eq_true p379
         replace q379:=eq_true q379
         have p380:0 ≤ (x13_1:Int):=oD
         have q380:x13_1 < (l1.length:Int):=oD
         obtain ⟨ad380,e380,hx380_0⟩:=Kd.at_string HR1.out x13_1 p380 q380
         cases e380
         replace p380:=eq_true p380
         replace q380:=eq_true q380
         go_wp2
         repeat (go_quiet (fail);try go_wp2)
         go_roundg k1
         case measure=>have:=HK1.out;omega
         case rel=>exact ⟨(wrap64 (x13_1 + 1)),Yh,H',⟨by have:=HK1.out;omega⟩,Yp⟩
        ·rw [if_neg c8] at H
         have c8b0:((rdOf ByteArray.empty l0 x13_1).toList == (rdOf ByteArray.empty l1 x13_1).toList) = false:=beq_eq_false_iff_ne.mpr c8
         have c8b1:((rdOf ByteArray.empty l0 x13_1).toList != (rdOf ByteArray.empty l1 x13_1).toList) = true:=bne_iff_ne.mpr c8
         obtain rfl:=Option.some.inj H
         have p379:0 ≤ (x13_1:Int):=oD
         have q379:x13_1 < (l0.length:Int):=oD
         obtain ⟨ad379,e379,hx379_0⟩:=Kd.at_string HR0.out x13_1 p379 q379
         cases e379
         replace p379:=eq_true p379
         replace q379:=eq_true q379
         have p380:0 ≤ (x13_1:Int):=oD
         have q380:x13_1 < (l1.length:Int):=oD
         obtain ⟨ad380,e380,hx380_0⟩:=Kd.at_string HR1.out x13_1 p380 q380
         cases e380
         replace p380:=eq_true p380
         replace q380:=eq_true q380
         go_wp2
         repeat (go_quiet (fail);try go_wp2)
         go_ret
         exact ⟨Yh,Yp⟩
       ·rw [if_neg c7] at H
        exact absurd H (by simp)
      ·rw [if_neg c6] at H
       exact absurd H (by simp)
     ·rw [if_neg c5] at H
      exact absurd H (by simp)
    ·rw [if_neg c4] at H
     have c4b0:decide (x13_1 < (l0.length:Int)) = false:=decide_eq_false c4
     clear c4
     obtain rfl:=Option.some.inj H
     go_wp2
     repeat (go_quiet (fail);try go_wp2)
     go_ret
     exact ⟨Yh,Yp⟩
 ·rw [if_neg c3] at H
  have c3b0:((l0.length:Int) == (l1.length:Int)) = false:=beq_eq_false_iff_ne.mpr c3
  have c3b1:((l0.length:Int) != (l1.length:Int)) = true:=bne_iff_ne.mpr c3
  have c3b2:(l0.length == l1.length) = false:=by first|simpa using c3|(simp at c3 ⊢;omega)
  obtain rfl:=Option.some.inj H
  go_enter Try.func15,Try.ntmps15
  go_wp2
  repeat (go_quiet (fail);try go_wp2)
  go_ret
  exact ⟨Yh,Yp⟩

/-! ### laws_sameDisk: function 10 -/
def laws_sameDisk.f (k:Nat) (l0_0:List ByteArray) (l0_1:List ByteArray) (l1_0:List ByteArray) (l1_1:List ByteArray):Option (Bool):=(laws_sameTexts.f k l0_0 l1_0).bind fun t383=>(if t383 = true then ((laws_sameTexts.f k l0_1 l1_1).bind fun t384=>(some t384)) else (some false))
theorem laws_sameDisk.mono:∀ a0 a1 a2 a3 k,LeO (laws_sameDisk.f k a0 a1 a2 a3) (laws_sameDisk.f (k + 1) a0 a1 a2 a3):=by
 intro a0 a1 a2 a3 k
 unfold laws_sameDisk.f
 have m0:=@laws_sameTexts.mono
 exact mO
set_option maxHeartbeats 8000000 in
set_option maxRecDepth 100000 in
theorem laws_sameDisk.calls (k:Nat) (A0_0:Option Addr) (c0_0:Nat) (l0_0:List ByteArray) (A0_1:Option Addr) (c0_1:Nat) (l0_1:List ByteArray) (A1_0:Option Addr) (c1_0:Nat) (l1_0:List ByteArray) (A1_1:Option Addr) (c1_1:Nat) (l1_1:List ByteArray) (r:Bool) (w:World) (hr0_0:Kd.C Kd.string w A0_0 l0_0.length l0_0) (hc0_0:l0_0.length ≤ c0_0) (hr0_1:Kd.C Kd.string w A0_1 l0_1.length l0_1) (hc0_1:l0_1.length ≤ c0_1) (hr1_0:Kd.C Kd.string w A1_0 l1_0.length l1_0) (hc1_0:l1_0.length ≤ c1_0) (hr1_1:Kd.C Kd.string w A1_1 l1_1.length l1_1) (hc1_1:l1_1.length ≤ c1_1) (h:laws_sameDisk.f k l0_0 l0_1 l1_0 l1_1 = some r) :
  Calls Try.prog 10 #[.agg #[.slice A0_0 l0_0.length c0_0,.slice A0_1 l0_1.length c0_1],.agg #[.slice A1_0 l1_0.length c1_0,.slice A1_1 l1_1.length c1_1]] w fun e w'=>e = .returned (.bool r) ∧ Below w.heap.size w w':=by
 have hu26:=Try.underlying26
 have HR0_0:=Aside0.mk hr0_0
 have HC0_0:=Aside0.mk hc0_0
 clear hr0_0 hc0_0
 have HR0_1:=Aside0.mk hr0_1
 have HC0_1:=Aside0.mk hc0_1
 clear hr0_1 hc0_1
 have HR1_0:=Aside0.mk hr1_0
 have HC1_0:=Aside0.mk hc1_0
 clear hr1_0 hc1_0
 have HR1_1:=Aside0.mk hr1_1
 have HC1_1:=Aside0.mk hc1_1
 clear hr1_1 hc1_1
 have HB:=Aside0.mk (Below.refl w.heap.size w)
 have H:((laws_sameTexts.f k l0_0 l1_0).bind fun t383=>(if t383 = true then ((laws_sameTexts.f k l0_1 l1_1).bind fun t384=>(some t384)) else (some false))) = some r:=h
 clear h
 replace H:=Option.bind_eq_some_iff.mp H
 obtain ⟨t383,A30,H⟩:=H
 replace H:(if t383 = true then ((laws_sameTexts.f k l0_1 l1_1).bind fun t384=>(some t384)) else (some false)) = some r:=H
 have A3:=Aside0.mk A30
 clear A30
 by_cases c4:t383 = true
 ·subst c4
  have H1:((laws_sameTexts.f k l0_1 l1_1).bind fun t384=>(some t384)) = some r:=by rw [if_pos rfl] at H;exact H
  clear H
  have H:=H1
  clear H1
  replace H:=Option.bind_eq_some_iff.mp H
  obtain ⟨t384,A50,H⟩:=H
  replace H:(some t384) = some r:=H
  have A5:=Aside0.mk A50
  clear A50
  obtain rfl:=Option.some.inj H
  go_enter Try.func10,Try.ntmps10
  go_wp2_with (first|((with_reducible refine gate_dst (N:=2) rfl ?_);refine box_event ?hg (N:=2) ?hd (cs:=#[.slice A0_0 l0_0.length c0_0,.slice A0_1 l0_1.length c0_1]) (t:=26) ?hr ?_;(case hd=>rfl);(case hg=>rfl);(case hr=>exact Yg);intro gb381 hg w6 hbox hb;have BK381:=Aside0.mk (hbox);have GW381:=Aside0.mk ((hZ:w.heap.size ≤ gb381));have GE381:=Aside0.mk ((hZ:w.heap.size ≤ gb381));replace HB:=Aside0.mk (below_step bH hb);clear hb hbox hg)|((with_reducible refine gate_dst (N:=3) rfl ?_);refine box_event ?hg (N:=3) ?hd (cs:=#[.slice A1_0 l1_0.length c1_0,.slice A1_1 l1_1.length c1_1]) (t:=26) ?hr ?_;(case hd=>rfl);(case hg=>rfl);(case hr=>exact Yg);intro gb382 hg w7 hbox hb;have BK382:=Aside0.mk (hbox);have GW382:=Aside0.mk ((hZ:w.heap.size ≤ gb382));have GE382:=Aside0.mk ((hZ:w.heap.size ≤ gb382));replace HB:=Aside0.mk (below_step bH hb);have NB381_382:=Aside0.mk ((nL BK381:gb381 ≠ gb382));have NB382_381:=Aside0.mk ((nG BK381:gb382 ≠ gb381));replace BK381:=Aside0.mk (blk_below (bB BK381) hb);clear hb hbox hg;have hnb8:=NB381_382.out;have hnc8:=NB382_381.out;have hcz9_0:w7.cell? ⟨gb381,0,none⟩ = some (.slice A0_0 l0_0.length c0_0):=(blk_cell BK381.out 0).trans rfl;have hcz9_1:w7.cell? ⟨gb381,1,none⟩ = some (.slice A0_1 l0_1.length c0_1):=(blk_cell BK381.out 1).trans rfl;have hfz9_0:=blk_frozen BK381.out 0;have hfz9_1:=blk_frozen BK381.out 1;have hcz10_0:w7.cell? ⟨gb382,0,none⟩ = some (.slice A1_0 l1_0.length c1_0):=(blk_cell BK382.out 0).trans rfl;have hcz10_1:w7.cell? ⟨gb382,1,none⟩ = some (.slice A1_1 l1_1.length c1_1):=(blk_cell BK382.out 1).trans rfl;have hfz10_0:=blk_frozen BK382.out 0;have hfz10_1:=blk_frozen BK382.out 1)|((with_reducible refine gate_callee (f:=15) rfl ?_);refine goesL_ (some 9) rfl rfl Try.func15 (by kernel_rfl) rfl #[.slice A0_0 l0_0.length c0_0,.slice A1_0 l1_0.length c1_0] rfl Ya ?_;(with_reducible refine (laws_sameTexts.calls k _ _ l0_0 _ _ l1_0 true _ ?side1 ?side2 ?side3 ?side4 A3.out).mono ?_);(case side1=>exact ZB);(case side2=>exact ZL);(case side3=>exact sC HR1_0);(case side4=>exact HC1_0.out);rintro e w' ⟨rfl,⟨nd,rfl⟩⟩;refine ⟨_,rfl,?_⟩)|(go_at_call 15;(with_reducible refine (laws_sameTexts.calls k _ _ l0_1 _ _ l1_1 t384 _ ?side1 ?side2 ?side3 ?side4 A5.out).mono ?_);(case side1=>repeat (first|exact (Kd.C_below HR0_1.out bH)|(with_reducible refine Kd.C_alloc ?_ _)|(with_reducible refine Kd.C_drewN ?_ _)|(with_reducible refine Kd.C_drew ?_)));(case side2=>exact ZO);(case side3=>repeat (first|exact (Kd.C_below HR1_1.out bH)|(with_reducible refine Kd.C_alloc ?_ _)|(with_reducible refine Kd.C_drewN ?_ _)|(with_reducible refine Kd.C_drew ?_)));(case side4=>exact HC1_1.out);rintro e w' ⟨rfl,⟨nd,rfl⟩⟩))
  go_ret
  exact ⟨Yb,bH⟩
 ·replace c4:=Bool.eq_false_iff.mpr c4
  subst c4
  have H1:(some false) = some r:=by rw [if_neg (show ¬ (false = true) by decide)] at H;exact H
  clear H
  have H:=H1
  clear H1
  obtain rfl:=Option.some.inj H
  go_enter Try.func10,Try.ntmps10
  go_wp2_with (first|((with_reducible refine gate_dst (N:=2) rfl ?_);refine box_event ?hg (N:=2) ?hd (cs:=#[.slice A0_0 l0_0.length c0_0,.slice A0_1 l0_1.length c0_1]) (t:=26) ?hr ?_;(case hd=>rfl);(case hg=>rfl);(case hr=>exact Yg);intro gb381 hg w11 hbox hb;have BK381:=Aside0.mk (hbox);have GW381:=Aside0.mk ((hZ:w.heap.size ≤ gb381));have GE381:=Aside0.mk ((hZ:w.heap.size ≤ gb381));replace HB:=Aside0.mk (below_step bH hb);clear hb hbox hg)|((with_reducible refine gate_dst (N:=3) rfl ?_);refine box_event ?hg (N:=3) ?hd (cs:=#[.slice A1_0 l1_0.length c1_0,.slice A1_1 l1_1.length c1_1]) (t:=26) ?hr ?_;(case hd=>rfl);(case hg=>rfl);(case hr=>exact Yg);intro gb382 hg w12 hbox hb;have BK382:=Aside0.mk (hbox);have GW382:=Aside0.mk ((hZ:w.heap.size ≤ gb382));have GE382:=Aside0.mk ((hZ:w.heap.size ≤ gb382));replace HB:=Aside0.mk (below_step bH hb);have NB381_382:=Aside0.mk ((nL BK381:gb381 ≠ gb382));have NB382_381:=Aside0.mk ((nG BK381:gb382 ≠ gb381));replace BK381:=Aside0.mk (blk_below (bB BK381) hb);clear hb hbox hg;have hnb13:=NB381_382.out;have hnc13:=NB382_381.out;have hcz14_0:w12.cell? ⟨gb381,0,none⟩ = some (.slice A0_0 l0_0.length c0_0):=(blk_cell BK381.out 0).trans rfl;have hcz14_1:w12.cell? ⟨gb381,1,none⟩ = some (.slice A0_1 l0_1.length c0_1):=(blk_cell BK381.out 1).trans rfl;have hfz14_0:=blk_frozen BK381.out 0;have hfz14_1:=blk_frozen BK381.out 1;have hcz15_0:w12.cell? ⟨gb382,0,none⟩ = some (.slice A1_0 l1_0.length c1_0):=(blk_cell BK382.out 0).trans rfl;have hcz15_1:w12.cell? ⟨gb382,1,none⟩ = some (.slice A1_1 l1_1.length c1_1):=(blk_cell BK382.out 1).trans rfl;have hfz15_0:=blk_frozen BK382.out 0;have hfz15_1:=blk_frozen BK382.out 1)|((with_reducible refine gate_callee (f:=15) rfl ?_);refine goesL_ (some 9) rfl rfl Try.func15 (by kernel_rfl) rfl #[.slice A0_0 l0_0.length c0_0,.slice A1_0 l1_0.length c1_0] rfl Ya ?_;(with_reducible refine (laws_sameTexts.calls k _ _ l0_0 _ _ l1_0 false _ ?side1 ?side2 ?side3 ?side4 A3.out).mono ?_);(case side1=>exact ZB);(case side2=>exact ZL);(case side3=>exact sC HR1_0);(case side4=>exact HC1_0.out);rintro e w' ⟨rfl,⟨nd,rfl⟩⟩;refine ⟨_,rfl,?_⟩))
  go_ret
  exact ⟨Yb,bH⟩

/-! ### impl_sumOf: function 104 -/
mutual
def impl_sumOf.l0:Nat → ByteArray → Int → Int → Int → Option (Int)
 | 0,_,_,_,_=>none
 | k + 1,x0,x3,x6,x7=>if x7 < x6 then (if 0 ≤ x7 then (if x7 < (x0.size:Int) then (impl_sumOf.l1 k x0 (Go.bits .xor .i64 x3 (wrap64 (256 * (wrap64 (bt x0 x7))))) x6 x7 0) else (none)) else (none)) else (some x3)
def impl_sumOf.l1:Nat → ByteArray → Int → Int → Int → Int → Option (Int)
 | 0,_,_,_,_,_=>none
 | k + 1,x0,x3,x6,x7,x17=>if x17 < 8 then (if (wrap64 (x3 * 2)) ≥ 65536 then (impl_sumOf.l1 k x0 (Go.bits .xor .i64 (wrap64 (x3 * 2)) 69665) x6 x7 (wrap64 (x17 + 1))) else (impl_sumOf.l1 k x0 (wrap64 (x3 * 2)) x6 x7 (wrap64 (x17 + 1)))) else (impl_sumOf.l0 k x0 x3 x6 (wrap64 (x7 + 1)))
end
def impl_sumOf.f (k:Nat) (a0:ByteArray):Option (Int):=impl_sumOf.l0 k a0 65535 (a0.size:Int) 0
theorem impl_sumOf.mono_l:∀ k,(∀ y0 y1 y2 y3,LeO (impl_sumOf.l0 k y0 y1 y2 y3) (impl_sumOf.l0 (k + 1) y0 y1 y2 y3)) ∧ (∀ y0 y1 y2 y3 y4,LeO (impl_sumOf.l1 k y0 y1 y2 y3 y4) (impl_sumOf.l1 (k + 1) y0 y1 y2 y3 y4))
 | 0=>⟨fun _ _ _ _ r h=>by simp [impl_sumOf.l0] at h,fun _ _ _ _ _ r h=>by simp [impl_sumOf.l1] at h⟩
 | k + 1=>by
  obtain ⟨ih0,ih1⟩:=impl_sumOf.mono_l k
  refine ⟨?_,?_⟩
  ·intro y0 y1 y2 y3
   unfold impl_sumOf.l0
   exact mO
  ·intro y0 y1 y2 y3 y4
   unfold impl_sumOf.l1
   exact mO
theorem impl_sumOf.mono:∀ a0 k,LeO (impl_sumOf.f k a0) (impl_sumOf.f (k + 1) a0):=by
 intro a0 k
 obtain ⟨ih0,ih1⟩:=impl_sumOf.mono_l k
 unfold impl_sumOf.f
 exact mO
set_option maxHeartbeats 8000000 in
set_option maxRecDepth 100000 in
theorem impl_sumOf.calls (k:Nat) (a0:ByteArray) (r:Int) (w:World) (h:impl_sumOf.f k a0 = some r) :
  Calls Try.prog 104 #[.string a0] w fun e w'=>e = .returned (.int .i64 r) ∧ Drawn0 w w':=by
 have H:(impl_sumOf.l0 k a0 65535 (a0.size:Int) 0) = some r:=h
 clear h
 have H':=Aside0.mk H
 clear H
 go_enter Try.func104,Try.ntmps104
 go_wp2
 go_loopg [3,7] k (fun kq v3 v7 w'=>∃ (x3_1:Int) (x7_1:Int),v3 = .int .i64 x3_1 ∧ v7 = .int .i64 x7_1 ∧ Aside0 (impl_sumOf.l0 kq a0 x3_1 (a0.size:Int) x7_1 = some r) ∧ Aside0 (kq ≤ k) ∧ Drawn0 w w')
 case atStart=>exact ⟨(65535),(0),Yh,Yh,H',⟨Nat.le_refl _⟩,Yp⟩
 case round =>
  clear H'
  try clear c1
  obtain ⟨x3_1,x7_1,rfl,rfl,HA,HK1,⟨m1,rfl⟩⟩:=hrel
  cases gk with
  | zero=>exact absurd HA.out (by simp [impl_sumOf.l0])
  | succ k1 =>
   have H:=HA.out
   clear HA
   simp only [impl_sumOf.l0] at H
   by_cases c2:x7_1 < (a0.size:Int)
   ·rw [if_pos c2] at H
    have c2b0:=decide_eq_true c2
    clear c2
    by_cases c3:0 ≤ x7_1
    ·rw [if_pos c3] at H
     have c3b0:=decide_eq_true c3
     clear c3
     by_cases c4:x7_1 < (a0.size:Int)
     ·rw [if_pos c4] at H
      have c4b0:=decide_eq_true c4
      clear c4
      have H':=Aside0.mk H
      clear H
      have p5:0 ≤ (x7_1:Int):=oD
      have q5:x7_1 < (a0.size:Int):=oD
      have hx5:=bt_at a0 x7_1
      replace p5:=eq_true p5
      replace q5:=eq_true q5
      go_wp2
      go_loopg [3,17] k1 (fun kq v3 v17 w'=>∃ (x3_2:Int) (x17_2:Int),v3 = .int .i64 x3_2 ∧ v17 = .int .i64 x17_2 ∧ Aside0 (impl_sumOf.l1 kq a0 x3_2 (a0.size:Int) x7_1 x17_2 = some r) ∧ Aside0 (kq ≤ k1) ∧ Drawn0 w w')
      case atStart=>exact ⟨(Go.bits .xor .i64 x3_1 (wrap64 (256 * (wrap64 (bt a0 x7_1))))),(0),Yh,Yh,H',⟨Nat.le_refl _⟩,Yp⟩
      case round =>
       clear H'
       try clear c1
       try clear c2
       try clear c2b0
       try clear p2
       try clear c3
       try clear c3b0
       try clear c4
       try clear c4b0
       try clear p5
       try clear q5
       try clear hx5
       try clear p5
       try clear q5
       obtain ⟨x3_2,x17_2,rfl,rfl,HA,HK2,⟨m2,rfl⟩⟩:=hrel
       cases gk with
       | zero=>exact absurd HA.out (by simp [impl_sumOf.l1])
       | succ k2 =>
        have H:=HA.out
        clear HA
        simp only [impl_sumOf.l1] at H
        by_cases c6:x17_2 < 8
        ·rw [if_pos c6] at H
         have c6b0:=decide_eq_true c6
         clear c6
         by_cases c7:(wrap64 (x3_2 * 2)) ≥ 65536
         ·rw [if_pos c7] at H
          have c7b0:decide (65536 ≤ (wrap64 (x3_2 * 2))) = true:=decide_eq_true c7
          clear c7
          have H':=Aside0.mk H
          clear H
          go_wp2
          go_roundg k2
          case measure=>have:=HK1.out;have:=HK2.out;omega
          case rel=>exact ⟨(Go.bits .xor .i64 (wrap64 (x3_2 * 2)) 69665),(wrap64 (x17_2 + 1)),Yh,Yh,H',⟨ZQ⟩,Yp⟩
         ·rw [if_neg c7] at H
          have c7b0:decide (65536 ≤ (wrap64 (x3_2 * 2))) = false:=decide_eq_false c7
          clear c7
          have H':=Aside0.mk H
          clear H
          go_wp2
          go_roundg k2
          case measure=>have:=HK1.out;have:=HK2.out;omega
          case rel=>exact ⟨(wrap64 (x3_2 * 2)),(wrap64 (x17_2 + 1)),Yh,Yh,H',⟨ZQ⟩,Yp⟩
        ·rw [if_neg c6] at H
         have c6b0:decide (x17_2 < 8) = false:=decide_eq_false c6
         clear c6
         have H':=Aside0.mk H
         clear H
         go_wp2
         go_roundg k2
         case measure=>have:=HK1.out;have:=HK2.out;omega
         case rel=>exact ⟨(x3_2),(wrap64 (x7_1 + 1)),Yh,Yh,H',⟨ZQ⟩,Yp⟩
     ·rw [if_neg c4] at H
      exact absurd H (by simp)
    ·rw [if_neg c3] at H
     exact absurd H (by simp)
   ·rw [if_neg c2] at H
    have c2b0:decide (x7_1 < (a0.size:Int)) = false:=decide_eq_false c2
    clear c2
    obtain rfl:=Option.some.inj H
    go_wp2
    go_ret
    exact ⟨Yh,Yp⟩

/-! ### impl_summed: function 86 -/
def impl_summed.f (k:Nat) (a0:ByteArray):Option (ByteArray):=(impl_sumOf.f k a0).bind fun t385=>((some (([(wrap64 (Int.tdiv t385 256)) % 256,(Int.tmod t385 256) % 256]:List Int):List Int)).bind fun y386=>(if a0.size + (strOfNums y386).size ≤ 9223372036854775807 then (some (a0 ++ (strOfNums y386))) else (none)))
theorem impl_summed.mono:∀ a0 k,LeO (impl_summed.f k a0) (impl_summed.f (k + 1) a0):=by
 intro a0 k
 unfold impl_summed.f
 have m0:=@impl_sumOf.mono
 exact mO
set_option maxHeartbeats 8000000 in
set_option maxRecDepth 100000 in
theorem impl_summed.calls (k:Nat) (a0:ByteArray) (r:ByteArray) (w:World) (h:impl_summed.f k a0 = some r) :
  Calls Try.prog 86 #[.string a0] w fun e w'=>e = .returned (.string r) ∧ Below w.heap.size w w':=by
 have HB:=Aside0.mk (Below.refl w.heap.size w)
 have H:((impl_sumOf.f k a0).bind fun t385=>((some (([(wrap64 (Int.tdiv t385 256)) % 256,(Int.tmod t385 256) % 256]:List Int):List Int)).bind fun y386=>(if a0.size + (strOfNums y386).size ≤ 9223372036854775807 then (some (a0 ++ (strOfNums y386))) else (none)))) = some r:=h
 clear h
 replace H:=Option.bind_eq_some_iff.mp H
 obtain ⟨t385,A20,H⟩:=H
 replace H:((some (([(wrap64 (Int.tdiv t385 256)) % 256,(Int.tmod t385 256) % 256]:List Int):List Int)).bind fun y386=>(if a0.size + (strOfNums y386).size ≤ 9223372036854775807 then (some (a0 ++ (strOfNums y386))) else (none))) = some r:=H
 have A2:=Aside0.mk A20
 clear A20
 obtain ⟨y386,hy386⟩:∃ y_:List Int,y_ = (([(wrap64 (Int.tdiv t385 256)) % 256,(Int.tmod t385 256) % 256]:List Int)):=⟨_,rfl⟩
 replace H:(if a0.size + (strOfNums y386).size ≤ 9223372036854775807 then (some (a0 ++ (strOfNums y386))) else (none)) = some r:=by first|(rw [hy386];with_reducible exact H)|(have H2_:=(Option.bind_some _ _).symm.trans H;rw [hy386];with_reducible exact H2_)|(have H2_:=(Option.bind_some _ _).symm.trans H;with_reducible exact H2_)|with_reducible exact H|(rw [hy386];exact H)|exact H
 have Ny386:=Aside0.mk hy386
 clear hy386
 by_cases c3:a0.size + (strOfNums y386).size ≤ 9223372036854775807
 ·rw [if_pos c3] at H
  have c3b0:=eq_true c3
  have c3b1:=decide_eq_true c3
  try have c3b2:(9223372036854775807 < a0.size + (strOfNums y386).size) = False:=eq_false (Nat.not_lt.2 c3)
  obtain rfl:=Option.some.inj H
  go_enter Try.func86,Try.ntmps86
  go_wp2_with (first|((with_reducible refine gate_callee (f:=104) rfl ?_);refine goesL_ (some 5) rfl rfl Try.func104 (by kernel_rfl) rfl #[.string a0] rfl Ya ?_;(with_reducible refine (impl_sumOf.calls k a0 t385 _ A2.out).mono ?_);rintro e w' ⟨rfl,⟨nd,rfl⟩⟩;refine ⟨_,rfl,?_⟩)|((with_reducible refine gate_dst (N:=13) rfl ?_);refine Kd.R_lit (Kd.int .u8) _ 5 ?hg (N:=13) ?hd (xs:=([(wrap64 (Int.tdiv t385 256)) % 256,(Int.tmod t385 256) % 256]:List Int)) (inner:=[.int .u8 ((wrap64 (Int.tdiv t385 256)) % 256),.int .u8 ((Int.tmod t385 256) % 256)]) (ok:=fun _=>True) (okp:=fun _=>True) ?hr ?hp (fun _ hk=>hk) trivial (Below.refl _ _) (Nat.le_refl _) (by simp) ?_;(case hd=>rfl);(case hg=>rfl);(case hr=>exact Yn);(case hp=>exact (Reps.one (show Kd.M (Kd.int .u8) _ _ _ ((wrap64 (Int.tdiv t385 256)) % 256) [.int .u8 ((wrap64 (Int.tdiv t385 256)) % 256)] from rfl) (Reps.one (show Kd.M (Kd.int .u8) _ _ _ ((Int.tmod t385 256) % 256) [.int .u8 ((Int.tmod t385 256) % 256)] from rfl) (Reps.none _ _))));intro v387 w4 ho5 hb hg_ hnew_;clear hg_ hnew_;(first|rw [← Ny386.out] at ho5|(simp only [Int.reduceToNat] at ho5;rw [← Ny386.out] at ho5));have HO388:=Aside0.mk (Kd.R_lower ho5 (below_size bH));replace HB:=Aside0.mk (below_step bH hb);clear hb ho5;have hcv6:=own_string (P:=Try.prog) Try.underlying22 Try.underlying5 Try.underlying9 (Kd.own_of_R HO388.out)))
  go_ret
  exact ⟨Yb,bH⟩
 ·rw [if_neg c3] at H
  exact absurd H (by simp)

/-! ### impl_sector: function 53 -/
def impl_sector.f (k:Nat) (a0:Int) (a1:Bool) (a2:ByteArray):Option (ByteArray):=if a1 = true then ((some (([(wrap64 (Int.tdiv a0 256)) % 256,(Int.tmod a0 256) % 256,(((a2.size:Int)) + 128) % 256]:List Int):List Int)).bind fun y389=>(if (strOfNums y389).size + a2.size ≤ 9223372036854775807 then ((strings_Repeat.f (⟨#[0]⟩:ByteArray) (wrap64 (13 - (((strOfNums y389) ++ a2).size:Int)))).bind fun t392=>(if ((strOfNums y389) ++ a2).size + t392.size ≤ 9223372036854775807 then ((impl_summed.f k (((strOfNums y389) ++ a2) ++ t392)).bind fun t393=>(if t393.size + 1 ≤ 9223372036854775807 then (some (t393 ++ (⟨#[1]⟩:ByteArray))) else (none))) else (none))) else (none))) else ((some (([(wrap64 (Int.tdiv a0 256)) % 256,(Int.tmod a0 256) % 256,((a2.size:Int)) % 256]:List Int):List Int)).bind fun y394=>(if (strOfNums y394).size + a2.size ≤ 9223372036854775807 then ((strings_Repeat.f (⟨#[0]⟩:ByteArray) (wrap64 (13 - (((strOfNums y394) ++ a2).size:Int)))).bind fun t397=>(if ((strOfNums y394) ++ a2).size + t397.size ≤ 9223372036854775807 then ((impl_summed.f k (((strOfNums y394) ++ a2) ++ t397)).bind fun t398=>(if t398.size + 1 ≤ 9223372036854775807 then (some (t398 ++ (⟨#[1]⟩:ByteArray))) else (none))) else (none))) else (none)))
theorem impl_sector.mono:∀ a0 a1 a2 k,LeO (impl_sector.f k a0 a1 a2) (impl_sector.f (k + 1) a0 a1 a2):=by
 intro a0 a1 a2 k
 unfold impl_sector.f
 have m0:=@impl_summed.mono
 exact mO
set_option maxHeartbeats 8000000 in
set_option maxRecDepth 100000 in
theorem impl_sector.calls (k:Nat) (a0:Int) (a1:Bool) (a2:ByteArray) (r:ByteArray) (w:World) (h:impl_sector.f k a0 a1 a2 = some r) :
  Calls Try.prog 53 #[.int .i64 a0,.bool a1,.string a2] w fun e w'=>e = .returned (.string r) ∧ Below w.heap.size w w':=by
 have HB:=Aside0.mk (Below.refl w.heap.size w)
 have H:(if a1 = true then ((some (([(wrap64 (Int.tdiv a0 256)) % 256,(Int.tmod a0 256) % 256,(((a2.size:Int)) + 128) % 256]:List Int):List Int)).bind fun y389=>(if (strOfNums y389).size + a2.size ≤ 9223372036854775807 then ((strings_Repeat.f (⟨#[0]⟩:ByteArray) (wrap64 (13 - (((strOfNums y389) ++ a2).size:Int)))).bind fun t392=>(if ((strOfNums y389) ++ a2).size + t392.size ≤ 9223372036854775807 then ((impl_summed.f k (((strOfNums y389) ++ a2) ++ t392)).bind fun t393=>(if t393.size + 1 ≤ 9223372036854775807 then (some (t393 ++ (⟨#[1]⟩:ByteArray))) else (none))) else (none))) else (none))) else ((some (([(wrap64 (Int.tdiv a0 256)) % 256,(Int.tmod a0 256) % 256,((a2.size:Int)) % 256]:List Int):List Int)).bind fun y394=>(if (strOfNums y394).size + a2.size ≤ 9223372036854775807 then ((strings_Repeat.f (⟨#[0]⟩:ByteArray) (wrap64 (13 - (((strOfNums y394) ++ a2).size:Int)))).bind fun t397=>(if ((strOfNums y394) ++ a2).size + t397.size ≤ 9223372036854775807 then ((impl_summed.f k (((strOfNums y394) ++ a2) ++ t397)).bind fun t398=>(if t398.size + 1 ≤ 9223372036854775807 then (some (t398 ++ (⟨#[1]⟩:ByteArray))) else (none))) else (none))) else (none)))) = some r:=h
 clear h
 by_cases c4:a1 = true
 ·subst c4
  have H1:((some (([(wrap64 (Int.tdiv a0 256)) % 256,(Int.tmod a0 256) % 256,(((a2.size:Int)) + 128) % 256]:List Int):List Int)).bind fun y389=>(if (strOfNums y389).size + a2.size ≤ 9223372036854775807 then ((strings_Repeat.f (⟨#[0]⟩:ByteArray) (wrap64 (13 - (((strOfNums y389) ++ a2).size:Int)))).bind fun t392=>(if ((strOfNums y389) ++ a2).size + t392.size ≤ 9223372036854775807 then ((impl_summed.f k (((strOfNums y389) ++ a2) ++ t392)).bind fun t393=>(if t393.size + 1 ≤ 9223372036854775807 then (some (t393 ++ (⟨#[1]⟩:ByteArray))) else (none))) else (none))) else (none))) = some r:=by rw [if_pos rfl] at H;exact H
  clear H
  have H:=H1
  clear H1
  obtain ⟨y389,hy389⟩:∃ y_:List Int,y_ = (([(wrap64 (Int.tdiv a0 256)) % 256,(Int.tmod a0 256) % 256,(((a2.size:Int)) + 128) % 256]:List Int)):=⟨_,rfl⟩
  replace H:(if (strOfNums y389).size + a2.size ≤ 9223372036854775807 then ((strings_Repeat.f (⟨#[0]⟩:ByteArray) (wrap64 (13 - (((strOfNums y389) ++ a2).size:Int)))).bind fun t392=>(if ((strOfNums y389) ++ a2).size + t392.size ≤ 9223372036854775807 then ((impl_summed.f k (((strOfNums y389) ++ a2) ++ t392)).bind fun t393=>(if t393.size + 1 ≤ 9223372036854775807 then (some (t393 ++ (⟨#[1]⟩:ByteArray))) else (none))) else (none))) else (none)) = some r:=by first|(rw [hy389];with_reducible exact H)|(have H2_:=(Option.bind_some _ _).symm.trans H;rw [hy389];with_reducible exact H2_)|(have H2_:=(Option.bind_some _ _).symm.trans H;with_reducible exact H2_)|with_reducible exact H|(rw [hy389];exact H)|exact H
  have Ny389:=Aside0.mk hy389
  clear hy389
  by_cases c5:(strOfNums y389).size + a2.size ≤ 9223372036854775807
  ·rw [if_pos c5] at H
   have c5b0:=eq_true c5
   have c5b1:=decide_eq_true c5
   try have c5b2:(9223372036854775807 < (strOfNums y389).size + a2.size) = False:=eq_false (Nat.not_lt.2 c5)
   replace H:=Option.bind_eq_some_iff.mp H
   obtain ⟨t392,A60,H⟩:=H
   replace H:(if ((strOfNums y389) ++ a2).size + t392.size ≤ 9223372036854775807 then ((impl_summed.f k (((strOfNums y389) ++ a2) ++ t392)).bind fun t393=>(if t393.size + 1 ≤ 9223372036854775807 then (some (t393 ++ (⟨#[1]⟩:ByteArray))) else (none))) else (none)) = some r:=H
   have A6:=Aside0.mk A60
   clear A60
   by_cases c7:((strOfNums y389) ++ a2).size + t392.size ≤ 9223372036854775807
   ·rw [if_pos c7] at H
    have c7b0:=eq_true c7
    have c7b1:=decide_eq_true c7
    try have c7b2:(9223372036854775807 < ((strOfNums y389) ++ a2).size + t392.size) = False:=eq_false (Nat.not_lt.2 c7)
    try (have c7b3:=c7b2;simp only [ByteArray.size_append] at c7b3)
    replace H:=Option.bind_eq_some_iff.mp H
    obtain ⟨t393,A80,H⟩:=H
    replace H:(if t393.size + 1 ≤ 9223372036854775807 then (some (t393 ++ (⟨#[1]⟩:ByteArray))) else (none)) = some r:=H
    have A8:=Aside0.mk A80
    clear A80
    by_cases c9:t393.size + 1 ≤ 9223372036854775807
    ·rw [if_pos c9] at H
     have c9b0:=eq_true c9
     have c9b1:=decide_eq_true c9
     try have c9b2:(9223372036854775807 < t393.size + 1) = False:=eq_false (Nat.not_lt.2 c9)
     obtain rfl:=Option.some.inj H
     go_enter Try.func53,Try.ntmps53
     go_wp2_with (first|((with_reducible refine gate_dst (N:=22) rfl ?_);refine Kd.R_lit (Kd.int .u8) _ 5 ?hg (N:=22) ?hd (xs:=([(wrap64 (Int.tdiv a0 256)) % 256,(Int.tmod a0 256) % 256,(((a2.size:Int)) + 128) % 256]:List Int)) (inner:=[.int .u8 ((wrap64 (Int.tdiv a0 256)) % 256),.int .u8 ((Int.tmod a0 256) % 256),.int .u8 ((((a2.size:Int)) + 128) % 256)]) (ok:=fun _=>True) (okp:=fun _=>True) ?hr ?hp (fun _ hk=>hk) trivial (Below.refl _ _) (Nat.le_refl _) (by simp) ?_;(case hd=>rfl);(case hg=>rfl);(case hr=>exact Yn);(case hp=>exact (Reps.one (show Kd.M (Kd.int .u8) _ _ _ ((wrap64 (Int.tdiv a0 256)) % 256) [.int .u8 ((wrap64 (Int.tdiv a0 256)) % 256)] from rfl) (Reps.one (show Kd.M (Kd.int .u8) _ _ _ ((Int.tmod a0 256) % 256) [.int .u8 ((Int.tmod a0 256) % 256)] from rfl) (Reps.one (show Kd.M (Kd.int .u8) _ _ _ ((((a2.size:Int)) + 128) % 256) [.int .u8 ((((a2.size:Int)) + 128) % 256)] from rfl) (Reps.none _ _)))));intro v390 w10 ho11 hb hg_ hnew_;clear hg_ hnew_;(first|rw [← Ny389.out] at ho11|(simp only [Int.reduceToNat] at ho11;rw [← Ny389.out] at ho11));have HO391:=Aside0.mk (Kd.R_lower ho11 (below_size bH));replace HB:=Aside0.mk (below_step bH hb);clear hb ho11;have hcv12:=own_string (P:=Try.prog) Try.underlying22 Try.underlying5 Try.underlying9 (Kd.own_of_R HO391.out))|((with_reducible refine gate_callee (f:=45) rfl ?_);refine goesL_ (some 30) rfl rfl Try.func45 (by kernel_rfl) rfl #[.string (⟨#[0]⟩:ByteArray),.int .i64 (wrap64 (13 - (((strOfNums y389) ++ a2).size:Int)))] rfl ZH ?_;(with_reducible refine (strings_Repeat.calls (⟨#[0]⟩:ByteArray) (wrap64 (13 - (((strOfNums y389) ++ a2).size:Int))) t392 _ A6.out).mono ?_);rintro e w13 ⟨rfl,hb⟩;refine ⟨_,rfl,?_⟩;replace HO391:=Aside0.mk (Kd.R_below (rR HO391) hb);replace HB:=Aside0.mk (below_step bH hb);(try clear hb);(try clear hb2);(try clear hk);(try clear hi))|((with_reducible refine gate_callee (f:=86) rfl ?_);refine goesL_ (some 32) rfl rfl Try.func86 (by kernel_rfl) rfl #[.string (((strOfNums y389) ++ a2) ++ t392)] rfl Ya ?_;(with_reducible refine (impl_summed.calls k (((strOfNums y389) ++ a2) ++ t392) t393 _ A8.out).mono ?_);rintro e w14 ⟨rfl,hb⟩;refine ⟨_,rfl,?_⟩;replace HO391:=Aside0.mk (Kd.R_below (rR HO391) hb);replace HB:=Aside0.mk (below_step bH hb);(try clear hb);(try clear hb2);(try clear hk);(try clear hi)))
     go_ret
     exact ⟨Yb,bH⟩
    ·rw [if_neg c9] at H
     exact absurd H (by simp)
   ·rw [if_neg c7] at H
    exact absurd H (by simp)
  ·rw [if_neg c5] at H
   exact absurd H (by simp)
 ·replace c4:=Bool.eq_false_iff.mpr c4
  subst c4
  have H1:((some (([(wrap64 (Int.tdiv a0 256)) % 256,(Int.tmod a0 256) % 256,((a2.size:Int)) % 256]:List Int):List Int)).bind fun y394=>(if (strOfNums y394).size + a2.size ≤ 9223372036854775807 then ((strings_Repeat.f (⟨#[0]⟩:ByteArray) (wrap64 (13 - (((strOfNums y394) ++ a2).size:Int)))).bind fun t397=>(if ((strOfNums y394) ++ a2).size + t397.size ≤ 9223372036854775807 then ((impl_summed.f k (((strOfNums y394) ++ a2) ++ t397)).bind fun t398=>(if t398.size + 1 ≤ 9223372036854775807 then (some (t398 ++ (⟨#[1]⟩:ByteArray))) else (none))) else (none))) else (none))) = some r:=by rw [if_neg (show ¬ (false = true) by decide)] at H;exact H
  clear H
  have H:=H1
  clear H1
  obtain ⟨y394,hy394⟩:∃ y_:List Int,y_ = (([(wrap64 (Int.tdiv a0 256)) % 256,(Int.tmod a0 256) % 256,((a2.size:Int)) % 256]:List Int)):=⟨_,rfl⟩
  replace H:(if (strOfNums y394).size + a2.size ≤ 9223372036854775807 then ((strings_Repeat.f (⟨#[0]⟩:ByteArray) (wrap64 (13 - (((strOfNums y394) ++ a2).size:Int)))).bind fun t397=>(if ((strOfNums y394) ++ a2).size + t397.size ≤ 9223372036854775807 then ((impl_summed.f k (((strOfNums y394) ++ a2) ++ t397)).bind fun t398=>(if t398.size + 1 ≤ 9223372036854775807 then (some (t398 ++ (⟨#[1]⟩:ByteArray))) else (none))) else (none))) else (none)) = some r:=by first|(rw [hy394];with_reducible exact H)|(have H2_:=(Option.bind_some _ _).symm.trans H;rw [hy394];with_reducible exact H2_)|(have H2_:=(Option.bind_some _ _).symm.trans H;with_reducible exact H2_)|with_reducible exact H|(rw [hy394];exact H)|exact H
  have Ny394:=Aside0.mk hy394
  clear hy394
  by_cases c15:(strOfNums y394).size + a2.size ≤ 9223372036854775807
  ·rw [if_pos c15] at H
   have c15b0:=eq_true c15
   have c15b1:=decide_eq_true c15
   try have c15b2:(9223372036854775807 < (strOfNums y394).size + a2.size) = False:=eq_false (Nat.not_lt.2 c15)
   replace H:=Option.bind_eq_some_iff.mp H
   obtain ⟨t397,A160,H⟩:=H
   replace H:(if ((strOfNums y394) ++ a2).size + t397.size ≤ 9223372036854775807 then ((impl_summed.f k (((strOfNums y394) ++ a2) ++ t397)).bind fun t398=>(if t398.size + 1 ≤ 9223372036854775807 then (some (t398 ++ (⟨#[1]⟩:ByteArray))) else (none))) else (none)) = some r:=H
   have A16:=Aside0.mk A160
   clear A160
   by_cases c17:((strOfNums y394) ++ a2).size + t397.size ≤ 9223372036854775807
   ·rw [if_pos c17] at H
    have c17b0:=eq_true c17
    have c17b1:=decide_eq_true c17
    try have c17b2:(9223372036854775807 < ((strOfNums y394) ++ a2).size + t397.size) = False:=eq_false (Nat.not_lt.2 c17)
    try (have c17b3:=c17b2;simp only [ByteArray.size_append] at c17b3)
    replace H:=Option.bind_eq_some_iff.mp H
    obtain ⟨t398,A180,H⟩:=H
    replace H:(if t398.size + 1 ≤ 9223372036854775807 then (some (t398 ++ (⟨#[1]⟩:ByteArray))) else (none)) = some r:=H
    have A18:=Aside0.mk A180
    clear A180
    by_cases c19:t398.size + 1 ≤ 9223372036854775807
    ·rw [if_pos c19] at H
     have c19b0:=eq_true c19
     have c19b1:=decide_eq_true c19
     try have c19b2:(9223372036854775807 < t398.size + 1) = False:=eq_false (Nat.not_lt.2 c19)
     obtain rfl:=Option.some.inj H
     go_enter Try.func53,Try.ntmps53
     go_wp2_with (first|((with_reducible refine gate_dst (N:=22) rfl ?_);refine Kd.R_lit (Kd.int .u8) _ 5 ?hg (N:=22) ?hd (xs:=([(wrap64 (Int.tdiv a0 256)) % 256,(Int.tmod a0 256) % 256,((a2.size:Int)) % 256]:List Int)) (inner:=[.int .u8 ((wrap64 (Int.tdiv a0 256)) % 256),.int .u8 ((Int.tmod a0 256) % 256),.int .u8 (((a2.size:Int)) % 256)]) (ok:=fun _=>True) (okp:=fun _=>True) ?hr ?hp (fun _ hk=>hk) trivial (Below.refl _ _) (Nat.le_refl _) (by simp) ?_;(case hd=>rfl);(case hg=>rfl);(case hr=>exact Yn);(case hp=>exact Yo);intro v395 w20 ho21 hb hg_ hnew_;clear hg_ hnew_;(first|rw [← Ny394.out] at ho21|(simp only [Int.reduceToNat] at ho21;rw [← Ny394.out] at ho21));have HO396:=Aside0.mk (Kd.R_lower ho21 (below_size bH));replace HB:=Aside0.mk (below_step bH hb);clear hb ho21;have hcv22:=own_string (P:=Try.prog) Try.underlying22 Try.underlying5 Try.underlying9 (Kd.own_of_R HO396.out))|((with_reducible refine gate_callee (f:=45) rfl ?_);refine goesL_ (some 30) rfl rfl Try.func45 (by kernel_rfl) rfl #[.string (⟨#[0]⟩:ByteArray),.int .i64 (wrap64 (13 - (((strOfNums y394) ++ a2).size:Int)))] rfl ZH ?_;(with_reducible refine (strings_Repeat.calls (⟨#[0]⟩:ByteArray) (wrap64 (13 - (((strOfNums y394) ++ a2).size:Int))) t397 _ A16.out).mono ?_);rintro e w23 ⟨rfl,hb⟩;refine ⟨_,rfl,?_⟩;replace HO396:=Aside0.mk (Kd.R_below (rR HO396) hb);replace HB:=Aside0.mk (below_step bH hb);(try clear hb);(try clear hb2);(try clear hk);(try clear hi))|((with_reducible refine gate_callee (f:=86) rfl ?_);refine goesL_ (some 32) rfl rfl Try.func86 (by kernel_rfl) rfl #[.string (((strOfNums y394) ++ a2) ++ t397)] rfl Ya ?_;(with_reducible refine (impl_summed.calls k (((strOfNums y394) ++ a2) ++ t397) t398 _ A18.out).mono ?_);rintro e w24 ⟨rfl,hb⟩;refine ⟨_,rfl,?_⟩;replace HO396:=Aside0.mk (Kd.R_below (rR HO396) hb);replace HB:=Aside0.mk (below_step bH hb);(try clear hb);(try clear hb2);(try clear hk);(try clear hi)))
     go_ret
     exact ⟨Yb,bH⟩
    ·rw [if_neg c19] at H
     exact absurd H (by simp)
   ·rw [if_neg c17] at H
    exact absurd H (by simp)
  ·rw [if_neg c15] at H
   exact absurd H (by simp)

/-! ### impl_isNo: function 103 -/
def impl_isNo.f (a0:Int):Option (Bool):=if a0 ≥ 0 then (some (decide (a0 < 400))) else (some false)
set_option maxHeartbeats 8000000 in
set_option maxRecDepth 100000 in
theorem impl_isNo.calls (a0:Int) (r:Bool) (w:World) (h:impl_isNo.f a0 = some r) :
  Calls Try.prog 103 #[.int .i64 a0] w fun e w'=>e = .returned (.bool r) ∧ Drawn0 w w':=by
 have H:(if a0 ≥ 0 then (some (decide (a0 < 400))) else (some false)) = some r:=h
 clear h
 by_cases c2:a0 ≥ 0
 ·rw [if_pos c2] at H
  have c2b0:decide (0 ≤ a0) = true:=decide_eq_true c2
  clear c2
  obtain rfl:=Option.some.inj H
  go_enter Try.func103,Try.ntmps103
  go_wp2
  go_ret
  exact ⟨Yh,Yp⟩
 ·rw [if_neg c2] at H
  have c2b0:decide (0 ≤ a0) = false:=decide_eq_false c2
  clear c2
  obtain rfl:=Option.some.inj H
  go_enter Try.func103,Try.ntmps103
  go_wp2
  go_ret
  exact ⟨Yh,Yp⟩

/-! ### impl_ReadSector: function 85 -/
def impl_ReadSector.j0:Nat → Int → ByteArray → Bool → Option (ByteArray × Bool × Bool)
 | 0,_,_,_=>none
 | k + 1,x0,x1,x17=>if x17 = true then (some ((⟨#[]⟩:ByteArray),false,false)) else (if 2 < (x1.size:Int) then (if (Int.tmod (wrap64 (bt x1 2)) 128) > 10 then (some ((⟨#[]⟩:ByteArray),false,false)) else (if 3 ≤ (wrap64 (3 + (Int.tmod (wrap64 (bt x1 2)) 128))) then (if (wrap64 (3 + (Int.tmod (wrap64 (bt x1 2)) 128))) ≤ (x1.size:Int) then ((impl_sector.f k x0 (decide ((wrap64 (bt x1 2)) ≥ 128)) (x1.extract 3 ((wrap64 (3 + (Int.tmod (wrap64 (bt x1 2)) 128))):Int).toNat)).bind fun t400=>(if t400.toList = x1.toList then (some (x1.extract 3 ((wrap64 (3 + (Int.tmod (wrap64 (bt x1 2)) 128))):Int).toNat,decide ((wrap64 (bt x1 2)) ≥ 128),true)) else (some ((⟨#[]⟩:ByteArray),false,false)))) else (none)) else (none))) else (none))
def impl_ReadSector.f (k:Nat) (a0:Int) (a1:ByteArray):Option (ByteArray × Bool × Bool):=(impl_isNo.f a0).bind fun t399=>(if t399 = true then (impl_ReadSector.j0 k a0 a1 ((a1.size:Int) != 16)) else (impl_ReadSector.j0 k a0 a1 true))
theorem impl_ReadSector.mono_l:∀ k,(∀ y0 y1 y2,LeO (impl_ReadSector.j0 k y0 y1 y2) (impl_ReadSector.j0 (k + 1) y0 y1 y2))
 | 0=>fun _ _ _ r h=>by simp [impl_ReadSector.j0] at h
 | k + 1=>by
  have ih0:=impl_ReadSector.mono_l k
  ·intro y0 y1 y2
   unfold impl_ReadSector.j0
   have m0:=@impl_sector.mono
   exact mO
theorem impl_ReadSector.mono:∀ a0 a1 k,LeO (impl_ReadSector.f k a0 a1) (impl_ReadSector.f (k + 1) a0 a1):=by
 intro a0 a1 k
 have ih0:=impl_ReadSector.mono_l k
 unfold impl_ReadSector.f
 have m0:=@impl_sector.mono
 exact mO
set_option maxHeartbeats 8000000 in
set_option maxRecDepth 100000 in
theorem impl_ReadSector.calls (k:Nat) (a0:Int) (a1:ByteArray) (r1:ByteArray) (r2:Bool) (r3:Bool) (w:World) (h:impl_ReadSector.f k a0 a1 = some (r1,r2,r3)) :
  Calls Try.prog 85 #[.int .i64 a0,.string a1] w fun e w'=>e = .returned (.tuple #[.string r1,.bool r2,.bool r3]) ∧ Below w.heap.size w w':=by
 have HB:=Aside0.mk (Below.refl w.heap.size w)
 have H:((impl_isNo.f a0).bind fun t399=>(if t399 = true then (impl_ReadSector.j0 k a0 a1 ((a1.size:Int) != 16)) else (impl_ReadSector.j0 k a0 a1 true))) = some (r1,r2,r3):=h
 clear h
 have HC3:=Aside0.mk H
 clear H
 go_enter Try.func85,Try.ntmps85
 go_upto_region 1 with (fail)
 go_cut [17] (fun v17 wc=>∃ (kq:Nat) (x17_2:Bool),v17 = .bool x17_2 ∧ Aside0 (impl_ReadSector.j0 kq a0 a1 x17_2 = some (r1,r2,r3)) ∧ Aside0 (kq ≤ k) ∧ Aside0 (Below w.heap.size w wc))
 case first =>
  have H:=HC3.out
  clear HC3
  replace H:=Option.bind_eq_some_iff.mp H
  obtain ⟨t399,A40,H⟩:=H
  replace H:(if t399 = true then (impl_ReadSector.j0 k a0 a1 ((a1.size:Int) != 16)) else (impl_ReadSector.j0 k a0 a1 true)) = some (r1,r2,r3):=H
  have A4:=Aside0.mk A40
  clear A40
  by_cases c5:t399 = true
  ·subst c5
   have H1:(impl_ReadSector.j0 k a0 a1 ((a1.size:Int) != 16)) = some (r1,r2,r3):=by rw [if_pos rfl] at H;exact H
   clear H
   have H:=H1
   clear H1
   have H':=Aside0.mk H
   clear H
   go_wp2_with (first|((with_reducible refine gate_callee (f:=103) rfl ?_);refine goesL_ (some 11) rfl rfl Try.func103 (by kernel_rfl) rfl #[.int .i64 a0] rfl Ya ?_;(with_reducible refine (impl_isNo.calls a0 true _ A4.out).mono ?_);rintro e w' ⟨rfl,⟨nd,rfl⟩⟩;refine ⟨_,rfl,?_⟩))
   go_meet
   case rel=>exact ⟨_,(((a1.size:Int) != 16)),Yh,H',⟨YQ⟩,⟨bH⟩⟩
  ·replace c5:=Bool.eq_false_iff.mpr c5
   subst c5
   have H1:(impl_ReadSector.j0 k a0 a1 true) = some (r1,r2,r3):=by rw [if_neg (show ¬ (false = true) by decide)] at H;exact H
   clear H
   have H:=H1
   clear H1
   have H':=Aside0.mk H
   clear H
   go_wp2_with (first|((with_reducible refine gate_callee (f:=103) rfl ?_);refine goesL_ (some 11) rfl rfl Try.func103 (by kernel_rfl) rfl #[.int .i64 a0] rfl Ya ?_;(with_reducible refine (impl_isNo.calls a0 false _ A4.out).mono ?_);rintro e w' ⟨rfl,⟨nd,rfl⟩⟩;refine ⟨_,rfl,?_⟩))
   go_meet
   case rel=>exact ⟨_,(true),Yh,H',⟨YQ⟩,⟨bH⟩⟩
 case rest =>
  clear HC3
  try clear c1
  try clear p2
  try clear c5
  obtain ⟨kq,x17_2,rfl,HA,HJ2,HB⟩:=hcut
  cases kq with
  | zero=>exact absurd HA.out (by simp [impl_ReadSector.j0])
  | succ kj2 =>
   have H:=HA.out
   clear HA
   simp only [impl_ReadSector.j0] at H
   by_cases c6:x17_2 = true
   ·subst c6
    have H1:(some ((⟨#[]⟩:ByteArray),false,false)) = some (r1,r2,r3):=by rw [if_pos rfl] at H;exact H
    clear H
    have H:=H1
    clear H1
    simp only [Option.some.injEq,Prod.mk.injEq] at H
    obtain ⟨rfl,rfl,rfl⟩:=H
    go_wp2
    go_ret3
    exact ⟨Yb,bH⟩
   ·replace c6:=Bool.eq_false_iff.mpr c6
    subst c6
    have H1:(if 2 < (a1.size:Int) then (if (Int.tmod (wrap64 (bt a1 2)) 128) > 10 then (some ((⟨#[]⟩:ByteArray),false,false)) else (if 3 ≤ (wrap64 (3 + (Int.tmod (wrap64 (bt a1 2)) 128))) then (if (wrap64 (3 + (Int.tmod (wrap64 (bt a1 2)) 128))) ≤ (a1.size:Int) then ((impl_sector.f kj2 a0 (decide ((wrap64 (bt a1 2)) ≥ 128)) (a1.extract 3 ((wrap64 (3 + (Int.tmod (wrap64 (bt a1 2)) 128))):Int).toNat)).bind fun t400=>(if t400.toList = a1.toList then (some (a1.extract 3 ((wrap64 (3 + (Int.tmod (wrap64 (bt a1 2)) 128))):Int).toNat,decide ((wrap64 (bt a1 2)) ≥ 128),true)) else (some ((⟨#[]⟩:ByteArray),false,false)))) else (none)) else (none))) else (none)) = some (r1,r2,r3):=by rw [if_neg (show ¬ (false = true) by decide)] at H;exact H
    clear H
    have H:=H1
    clear H1
    by_cases c7:2 < (a1.size:Int)
    ·rw [if_pos c7] at H
     have c7b0:=decide_eq_true c7
     have c7b1:decide (2 < a1.size) = true:=decide_eq_true (by omega)
     clear c7
     by_cases c9:(Int.tmod (wrap64 (bt a1 2)) 128) > 10
     ·rw [if_pos c9] at H
      have c9b0:decide (10 < (Int.tmod (wrap64 (bt a1 2)) 128)) = true:=decide_eq_true c9
      clear c9
      simp only [Option.some.injEq,Prod.mk.injEq] at H
      obtain ⟨rfl,rfl,rfl⟩:=H
      have p8:0 ≤ (2:Int):=(by omega)
      have q8:2 < a1.size:=(by have:(2:Int) < (a1.size:Int):=oD;omega)
      have hx8:∀ h:2 < a1.size,((a1[2]'h).toNat:Int) = bt a1 2:=bt_at a1 2
      clear p8
      have qi8:(2 < (a1.size:Int)) = True:=eq_true (oD)
      replace q8:=eq_true q8
      go_wp2
      go_ret3
      exact ⟨Yb,bH⟩
     ·rw [if_neg c9] at H
      have c9b0:decide (10 < (Int.tmod (wrap64 (bt a1 2)) 128)) = false:=decide_eq_false c9
      clear c9
      by_cases c10:3 ≤ (wrap64 (3 + (Int.tmod (wrap64 (bt a1 2)) 128)))
      ·rw [if_pos c10] at H
       have c10b0:=eq_true c10
       have c10b1:=decide_eq_true c10
       by_cases c11:(wrap64 (3 + (Int.tmod (wrap64 (bt a1 2)) 128))) ≤ (a1.size:Int)
       ·rw [if_pos c11] at H
        have c11b0:=eq_true c11
        have c11b1:=decide_eq_true c11
        replace H:=Option.bind_eq_some_iff.mp H
        obtain ⟨t400,A120,H⟩:=H
        replace H:(if t400.toList = a1.toList then (some (a1.extract 3 ((wrap64 (3 + (Int.tmod (wrap64 (bt a1 2)) 128))):Int).toNat,decide ((wrap64 (bt a1 2)) ≥ 128),true)) else (some ((⟨#[]⟩:ByteArray),false,false))) = some (r1,r2,r3):=H
        have A12:=Aside0.mk A120
        clear A120
        by_cases c13:t400.toList = a1.toList
        ·rw [if_pos c13] at H
         have c13b0:(t400.toList == a1.toList) = true:=beq_iff_eq.mpr c13
         have c13b1:(t400.toList != a1.toList) = false:=bne_eq_false_iff_eq.mpr c13
         clear c13
         simp only [Option.some.injEq,Prod.mk.injEq] at H
         obtain ⟨rfl,rfl,rfl⟩:=H
         have p8:0 ≤ (2:Int):=(by omega)
         have q8:2 < a1.size:=(by have:(2:Int) < (a1.size:Int):=oD;omega)
         have hx8:∀ h:2 < a1.size,((a1[2]'h).toNat:Int) = bt a1 2:=bt_at a1 2
         clear p8
         have qi8:(2 < (a1.size:Int)) = True:=eq_true (oD)
         replace q8:=eq_true q8
         go_wp2_with (first|((with_reducible refine gate_callee (f:=53) rfl ?_);refine goesL_ (some 34) rfl rfl Try.func53 (by kernel_rfl) rfl #[.int .i64 a0,.bool (decide ((wrap64 (bt a1 2)) ≥ 128)),.string (a1.extract 3 ((wrap64 (3 + (Int.tmod (wrap64 (bt a1 2)) 128))):Int).toNat)] rfl Ya ?_;(with_reducible refine (impl_sector.calls kj2 a0 (decide ((wrap64 (bt a1 2)) ≥ 128)) (a1.extract 3 ((wrap64 (3 + (Int.tmod (wrap64 (bt a1 2)) 128))):Int).toNat) t400 _ A12.out).mono ?_);rintro e w14 ⟨rfl,hb⟩;refine ⟨_,rfl,?_⟩;replace HB:=Aside0.mk (below_step bH hb);(try clear hb);(try clear hb2);(try clear hk);(try clear hi)))
         go_ret3
         exact ⟨Yb,bH⟩
        ·rw [if_neg c13] at H
         have c13b0:(t400.toList == a1.toList) = false:=beq_eq_false_iff_ne.mpr c13
         have c13b1:(t400.toList != a1.toList) = true:=bne_iff_ne.mpr c13
         simp only [Option.some.injEq,Prod.mk.injEq] at H
         obtain ⟨rfl,rfl,rfl⟩:=H
         have p8:0 ≤ (2:Int):=(by omega)
         have q8:2 < a1.size:=(by have:(2:Int) < (a1.size:Int):=oD;omega)
         have hx8:∀ h:2 < a1.size,((a1[2]'h).toNat:Int) = bt a1 2:=bt_at a1 2
         clear p8
         have qi8:(2 < (a1.size:Int)) = True:=eq_true (oD)
         replace q8:=eq_true q8
         go_wp2_with (first|((with_reducible refine gate_callee (f:=53) rfl ?_);refine goesL_ (some 34) rfl rfl Try.func53 (by kernel_rfl) rfl #[.int .i64 a0,.bool (decide ((wrap64 (bt a1 2)) ≥ 128)),.string (a1.extract 3 ((wrap64 (3 + (Int.tmod (wrap64 (bt a1 2)) 128))):Int).toNat)] rfl Ya ?_;(with_reducible refine (impl_sector.calls kj2 a0 (decide ((wrap64 (bt a1 2)) ≥ 128)) (a1.extract 3 ((wrap64 (3 + (Int.tmod (wrap64 (bt a1 2)) 128))):Int).toNat) t400 _ A12.out).mono ?_);rintro e w15 ⟨rfl,hb⟩;refine ⟨_,rfl,?_⟩;replace HB:=Aside0.mk (below_step bH hb);(try clear hb);(try clear hb2);(try clear hk);(try clear hi)))
         go_ret3
         exact ⟨Yb,bH⟩
       ·rw [if_neg c11] at H
        exact absurd H (by simp)
      ·rw [if_neg c10] at H
       exact absurd H (by simp)
    ·rw [if_neg c7] at H
     exact absurd H (by simp)

end Go.Proofs.Ytmgkflkfoccgkab.QFnDisk
