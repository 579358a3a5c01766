-- Written by this session's own program (wip/x/xprint.py, over the kit's printer); Lean checks it.
import Derived.Test.YtmgkflkfoccgkabQFnDiskx0
import Derived.Test.YtmgkflkfoccgkabQFnDiskx9
import Derived.Test.YtmgkflkfoccgkabQFnDiskx10
namespace Go.Proofs.Ytmgkflkfoccgkab.QFnDisk
open Go.RowKit Go.Proofs.YtmgkflkfoccgkabW.PrintWords Go.Proofs.YtmgkflkfoccgkabW.PrintLast Go.Proofs.YtmgkflkfoccgkabW.PrintMore
attribute [local go_sem] max2_int min2_int max_two min_two max_three min_three max_four min_four   -- for this text's walks alone
set_option linter.unusedVariables false
set_option linter.unusedSimpArgs false

/-! ### impl_CrashDisk: function 8 -/
def impl_CrashDisk.j0:Nat → Int → Int → Bool → List ByteArray → List ByteArray → Option (List ByteArray × List ByteArray × Bool)
 | 0,_,_,_,_,_=>none
 | k + 1,x1,x2,x30,x360000,x360001=>if x30 = true then (some (([]:List ByteArray),([]:List ByteArray),false)) else (if 0 ≤ x1 then (if x1 ≤ (x360001.length:Int) then ((slices_Concat_string_string.f k (([x360000,(x360001.take (x1:Int).toNat)]:List (List ByteArray)))).bind fun t370=>(if x2 > 0 then (if x1 < (x360001.length:Int) then (if 0 ≤ x2 then (if x2 ≤ ((rdOf ByteArray.empty x360001 x1).size:Int) then ((strings_Repeat.f (⟨#[0]⟩:ByteArray) (wrap64 (16 - x2))).bind fun t375=>(if ((rdOf ByteArray.empty x360001 x1).extract 0 (x2:Int).toNat).size + t375.size ≤ 9223372036854775807 then (if t370.length < 8796093022208 then (some ((t370 ++ [((rdOf ByteArray.empty x360001 x1).extract 0 (x2:Int).toNat) ++ t375]),([]:List ByteArray),true)) else (none)) else (none))) else (none)) else (none)) else (some (t370,([]:List ByteArray),true))) else (some (t370,([]:List ByteArray),true)))) else (none)) else (none))
def impl_CrashDisk.f (k:Nat) (l0_0:List ByteArray) (l0_1:List ByteArray) (a1:Int) (a2:Int):Option (List ByteArray × List ByteArray × Bool):=(impl_GoodDisk.f k l0_0 l0_1).bind fun t361=>(if t361 = true then (if a1 < 0 then (impl_CrashDisk.j0 k a1 a2 true l0_0 l0_1) else (if a1 > (l0_1.length:Int) then (impl_CrashDisk.j0 k a1 a2 true l0_0 l0_1) else (if a2 < 0 then (impl_CrashDisk.j0 k a1 a2 true l0_0 l0_1) else (impl_CrashDisk.j0 k a1 a2 (decide (a2 > 16)) l0_0 l0_1)))) else (impl_CrashDisk.j0 k a1 a2 true l0_0 l0_1))
theorem impl_CrashDisk.mono_l:∀ k,(∀ y0 y1 y2 y3 y4,LeO (impl_CrashDisk.j0 k y0 y1 y2 y3 y4) (impl_CrashDisk.j0 (k + 1) y0 y1 y2 y3 y4))
 | 0=>fun _ _ _ _ _ r h=>by simp [impl_CrashDisk.j0] at h
 | k + 1=>by
  have ih0:=impl_CrashDisk.mono_l k
  ·intro y0 y1 y2 y3 y4
   unfold impl_CrashDisk.j0
   have m0:=@impl_GoodDisk.mono
   have m1:=@slices_Concat_string_string.mono
   exact mO
theorem impl_CrashDisk.mono:∀ a0 a1 a2 a3 k,LeO (impl_CrashDisk.f k a0 a1 a2 a3) (impl_CrashDisk.f (k + 1) a0 a1 a2 a3):=by
 intro a0 a1 a2 a3 k
 have ih0:=impl_CrashDisk.mono_l k
 unfold impl_CrashDisk.f
 have m0:=@impl_GoodDisk.mono
 have m1:=@slices_Concat_string_string.mono
 exact mO
def impl_CrashDisk.T3:Bool × List (List Nat × List Nat):=(true,[([],[]),([0],[0]),([],[]),([2],[2]),([],[]),([3,4],[3,4]),([1,5],[1,5]),([6],[6]),([7],[7]),([],[]),([9,8,7,0,1,2,3,4,5,6,7,8,9],[8,9])])
def impl_CrashDisk.B3:List Nat:=[0,1,0,4,0,28,63,127,255,0,1023]
theorem impl_CrashDisk.tab3:rtab .any (opsOf Try.f8 3) = impl_CrashDisk.T3:=by kernel_rfl
theorem impl_CrashDisk.bits3:waitsOk impl_CrashDisk.T3.2 impl_CrashDisk.B3 = true:=by kernel_rfl
def impl_CrashDisk.T5:Bool × List (List Nat × List Nat):=(true,[([],[]),([0],[0]),([],[]),([2],[2]),([],[]),([3,4],[3,4]),([5],[5]),([],[]),([6,7],[6,7]),([],[]),([9],[9]),([10],[10]),([8,11],[8,11]),([12],[12]),([1,13,11],[1,13]),([0,1,2,3,4,5,6,7,8,9,10,11,12,13,14],[]),([15,14,14,0,1,2,3,4,5,6,7,8,9,10,11,12,13,14],[14,15])])
def impl_CrashDisk.B5:List Nat:=[0,1,0,4,0,28,60,0,252,0,512,1536,4092,8188,16383,32767,65535]
theorem impl_CrashDisk.tab5:rtab .any (opsOf Try.f8 5) = impl_CrashDisk.T5:=by kernel_rfl
theorem impl_CrashDisk.bits5:waitsOk impl_CrashDisk.T5.2 impl_CrashDisk.B5 = true:=by kernel_rfl
set_option maxHeartbeats 8000000 in
set_option maxRecDepth 100000 in
theorem impl_CrashDisk.calls (k:Nat) (P0_0_:Nat → Prop) (A0_0:Option Addr) (c0_0:Nat) (l0_0:List ByteArray) (P0_1_:Nat → Prop) (A0_1:Option Addr) (c0_1:Nat) (l0_1:List ByteArray) (a1:Int) (a2:Int) (r1:List ByteArray) (r2:List ByteArray) (r3:Bool) (w:World) (hs0_0:Kd.V Kd.string 9 w w.heap.size (fun k_=>P0_0_ k_) (.slice A0_0 l0_0.length c0_0) l0_0) (hs0_1:Kd.V Kd.string 9 w w.heap.size (fun k_=>P0_1_ k_) (.slice A0_1 l0_1.length c0_1) l0_1) (h:impl_CrashDisk.f k l0_0 l0_1 a1 a2 = some (r1,r2,r3)) :
  Calls Try.prog 8 #[.agg #[.slice A0_0 l0_0.length c0_0,.slice A0_1 l0_1.length c0_1],.int .i64 a1,.int .i64 a2] w fun e w'=>∃ v0_ v1_:Value,e = .returned (.tuple #[.agg #[v0_,v1_],.bool r3]) ∧ Kd.R Kd.string 9 w' w.heap.size (fun k_=>(w.heap.size ≤ k_) ∧ some k_ ≠ (v1_:Value).ownBlock) v0_ r1 ∧ Kd.R Kd.string 9 w' w.heap.size (fun k_=>(w.heap.size ≤ k_) ∧ some k_ ≠ (v0_:Value).ownBlock) v1_ r2 ∧ Below w.heap.size w w':=by
 have hu26:=Try.underlying26
 have HO0_0:=Aside0.mk (show Kd.V Kd.string 9 w w.heap.size (fun k_=>((P0_0_ k_ ∨ P0_1_ k_) ∨ w.heap.size ≤ k_)) (.slice A0_0 l0_0.length c0_0) l0_0 from Kd.V_mono hs0_0 (fun k_ hk=>.inl (.inl hk)))
 have HO0_1:=Aside0.mk (show Kd.V Kd.string 9 w w.heap.size (fun k_=>((P0_0_ k_ ∨ P0_1_ k_) ∨ w.heap.size ≤ k_)) (.slice A0_1 l0_1.length c0_1) l0_1 from Kd.V_mono hs0_1 (fun k_ hk=>.inl (.inr hk)))
 have HB:=Aside0.mk (Below.refl w.heap.size w)
 have H:((impl_GoodDisk.f k l0_0 l0_1).bind fun t361=>(if t361 = true then (if a1 < 0 then (impl_CrashDisk.j0 k a1 a2 true l0_0 l0_1) else (if a1 > (l0_1.length:Int) then (impl_CrashDisk.j0 k a1 a2 true l0_0 l0_1) else (if a2 < 0 then (impl_CrashDisk.j0 k a1 a2 true l0_0 l0_1) else (impl_CrashDisk.j0 k a1 a2 (decide (a2 > 16)) l0_0 l0_1)))) else (impl_CrashDisk.j0 k a1 a2 true l0_0 l0_1))) = some (r1,r2,r3):=h
 clear h
 have HC4:=Aside0.mk H
 clear H
 go_enter Try.func8,Try.ntmps8
 go_upto_region 1 with (first|((with_reducible refine gate_dst (N:=3) rfl ?_);(try (refine gate_guard (by rfl) ?_;dsimp only));refine box_event ?hg (N:=3) ?hd (cs:=#[.slice A0_0 l0_0.length c0_0,.slice A0_1 l0_1.length c0_1]) (t:=26) ?hr ?_;(case hd=>rfl);(case hg=>rfl);(case hr=>exact Yg);intro gb359 hg w5 hbox hb;replace HO0_0:=Aside0.mk (Kd.V_below (Kd.V_elderB (rV HO0_0) gb359 (Nat.le_of_eq hg.symm)) hb);replace HO0_1:=Aside0.mk (Kd.V_below (Kd.V_elderB (rV HO0_1) gb359 (Nat.le_of_eq hg.symm)) hb);have BK359:=Aside0.mk (hbox);have GW359:=Aside0.mk ((hZ:w.heap.size ≤ gb359));have GE359:=Aside0.mk ((hZ:w.heap.size ≤ gb359));replace HB:=Aside0.mk (below_step bH hb);clear hb hbox hg)|((with_reducible refine gate_dst (N:=6) rfl ?_);(try (refine gate_guard (by rfl) ?_;dsimp only));refine box_event ?hg (N:=6) ?hd (cs:=#[.slice none 0 0,.slice none 0 0]) (t:=26) ?hr ?_;(case hd=>rfl);(case hg=>rfl);(case hr=>exact Yg);intro gb360 hg w6 hbox hb;replace HO0_0:=Aside0.mk (Kd.V_below (Kd.V_elderB (rV HO0_0) gb360 (Nat.le_of_eq hg.symm)) hb);replace HO0_1:=Aside0.mk (Kd.V_below (Kd.V_elderB (rV HO0_1) gb360 (Nat.le_of_eq hg.symm)) hb);have BK360:=Aside0.mk (hbox);have GW360:=Aside0.mk ((hZ:w.heap.size ≤ gb360));have GE360:=Aside0.mk ((hZ:w.heap.size ≤ gb360));replace HB:=Aside0.mk (below_step bH hb);have NB359_360:=Aside0.mk ((nL BK359:gb359 ≠ gb360));have NB360_359:=Aside0.mk ((nG BK359:gb360 ≠ gb359));replace BK359:=Aside0.mk (blk_below (bB BK359) hb);clear hb hbox hg))
 (try simp only [Act.put,List.setIfInBounds_toArray,List.set_cons_zero,List.set_cons_succ])
 go_cut [30] (fun v30 wc=>∃ (kq:Nat) (x30_3:Bool),v30 = .bool x30_3 ∧ Aside0 (impl_CrashDisk.j0 kq a1 a2 x30_3 l0_0 l0_1 = some (r1,r2,r3)) ∧ Aside0 (kq ≤ k) ∧ Aside0 (Kd.V Kd.string 9 wc w.heap.size (fun k_=>((P0_0_ k_ ∨ P0_1_ k_) ∨ w.heap.size ≤ k_) ∧ k_ ≠ gb359 ∧ k_ ≠ gb360) (.slice A0_0 l0_0.length c0_0) l0_0) ∧ Aside0 (Kd.V Kd.string 9 wc w.heap.size (fun k_=>((P0_0_ k_ ∨ P0_1_ k_) ∨ w.heap.size ≤ k_) ∧ k_ ≠ gb359 ∧ k_ ≠ gb360) (.slice A0_1 l0_1.length c0_1) l0_1) ∧ Aside0 (wc.heap[gb359]? = some (.cells #[(.slice A0_0 l0_0.length c0_0),(.slice A0_1 l0_1.length c0_1)] 26 (0,0))) ∧ Aside0 (wc.heap[gb360]? = some (.cells #[(.slice none 0 0),(.slice none 0 0)] 26 (0,0))) ∧ Aside0 (Below w.heap.size w wc))
 case first =>
  have H:=HC4.out
  clear HC4
  replace H:=Option.bind_eq_some_iff.mp H
  obtain ⟨t361,A70,H⟩:=H
  replace H:(if t361 = true then (if a1 < 0 then (impl_CrashDisk.j0 k a1 a2 true l0_0 l0_1) else (if a1 > (l0_1.length:Int) then (impl_CrashDisk.j0 k a1 a2 true l0_0 l0_1) else (if a2 < 0 then (impl_CrashDisk.j0 k a1 a2 true l0_0 l0_1) else (impl_CrashDisk.j0 k a1 a2 (decide (a2 > 16)) l0_0 l0_1)))) else (impl_CrashDisk.j0 k a1 a2 true l0_0 l0_1)) = some (r1,r2,r3):=H
  have A7:=Aside0.mk A70
  clear A70
  by_cases c8:t361 = true
  ·subst c8
   have H1:(if a1 < 0 then (impl_CrashDisk.j0 k a1 a2 true l0_0 l0_1) else (if a1 > (l0_1.length:Int) then (impl_CrashDisk.j0 k a1 a2 true l0_0 l0_1) else (if a2 < 0 then (impl_CrashDisk.j0 k a1 a2 true l0_0 l0_1) else (impl_CrashDisk.j0 k a1 a2 (decide (a2 > 16)) l0_0 l0_1)))) = some (r1,r2,r3):=by rw [if_pos rfl] at H;exact H
   clear H
   have H:=H1
   clear H1
   by_cases c9:a1 < 0
   ·rw [if_pos c9] at H
    have c9b0:=decide_eq_true c9
    clear c9
    (first|rw [c9b0]|(simp only [i64_w,i32_w];rw [c9b0])|skip)
    have H':=Aside0.mk H
    clear H
    have hnb10:=NB359_360.out
    have hnc10:=NB360_359.out
    have hcz11_0:w6.cell? ⟨gb359,0,none⟩ = some (.slice A0_0 l0_0.length c0_0):=(blk_cell BK359.out 0).trans rfl
    have hcz11_1:w6.cell? ⟨gb359,1,none⟩ = some (.slice A0_1 l0_1.length c0_1):=(blk_cell BK359.out 1).trans rfl
    have hfz11_0:=blk_frozen BK359.out 0
    have hfz11_1:=blk_frozen BK359.out 1
    go_wp2_with (first|((with_reducible refine gate_callee (f:=11) rfl ?_);refine goesL_ (some 10) rfl rfl Try.func11 (by kernel_rfl) rfl #[.agg #[.slice A0_0 l0_0.length c0_0,.slice A0_1 l0_1.length c0_1]] rfl Ya ?_;(with_reducible refine (impl_GoodDisk.calls k (fun k_=>((((P0_0_ k_ ∨ P0_1_ k_) ∨ w.heap.size ≤ k_) ∧ k_ ≠ gb359) ∧ k_ ≠ gb360)) _ _ l0_0 (fun k_=>((((P0_0_ k_ ∨ P0_1_ k_) ∨ w.heap.size ≤ k_) ∧ k_ ≠ gb359) ∧ k_ ≠ gb360)) _ _ l0_1 true _ ?side1 ?side2 A7.out).mono ?_);(case side1=>exact HO0_0.out);(case side2=>exact HO0_1.out);rintro e w12 ⟨rfl,hb⟩;refine ⟨_,rfl,?_⟩;replace HO0_0:=Aside0.mk (Kd.V_below (rV HO0_0) hb);replace HO0_1:=Aside0.mk (Kd.V_below (rV HO0_1) hb);replace BK359:=Aside0.mk (blk_below (bB BK359) hb);replace BK360:=Aside0.mk (blk_below (bB BK360) hb);replace HB:=Aside0.mk (below_step bH hb);(try clear hb);(try clear hb2);(try clear hk);(try clear hi)))
    go_meet
    case rel=>exact ⟨_,(true),Yh,H',⟨YQ⟩,⟨YD⟩,⟨YC⟩,⟨YS⟩,⟨YR⟩,⟨bH⟩⟩
   ·rw [if_neg c9] at H
    have c9b0:decide (a1 < 0) = false:=decide_eq_false c9
    clear c9
    (first|rw [c9b0]|(simp only [i64_w,i32_w];rw [c9b0])|skip)
    by_cases c13:a1 > (l0_1.length:Int)
    ·rw [if_pos c13] at H
     have c13b0:decide ((l0_1.length:Int) < a1) = true:=decide_eq_true c13
     clear c13
     have H':=Aside0.mk H
     clear H
     have hnb14:=NB359_360.out
     have hnc14:=NB360_359.out
     have hcz15_0:w6.cell? ⟨gb359,0,none⟩ = some (.slice A0_0 l0_0.length c0_0):=(blk_cell BK359.out 0).trans rfl
     have hcz15_1:w6.cell? ⟨gb359,1,none⟩ = some (.slice A0_1 l0_1.length c0_1):=(blk_cell BK359.out 1).trans rfl
     have hfz15_0:=blk_frozen BK359.out 0
     have hfz15_1:=blk_frozen BK359.out 1
     go_wp2_with (first|((with_reducible refine gate_callee (f:=11) rfl ?_);refine goesL_ (some 10) rfl rfl Try.func11 (by kernel_rfl) rfl #[.agg #[.slice A0_0 l0_0.length c0_0,.slice A0_1 l0_1.length c0_1]] rfl Ya ?_;(with_reducible refine (impl_GoodDisk.calls k (fun k_=>((((P0_0_ k_ ∨ P0_1_ k_) ∨ w.heap.size ≤ k_) ∧ k_ ≠ gb359) ∧ k_ ≠ gb360)) _ _ l0_0 (fun k_=>((((P0_0_ k_ ∨ P0_1_ k_) ∨ w.heap.size ≤ k_) ∧ k_ ≠ gb359) ∧ k_ ≠ gb360)) _ _ l0_1 true _ ?side1 ?side2 A7.out).mono ?_);(case side1=>exact HO0_0.out);(case side2=>exact HO0_1.out);rintro e w16 ⟨rfl,hb⟩;refine ⟨_,rfl,?_⟩;replace HO0_0:=Aside0.mk (Kd.V_below (rV HO0_0) hb);replace HO0_1:=Aside0.mk (Kd.V_below (rV HO0_1) hb);replace BK359:=Aside0.mk (blk_below (bB BK359) hb);replace BK360:=Aside0.mk (blk_below (bB BK360) hb);replace HB:=Aside0.mk (below_step bH hb);(try clear hb);(try clear hb2);(try clear hk);(try clear hi);have hcz17_0:w16.cell? ⟨gb359,0,none⟩ = some (.slice A0_0 l0_0.length c0_0):=(blk_cell BK359.out 0).trans rfl;have hcz17_1:w16.cell? ⟨gb359,1,none⟩ = some (.slice A0_1 l0_1.length c0_1):=(blk_cell BK359.out 1).trans rfl;have hfz17_0:=blk_frozen BK359.out 0;have hfz17_1:=blk_frozen BK359.out 1))
     go_meet
     case rel=>exact ⟨_,(true),Yh,H',⟨YQ⟩,⟨YD⟩,⟨YC⟩,⟨YS⟩,⟨YR⟩,⟨bH⟩⟩
    ·rw [if_neg c13] at H
     have c13b0:decide ((l0_1.length:Int) < a1) = false:=decide_eq_false c13
     clear c13
     by_cases c18:a2 < 0
     ·rw [if_pos c18] at H
      have c18b0:=decide_eq_true c18
      clear c18
      have H':=Aside0.mk H
      clear H
      have hnb19:=NB359_360.out
      have hnc19:=NB360_359.out
      have hcz20_0:w6.cell? ⟨gb359,0,none⟩ = some (.slice A0_0 l0_0.length c0_0):=(blk_cell BK359.out 0).trans rfl
      have hcz20_1:w6.cell? ⟨gb359,1,none⟩ = some (.slice A0_1 l0_1.length c0_1):=(blk_cell BK359.out 1).trans rfl
      have hfz20_0:=blk_frozen BK359.out 0
      have hfz20_1:=blk_frozen BK359.out 1
      go_wp2_with (first|((with_reducible refine gate_callee (f:=11) rfl ?_);refine goesL_ (some 10) rfl rfl Try.func11 (by kernel_rfl) rfl #[.agg #[.slice A0_0 l0_0.length c0_0,.slice A0_1 l0_1.length c0_1]] rfl Ya ?_;(with_reducible refine (impl_GoodDisk.calls k (fun k_=>((((P0_0_ k_ ∨ P0_1_ k_) ∨ w.heap.size ≤ k_) ∧ k_ ≠ gb359) ∧ k_ ≠ gb360)) _ _ l0_0 (fun k_=>((((P0_0_ k_ ∨ P0_1_ k_) ∨ w.heap.size ≤ k_) ∧ k_ ≠ gb359) ∧ k_ ≠ gb360)) _ _ l0_1 true _ ?side1 ?side2 A7.out).mono ?_);(case side1=>exact HO0_0.out);(case side2=>exact HO0_1.out);rintro e w21 ⟨rfl,hb⟩;refine ⟨_,rfl,?_⟩;replace HO0_0:=Aside0.mk (Kd.V_below (rV HO0_0) hb);replace HO0_1:=Aside0.mk (Kd.V_below (rV HO0_1) hb);replace BK359:=Aside0.mk (blk_below (bB BK359) hb);replace BK360:=Aside0.mk (blk_below (bB BK360) hb);replace HB:=Aside0.mk (below_step bH hb);(try clear hb);(try clear hb2);(try clear hk);(try clear hi);have hcz22_0:w21.cell? ⟨gb359,0,none⟩ = some (.slice A0_0 l0_0.length c0_0):=(blk_cell BK359.out 0).trans rfl;have hcz22_1:w21.cell? ⟨gb359,1,none⟩ = some (.slice A0_1 l0_1.length c0_1):=(blk_cell BK359.out 1).trans rfl;have hfz22_0:=blk_frozen BK359.out 0;have hfz22_1:=blk_frozen BK359.out 1))
      go_meet
      case rel=>exact ⟨_,(true),Yh,H',⟨YQ⟩,⟨YD⟩,⟨YC⟩,⟨YS⟩,⟨YR⟩,⟨bH⟩⟩
     ·rw [if_neg c18] at H
      have c18b0:decide (a2 < 0) = false:=decide_eq_false c18
      clear c18
      have H':=Aside0.mk H
      clear H
      have hnb23:=NB359_360.out
      have hnc23:=NB360_359.out
      have hcz24_0:w6.cell? ⟨gb359,0,none⟩ = some (.slice A0_0 l0_0.length c0_0):=(blk_cell BK359.out 0).trans rfl
      have hcz24_1:w6.cell? ⟨gb359,1,none⟩ = some (.slice A0_1 l0_1.length c0_1):=(blk_cell BK359.out 1).trans rfl
      have hfz24_0:=blk_frozen BK359.out 0
      have hfz24_1:=blk_frozen BK359.out 1
      go_wp2_with (first|((with_reducible refine gate_callee (f:=11) rfl ?_);refine goesL_ (some 10) rfl rfl Try.func11 (by kernel_rfl) rfl #[.agg #[.slice A0_0 l0_0.length c0_0,.slice A0_1 l0_1.length c0_1]] rfl Ya ?_;(with_reducible refine (impl_GoodDisk.calls k (fun k_=>((((P0_0_ k_ ∨ P0_1_ k_) ∨ w.heap.size ≤ k_) ∧ k_ ≠ gb359) ∧ k_ ≠ gb360)) _ _ l0_0 (fun k_=>((((P0_0_ k_ ∨ P0_1_ k_) ∨ w.heap.size ≤ k_) ∧ k_ ≠ gb359) ∧ k_ ≠ gb360)) _ _ l0_1 true _ ?side1 ?side2 A7.out).mono ?_);(case side1=>exact HO0_0.out);(case side2=>exact HO0_1.out);rintro e w25 ⟨rfl,hb⟩;refine ⟨_,rfl,?_⟩;replace HO0_0:=Aside0.mk (Kd.V_below (rV HO0_0) hb);replace HO0_1:=Aside0.mk (Kd.V_below (rV HO0_1) hb);replace BK359:=Aside0.mk (blk_below (bB BK359) hb);replace BK360:=Aside0.mk (blk_below (bB BK360) hb);replace HB:=Aside0.mk (below_step bH hb);(try clear hb);(try clear hb2);(try clear hk);(try clear hi);have hcz26_0:w25.cell? ⟨gb359,0,none⟩ = some (.slice A0_0 l0_0.length c0_0):=(blk_cell BK359.out 0).trans rfl;have hcz26_1:w25.cell? ⟨gb359,1,none⟩ = some (.slice A0_1 l0_1.length c0_1):=(blk_cell BK359.out 1).trans rfl;have hfz26_0:=blk_frozen BK359.out 0;have hfz26_1:=blk_frozen BK359.out 1))
      go_meet
      case rel=>exact ⟨_,(decide (a2 > 16)),Yh,H',⟨YQ⟩,⟨YD⟩,⟨YC⟩,⟨YS⟩,⟨YR⟩,⟨bH⟩⟩
  ·replace c8:=Bool.eq_false_iff.mpr c8
   subst c8
   have H1:(impl_CrashDisk.j0 k a1 a2 true l0_0 l0_1) = some (r1,r2,r3):=by rw [if_neg (show ¬ (false = true) by decide)] at H;exact H
   clear H
   have H:=H1
   clear H1
   have H':=Aside0.mk H
   clear H
   have hnb27:=NB359_360.out
   have hnc27:=NB360_359.out
   have hcz28_0:w6.cell? ⟨gb359,0,none⟩ = some (.slice A0_0 l0_0.length c0_0):=(blk_cell BK359.out 0).trans rfl
   have hcz28_1:w6.cell? ⟨gb359,1,none⟩ = some (.slice A0_1 l0_1.length c0_1):=(blk_cell BK359.out 1).trans rfl
   have hfz28_0:=blk_frozen BK359.out 0
   have hfz28_1:=blk_frozen BK359.out 1
   go_wp2_with (first|((with_reducible refine gate_callee (f:=11) rfl ?_);refine goesL_ (some 10) rfl rfl Try.func11 (by kernel_rfl) rfl #[.agg #[.slice A0_0 l0_0.length c0_0,.slice A0_1 l0_1.length c0_1]] rfl Ya ?_;(with_reducible refine (impl_GoodDisk.calls k (fun k_=>((((P0_0_ k_ ∨ P0_1_ k_) ∨ w.heap.size ≤ k_) ∧ k_ ≠ gb359) ∧ k_ ≠ gb360)) _ _ l0_0 (fun k_=>((((P0_0_ k_ ∨ P0_1_ k_) ∨ w.heap.size ≤ k_) ∧ k_ ≠ gb359) ∧ k_ ≠ gb360)) _ _ l0_1 false _ ?side1 ?side2 A7.out).mono ?_);(case side1=>exact HO0_0.out);(case side2=>exact HO0_1.out);rintro e w29 ⟨rfl,hb⟩;refine ⟨_,rfl,?_⟩;replace HO0_0:=Aside0.mk (Kd.V_below (rV HO0_0) hb);replace HO0_1:=Aside0.mk (Kd.V_below (rV HO0_1) hb);replace BK359:=Aside0.mk (blk_below (bB BK359) hb);replace BK360:=Aside0.mk (blk_below (bB BK360) hb);replace HB:=Aside0.mk (below_step bH hb);(try clear hb);(try clear hb2);(try clear hk);(try clear hi)))
   go_meet
   case rel=>exact ⟨_,(true),Yh,H',⟨YQ⟩,⟨YD⟩,⟨YC⟩,⟨YS⟩,⟨YR⟩,⟨bH⟩⟩
 case rest =>
  clear HC4
  try clear c1
  try clear c2
  try clear p2
  try clear c8
  try clear c9
  try clear c9b0
  try clear c10
  try clear c11
  try clear c13
  try clear c13b0
  try clear c14
  try clear c18
  try clear c18b0
  try clear c19
  try clear c23
  try clear c27
  try clear hcz11_0
  try clear hcz11_1
  try clear hcz15_0
  try clear hcz15_1
  try clear hcz17_0
  try clear hcz17_1
  try clear hcz20_0
  try clear hcz20_1
  try clear hcz22_0
  try clear hcz22_1
  try clear hcz24_0
  try clear hcz24_1
  try clear hcz26_0
  try clear hcz26_1
  try clear hcz28_0
  try clear hcz28_1
  try clear hfz11_0
  try clear hfz11_1
  try clear hfz15_0
  try clear hfz15_1
  try clear hfz17_0
  try clear hfz17_1
  try clear hfz20_0
  try clear hfz20_1
  try clear hfz22_0
  try clear hfz22_1
  try clear hfz24_0
  try clear hfz24_1
  try clear hfz26_0
  try clear hfz26_1
  try clear hfz28_0
  try clear hfz28_1
  obtain ⟨kq,x30_3,rfl,HA,HJ3,HO_360000,HO_360001,BK359,BK360,HB⟩:=hcut
  cases kq with
  | zero=>exact absurd HA.out (by simp [impl_CrashDisk.j0])
  | succ kj3 =>
   have H:=HA.out
   clear HA
   simp only [impl_CrashDisk.j0] at H
   by_cases c30:x30_3 = true
   ·subst c30
    have H1:(some (([]:List ByteArray),([]:List ByteArray),false)) = some (r1,r2,r3):=by rw [if_pos rfl] at H;exact H
    clear H
    have H:=H1
    clear H1
    simp only [Option.some.injEq,Prod.mk.injEq] at H
    obtain ⟨rfl,rfl,rfl⟩:=H
    have hnb31:=NB360_359.out
    have hnc31:=NB359_360.out
    have hcz32_0:wc.cell? ⟨gb360,0,none⟩ = some (.slice none 0 0):=(blk_cell BK360.out 0).trans rfl
    have hcz32_1:wc.cell? ⟨gb360,1,none⟩ = some (.slice none 0 0):=(blk_cell BK360.out 1).trans rfl
    have hfz32_0:=blk_frozen BK360.out 0
    have hfz32_1:=blk_frozen BK360.out 1
    go_wp2
    refine bodyPost_ret (results_ct rfl _ _ gb360 26 #[.slice none 0 0,.slice none 0 0] (0,0) _ rfl (by (with_reducible repeat (first|refine blk_drewN ?_ _|refine blk_drew ?_|refine blk_alloc ?_ _));refine blk_put (cs:=#[.slice none 0 0,.slice none 0 0]) ?_ 1 _ rfl;(with_reducible repeat (first|refine blk_drewN ?_ _|refine blk_drew ?_|refine blk_alloc ?_ _));refine blk_put (cs:=#[.slice none 0 0,.slice none 0 0]) ?_ 0 _ rfl;(with_reducible repeat (first|refine blk_drewN ?_ _|refine blk_drew ?_|refine blk_alloc ?_ _));exact BK360.out) Try.underlying26 rfl (by kernel_rfl)) rfl ?_
    exact ⟨_,_,Yb,Yd,Yd,bH⟩
   ·replace c30:=Bool.eq_false_iff.mpr c30
    subst c30
    have H1:(if 0 ≤ a1 then (if a1 ≤ (l0_1.length:Int) then ((slices_Concat_string_string.f kj3 (([l0_0,(l0_1.take (a1:Int).toNat)]:List (List ByteArray)))).bind fun t370=>(if a2 > 0 then (if a1 < (l0_1.length:Int) then (if 0 ≤ a2 then (if a2 ≤ ((rdOf ByteArray.empty l0_1 a1).size:Int) then ((strings_Repeat.f (⟨#[0]⟩:ByteArray) (wrap64 (16 - a2))).bind fun t375=>(if ((rdOf ByteArray.empty l0_1 a1).extract 0 (a2:Int).toNat).size + t375.size ≤ 9223372036854775807 then (if t370.length < 8796093022208 then (some ((t370 ++ [((rdOf ByteArray.empty l0_1 a1).extract 0 (a2:Int).toNat) ++ t375]),([]:List ByteArray),true)) else (none)) else (none))) else (none)) else (none)) else (some (t370,([]:List ByteArray),true))) else (some (t370,([]:List ByteArray),true)))) else (none)) else (none)) = some (r1,r2,r3):=by rw [if_neg (show ¬ (false = true) by decide)] at H;exact H
    clear H
    have H:=H1
    clear H1
    by_cases c33:0 ≤ a1
    ·rw [if_pos c33] at H
     have c33b0:=eq_true c33
     have c33b1:=decide_eq_true c33
     clear c33
     by_cases c34:a1 ≤ (l0_1.length:Int)
     ·rw [if_pos c34] at H
      have c34b0:=eq_true c34
      have c34b1:=decide_eq_true c34
      clear c34
      obtain ⟨y362,hy362⟩:∃ y_:List ByteArray,y_ = (l0_1.take (a1:Int).toNat):=⟨_,rfl⟩
      replace H:((slices_Concat_string_string.f kj3 (([l0_0,y362]:List (List ByteArray)))).bind fun t370=>(if a2 > 0 then (if a1 < (l0_1.length:Int) then (if 0 ≤ a2 then (if a2 ≤ ((rdOf ByteArray.empty l0_1 a1).size:Int) then ((strings_Repeat.f (⟨#[0]⟩:ByteArray) (wrap64 (16 - a2))).bind fun t375=>(if ((rdOf ByteArray.empty l0_1 a1).extract 0 (a2:Int).toNat).size + t375.size ≤ 9223372036854775807 then (if t370.length < 8796093022208 then (some ((t370 ++ [((rdOf ByteArray.empty l0_1 a1).extract 0 (a2:Int).toNat) ++ t375]),([]:List ByteArray),true)) else (none)) else (none))) else (none)) else (none)) else (some (t370,([]:List ByteArray),true))) else (some (t370,([]:List ByteArray),true)))) = some (r1,r2,r3):=by first|(rw [hy362];with_reducible exact H)|(have H2_:=(Option.bind_some _ _).symm.trans H;rw [hy362];with_reducible exact H2_)|(have H2_:=(Option.bind_some _ _).symm.trans H;with_reducible exact H2_)|with_reducible exact H|(rw [hy362];exact H)|exact H
      have Ny362:=Aside0.mk hy362
      clear hy362
      obtain ⟨y367,hy367⟩:∃ y_:List (List ByteArray),y_ = (([l0_0,y362]:List (List ByteArray))):=⟨_,rfl⟩
      replace H:((slices_Concat_string_string.f kj3 y367).bind fun t370=>(if a2 > 0 then (if a1 < (l0_1.length:Int) then (if 0 ≤ a2 then (if a2 ≤ ((rdOf ByteArray.empty l0_1 a1).size:Int) then ((strings_Repeat.f (⟨#[0]⟩:ByteArray) (wrap64 (16 - a2))).bind fun t375=>(if ((rdOf ByteArray.empty l0_1 a1).extract 0 (a2:Int).toNat).size + t375.size ≤ 9223372036854775807 then (if t370.length < 8796093022208 then (some ((t370 ++ [((rdOf ByteArray.empty l0_1 a1).extract 0 (a2:Int).toNat) ++ t375]),([]:List ByteArray),true)) else (none)) else (none))) else (none)) else (none)) else (some (t370,([]:List ByteArray),true))) else (some (t370,([]:List ByteArray),true)))) = some (r1,r2,r3):=by first|(rw [hy367];with_reducible exact H)|(have H2_:=(Option.bind_some _ _).symm.trans H;rw [hy367];with_reducible exact H2_)|(have H2_:=(Option.bind_some _ _).symm.trans H;with_reducible exact H2_)|with_reducible exact H|(rw [hy367];exact H)|exact H
      have Ny367:=Aside0.mk hy367
      clear hy367
      replace H:=Option.bind_eq_some_iff.mp H
      obtain ⟨t370,A350,H⟩:=H
      replace H:(if a2 > 0 then (if a1 < (l0_1.length:Int) then (if 0 ≤ a2 then (if a2 ≤ ((rdOf ByteArray.empty l0_1 a1).size:Int) then ((strings_Repeat.f (⟨#[0]⟩:ByteArray) (wrap64 (16 - a2))).bind fun t375=>(if ((rdOf ByteArray.empty l0_1 a1).extract 0 (a2:Int).toNat).size + t375.size ≤ 9223372036854775807 then (if t370.length < 8796093022208 then (some ((t370 ++ [((rdOf ByteArray.empty l0_1 a1).extract 0 (a2:Int).toNat) ++ t375]),([]:List ByteArray),true)) else (none)) else (none))) else (none)) else (none)) else (some (t370,([]:List ByteArray),true))) else (some (t370,([]:List ByteArray),true))) = some (r1,r2,r3):=H
      have A35:=Aside0.mk A350
      clear A350
      by_cases c36:a2 > 0
      ·rw [if_pos c36] at H
       have c36b0:decide (0 < a2) = true:=decide_eq_true c36
       clear c36
       by_cases c37:a1 < (l0_1.length:Int)
       ·rw [if_pos c37] at H
        have c37b0:=decide_eq_true c37
        clear c37
        by_cases c38:0 ≤ a2
        ·rw [if_pos c38] at H
         have c38b0:=eq_true c38
         have c38b1:=decide_eq_true c38
         clear c38
         by_cases c39:a2 ≤ ((rdOf ByteArray.empty l0_1 a1).size:Int)
         ·rw [if_pos c39] at H
          have c39b0:=eq_true c39
          have c39b1:=decide_eq_true c39
          clear c39
          replace H:=Option.bind_eq_some_iff.mp H
          obtain ⟨t375,A400,H⟩:=H
          replace H:(if ((rdOf ByteArray.empty l0_1 a1).extract 0 (a2:Int).toNat).size + t375.size ≤ 9223372036854775807 then (if t370.length < 8796093022208 then (some ((t370 ++ [((rdOf ByteArray.empty l0_1 a1).extract 0 (a2:Int).toNat) ++ t375]),([]:List ByteArray),true)) else (none)) else (none)) = some (r1,r2,r3):=H
          have A40:=Aside0.mk A400
          clear A400
          by_cases c41:((rdOf ByteArray.empty l0_1 a1).extract 0 (a2:Int).toNat).size + t375.size ≤ 9223372036854775807
          ·rw [if_pos c41] at H
           have c41b0:=eq_true c41
           have c41b1:=decide_eq_true c41
           try have c41b2:(9223372036854775807 < ((rdOf ByteArray.empty l0_1 a1).extract 0 (a2:Int).toNat).size + t375.size) = False:=eq_false (Nat.not_lt.2 c41)
           try (have e_:((rdOf ByteArray.empty l0_1 a1).extract 0 (a2:Int).toNat).size = (a2:Int).toNat:=(by simp only [ByteArray.size_extract];have h_:a2 ≤ ((rdOf ByteArray.empty l0_1 a1).size:Int):=of_decide_eq_true (by assumption);omega);have c41b3:=c41b2;rw [e_] at c41b3)
           by_cases c42:t370.length < 8796093022208
           ·rw [if_pos c42] at H
            have LMc42:=Aside0.mk c42
            clear c42
            obtain ⟨y376,hy376⟩:∃ y_:List ByteArray,y_ = (t370 ++ [((rdOf ByteArray.empty l0_1 a1).extract 0 (a2:Int).toNat) ++ t375]):=⟨_,rfl⟩
            replace H:(some (y376,([]:List ByteArray),true)) = some (r1,r2,r3):=by first|(rw [hy376];with_reducible exact H)|(have H2_:=(Option.bind_some _ _).symm.trans H;rw [hy376];with_reducible exact H2_)|(have H2_:=(Option.bind_some _ _).symm.trans H;with_reducible exact H2_)|with_reducible exact H|(rw [hy376];exact H)|exact H
            have Ny376:=Aside0.mk hy376
            clear hy376
            simp only [Option.some.injEq,Prod.mk.injEq] at H
            obtain ⟨rfl,rfl,rfl⟩:=H
            try go_wp2
            replace HO_360000:=Aside0.mk (Kd.V_drew HO_360000.out);replace HO_360001:=Aside0.mk (Kd.V_drew HO_360001.out);replace BK359:=Aside0.mk (blk_drew BK359.out);replace BK360:=Aside0.mk (blk_drew BK360.out);replace HB:=Aside0.mk (below_drew1 HB.out)
            have q44:(a1:Int) ≤ ((l0_1.length:Int):Int):=oD
            obtain ⟨i044,hi044,_,hsz44,_⟩:=info_parts info9
            have hroom44:l0_1.length ≤ c0_1:=(Kd.V_reads' HO_360001.out).2.1
            have hC44:Kd.F Kd.string _ _ A0_1 l0_1.length l0_1:=(Kd.V_at (base:=w.heap.size) HO_360001.out).2.2
            have hcut44:=cut_to (P:=Try.prog) 24 9 .i64 Try.underlying24 hi044 A0_1 l0_1.length c0_1 a1 (oD) q44 hroom44
            have hr44:=Kd.F_take (m:=(a1:Int).toNat) hC44 (by omega)
            have hy44:y362.length = (a1:Int).toNat:=(by rw [Ny362.out,List.length_take];omega)
            rw [← Ny362.out] at hr44
            rw [← hy44] at hcut44
            have HO366:=Aside0.mk (show Kd.V Kd.string 9 _ w.heap.size _ (.slice A0_1 y362.length c0_1) y362 from Kd.V_mk (by omega) hr44)
            have HC366:=Aside0.mk (show y362.length ≤ c0_1 from by omega)
            clear hr44 hC44 hroom44 hi044 hsz44
            have KY44:=Aside0.mk hy44
            clear hy44
            replace q44:=eq_true q44
            refine start_ (n:=11) (S:=fun w'=>w'.cell? ⟨gb359,0,none⟩ = some (.slice A0_0 l0_0.length c0_0) ∧ w'.cell? ⟨gb359,1,none⟩ = some (.slice A0_1 l0_1.length c0_1)) (ds:=[]) #[false,false,false,false,false,false,false,false,false,false,false] (by kernel_rfl) rfl rfl ⟨(blk_cell BK359.out 0).trans rfl,(blk_cell BK359.out 1).trans rfl⟩ (fun hHeld=>?_);refine with_tabW impl_CrashDisk.tab3 impl_CrashDisk.bits3 (fun HT_ HW_=>?_)
            generalize wc.drew = w43 at HO_360000 HO_360001 BK359 BK360 HB HO366 hHeld ⊢
            refine pU (i:=0) (N:=some 32) #[true,false,false,false,false,false,false,false,false,false,false] (any_of HT_.out (by kernel_rfl)) ?_
            refine pU (i:=2) (N:=some 34) #[true,false,true,false,false,false,false,false,false,false,false] (any_of HT_.out (by kernel_rfl)) ?_
            refine pU (i:=4) (N:=some 36) #[true,false,true,false,true,false,false,false,false,false,false] (any_of HT_.out (by kernel_rfl)) ?_
            refine take_ (i:=1) (N:=some 33) (v:=?_) (a':=?_) #[true,true,true,false,true,false,false,false,false,false,false] rfl rfl (take_ofW HT_.out HW_.out (by kernel_rfl)) (fun _ _ _ h=>h) (Or.inl ⟨by rfl,?_⟩) hHeld ?_ ?_
            rotate_left
            ·rintro w' ⟨s0,s1⟩
             go_simp
             with_reducible rfl
            rotate_left
            ·simp only [Act.put,List.setIfInBounds_toArray,List.set_cons_zero,List.set_cons_succ,i64_w,i32_w]
             rfl
            refine take_ (i:=3) (N:=some 35) (v:=?_) (a':=?_) #[true,true,true,true,true,false,false,false,false,false,false] rfl rfl (take_ofW HT_.out HW_.out (by kernel_rfl)) (fun _ _ _ h=>h) (Or.inl ⟨by rfl,?_⟩) hHeld ?_ ?_
            rotate_left
            ·rintro w' ⟨s0,s1⟩
             go_simp
             with_reducible rfl
            rotate_left
            ·simp only [Act.put,List.setIfInBounds_toArray,List.set_cons_zero,List.set_cons_succ,i64_w,i32_w]
             rfl
            refine pU (i:=5) (N:=some 37) #[true,true,true,true,true,true,false,false,false,false,false] (any_of HT_.out (by kernel_rfl)) ?_
            refine join_ (σ:=Value × Value × Nat) 1 #[true,true,true,true,true,true,true,true,true,true,false] (fun s_=>[(38,s_.1),(39,s_.2.1),(8,.pointer (some ⟨s_.2.2,0,none⟩)),(40,.agg #[s_.2.1,.slice none 0 0])]) (fun s_ w'=>(w'.cell? ⟨gb359,0,none⟩ = some (.slice A0_0 l0_0.length c0_0) ∧ w'.cell? ⟨gb359,1,none⟩ = some (.slice A0_1 l0_1.length c0_1)) ∧ (Kd.V Kd.string 9 w' w.heap.size (fun k_=>((P0_0_ k_ ∨ P0_1_ k_) ∨ w.heap.size ≤ k_) ∧ some k_ ≠ (s_.1:Value).ownBlock ∧ some k_ ≠ (s_.2.1:Value).ownBlock ∧ k_ ≠ gb359 ∧ k_ ≠ gb360 ∧ k_ ≠ s_.2.2) (.slice A0_1 y362.length c0_1) y362) ∧ (Kd.N (Kd.slice 9 Kd.string) 24 w' w.heap.size (fun k_=>((P0_0_ k_ ∨ P0_1_ k_) ∨ w.heap.size ≤ k_) ∧ some k_ ≠ (s_.2.1:Value).ownBlock ∧ k_ ≠ gb359 ∧ k_ ≠ gb360 ∧ k_ ≠ s_.2.2) s_.1 y367) ∧ (Kd.R Kd.string 9 w' w.heap.size (fun k_=>(w.heap.size ≤ k_)) s_.2.1 t370) ∧ (Kd.V Kd.string 9 w' w.heap.size (fun k_=>((P0_0_ k_ ∨ P0_1_ k_) ∨ w.heap.size ≤ k_) ∧ some k_ ≠ (s_.1:Value).ownBlock ∧ some k_ ≠ (s_.2.1:Value).ownBlock ∧ k_ ≠ gb359 ∧ k_ ≠ gb360 ∧ k_ ≠ s_.2.2) (.slice A0_0 l0_0.length c0_0) l0_0) ∧ (Kd.V Kd.string 9 w' w.heap.size (fun k_=>((P0_0_ k_ ∨ P0_1_ k_) ∨ w.heap.size ≤ k_) ∧ some k_ ≠ (s_.1:Value).ownBlock ∧ some k_ ≠ (s_.2.1:Value).ownBlock ∧ k_ ≠ gb359 ∧ k_ ≠ gb360 ∧ k_ ≠ s_.2.2) (.slice A0_1 l0_1.length c0_1) l0_1) ∧ (w'.heap[gb359]? = some (.cells #[.slice A0_0 l0_0.length c0_0,.slice A0_1 l0_1.length c0_1] 26 (0,0))) ∧ (w'.heap[gb360]? = some (.cells #[.slice none 0 0,.slice none 0 0] 26 (0,0))) ∧ (w'.heap[s_.2.2]? = some (.cells #[.slice none 0 0,.slice none 0 0] 26 (0,0))) ∧ (w.heap.size ≤ s_.2.2) ∧ (w.heap.size ≤ s_.2.2) ∧ (gb359 ≠ s_.2.2) ∧ (s_.2.2 ≠ gb359) ∧ (gb360 ≠ s_.2.2) ∧ (s_.2.2 ≠ gb360) ∧ (Below w.heap.size w w')) ?_ ?_
            rotate_left
            ·intro hCont
             refine two_ (i:=6) (j:=9) (Ni:=some 38) (Nj:=some 8) #[true,true,true,true,true,true,true,false,false,false,false] #[true,true,true,true,true,true,false,false,false,true,false] rfl rfl rfl rfl (two_of HT_.out (by kernel_rfl)) (by decide) (by decide) (fun K hK=>?_) (fun K hK=>?_)
             ·skip
              refine Kd.N_lit_step (Kd.slice 9 Kd.string) _ 24 ?hg (N':=38) ?hd (xs:=([l0_0,y362]:List (List ByteArray))) (inner:=[.slice A0_0 l0_0.length c0_0,.slice A0_1 y362.length c0_1]) (ok:=(fun k_=>((P0_0_ k_ ∨ P0_1_ k_) ∨ w.heap.size ≤ k_) ∧ k_ ≠ gb359 ∧ k_ ≠ gb360)) (okp:=(fun k_=>((P0_0_ k_ ∨ P0_1_ k_) ∨ w.heap.size ≤ k_) ∧ k_ ≠ gb359 ∧ k_ ≠ gb360)) ?hr ?hp (fun _ hk=>hk) ((show ∀ k_,w43.heap.size ≤ k_ → (fun k_=>((P0_0_ k_ ∨ P0_1_ k_) ∨ w.heap.size ≤ k_) ∧ k_ ≠ gb359 ∧ k_ ≠ gb360) k_ from fun k_ hk=>⟨(.inr (Nat.le_trans (below_size bH) hk)),Kd.freshB (bB BK359) k_ hk,Kd.freshB (bB BK360) k_ hk⟩) _ (Nat.le_refl _)) (Below.refl _ _) (Nat.le_refl _) (by simp) ?_;(case hd=>rfl);(case hg=>rfl);(case hr=>exact Yg);(case hp=>exact Yk)
              intro v368 w45 ho46 hb hg_ hnew_
              clear hg_ hnew_
              (first|rw [← Ny367.out] at ho46|(simp only [Int.reduceToNat] at ho46;rw [← Ny367.out] at ho46))
              replace HO_360000:=Aside0.mk (Kd.V_elder' (rV HO_360000) (Kd.N_base ho46) hb);replace HO_360001:=Aside0.mk (Kd.V_elder' (rV HO_360001) (Kd.N_base ho46) hb);replace HO366:=Aside0.mk (Kd.V_elder' (rV HO366) (Kd.N_base ho46) hb);have HO369:=Aside0.mk (Kd.N_lower ho46 (below_size bH));replace BK359:=Aside0.mk (blk_below (bB BK359) hb);replace BK360:=Aside0.mk (blk_below (bB BK360) hb);replace HB:=Aside0.mk (below_step bH hb)
              clear hb ho46
              obtain ⟨Ao47,co47,eo47⟩:=Kd.N_slice HO369.out
              (first|subst eo47|(injection eo47 with f1_ f2_ f3_;have f4_:=f1_.symm;have f5_:=f3_.symm;clear f1_ f2_ f3_;subst f4_;subst f5_))
              refine hK.out _ _ ⟨(blk_cell BK359.out 0).trans rfl,(blk_cell BK359.out 1).trans rfl⟩ (fun hHeld=>?_)
              clear hK K
              refine nM (N:=some 38) ?_
              refine two_ (i:=7) (j:=9) (Ni:=some 39) (Nj:=some 8) #[true,true,true,true,true,true,true,true,false,false,false] #[true,true,true,true,true,true,true,false,false,true,false] rfl rfl rfl rfl (two_of HT_.out (by kernel_rfl)) (by decide) (by decide) (fun K hK=>?_) (fun K hK=>?_)
              ·skip
               refine goes_ Try.func44 (by kernel_rfl) rfl #[.slice Ao47 y367.length co47] (by rfl) rfl rfl Ya ?_
               with_reducible refine (slices_Concat_string_string.calls kj3 _ _ y367 t370 _ ?side1 ?side2 A35.out).mono ?_
               (case side1=>repeat (first|exact (Kd.N_reads' HO369.out).2.2|(with_reducible refine Kd.C_alloc ?_ _)|(with_reducible refine Kd.C_drewN ?_ _)|(with_reducible refine Kd.C_drew ?_)))
               (case side2=>exact ZI)
               rintro e w48 ⟨v371,rfl,ho0,hb⟩
               refine ⟨_,rfl,?_⟩
               replace HO_360000:=Aside0.mk (Kd.V_elder' (rV HO_360000) (Kd.R_base ho0) hb);replace HO_360001:=Aside0.mk (Kd.V_elder' (rV HO_360001) (Kd.R_base ho0) hb);replace HO366:=Aside0.mk (Kd.V_elder' (rV HO366) (Kd.R_base ho0) hb);replace HO369:=Aside0.mk (Kd.N_elder' (rN HO369) (Kd.R_base ho0) hb);have HO372:=Aside0.mk (Kd.R_lower (Kd.R_newM (M:=fun k_=>(w.heap.size ≤ k_)) ho0 (below_size bH) (fun k_ h_=>h_)) (below_size bH));replace BK359:=Aside0.mk (blk_below (bB BK359) hb);replace BK360:=Aside0.mk (blk_below (bB BK360) hb);replace HB:=Aside0.mk (below_step bH hb)
               (try clear hb)
               (try clear hb2)
               (try clear hk)
               (try clear hi)
               (try clear ho0)
               obtain ⟨Ao49,co49,eo49⟩:=Kd.R_slice HO372.out
               (first|subst eo49|(injection eo49 with f1_ f2_ f3_;have f4_:=f1_.symm;have f5_:=f3_.symm;clear f1_ f2_ f3_;subst f4_;subst f5_))
               refine hK.out _ _ ⟨(blk_cell BK359.out 0).trans rfl,(blk_cell BK359.out 1).trans rfl⟩ (fun hHeld=>?_)
               clear hK K
               refine nM (N:=some 39) ?_
               refine pU (i:=8) (N:=some 40) #[true,true,true,true,true,true,true,true,true,false,false] (any_of HT_.out (by kernel_rfl)) ?_
               refine one_ (i:=9) (N:=some 8) #[true,true,true,true,true,true,true,true,true,true,false] rfl rfl (one_of HT_.out (by kernel_rfl)) (by decide) (fun K hK=>?_)
               refine box_step ?hg (N:=8) ?hd (cs:=#[.slice none 0 0,.slice none 0 0]) (t:=26) ?hr ?_;(case hd=>rfl);(case hg=>rfl);(case hr=>exact Yg)
               intro gb373 hg w50 hbox hb
               replace HO_360000:=Aside0.mk (Kd.V_below (Kd.V_elderB (rV HO_360000) gb373 (Nat.le_of_eq hg.symm)) hb);replace HO_360001:=Aside0.mk (Kd.V_below (Kd.V_elderB (rV HO_360001) gb373 (Nat.le_of_eq hg.symm)) hb);replace HO366:=Aside0.mk (Kd.V_below (Kd.V_elderB (rV HO366) gb373 (Nat.le_of_eq hg.symm)) hb);replace HO369:=Aside0.mk (Kd.N_below (Kd.N_elderB (rN HO369) gb373 (Nat.le_of_eq hg.symm)) hb);replace HO372:=Aside0.mk (Kd.R_below (rR HO372) hb);have BK373:=Aside0.mk (hbox);have GW373:=Aside0.mk ((hZ:w.heap.size ≤ gb373));have GE373:=Aside0.mk ((hZ:w.heap.size ≤ gb373));replace HB:=Aside0.mk (below_step bH hb);have NB359_373:=Aside0.mk ((nL BK359:gb359 ≠ gb373));have NB373_359:=Aside0.mk ((nG BK359:gb373 ≠ gb359));replace BK359:=Aside0.mk (blk_below (bB BK359) hb);have NB360_373:=Aside0.mk ((nL BK360:gb360 ≠ gb373));have NB373_360:=Aside0.mk ((nG BK360:gb373 ≠ gb360));replace BK360:=Aside0.mk (blk_below (bB BK360) hb)
               clear hb hbox hg
               refine hK.out _ _ ⟨(blk_cell BK359.out 0).trans rfl,(blk_cell BK359.out 1).trans rfl⟩ (fun hHeld=>?_)
               clear hK K
               refine nM (N:=some 8) ?_
               exact norm_ Yi (hCont (.slice Ao47 y367.length co47,.slice Ao49 t370.length co49,gb373) _ ⟨hHeld,Zd,Zn,Yq,Za,YX,(bB BK359),(bB BK360),(bB BK373),GW373.out,GE373.out,NB359_373.out,NB373_359.out,NB360_373.out,NB373_360.out,bH⟩)
              ·skip
               refine box_step ?hg (N:=8) ?hd (cs:=#[.slice none 0 0,.slice none 0 0]) (t:=26) ?hr ?_;(case hd=>rfl);(case hg=>rfl);(case hr=>exact Yg)
               intro gb373 hg w47 hbox hb
               replace HO_360000:=Aside0.mk (Kd.V_below (Kd.V_elderB (rV HO_360000) gb373 (Nat.le_of_eq hg.symm)) hb);replace HO_360001:=Aside0.mk (Kd.V_below (Kd.V_elderB (rV HO_360001) gb373 (Nat.le_of_eq hg.symm)) hb);replace HO366:=Aside0.mk (Kd.V_below (Kd.V_elderB (rV HO366) gb373 (Nat.le_of_eq hg.symm)) hb);replace HO369:=Aside0.mk (Kd.N_below (Kd.N_elderB (rN HO369) gb373 (Nat.le_of_eq hg.symm)) hb);have BK373:=Aside0.mk (hbox);have GW373:=Aside0.mk ((hZ:w.heap.size ≤ gb373));have GE373:=Aside0.mk ((hZ:w.heap.size ≤ gb373));replace HB:=Aside0.mk (below_step bH hb);have NB359_373:=Aside0.mk ((nL BK359:gb359 ≠ gb373));have NB373_359:=Aside0.mk ((nG BK359:gb373 ≠ gb359));replace BK359:=Aside0.mk (blk_below (bB BK359) hb);have NB360_373:=Aside0.mk ((nL BK360:gb360 ≠ gb373));have NB373_360:=Aside0.mk ((nG BK360:gb373 ≠ gb360));replace BK360:=Aside0.mk (blk_below (bB BK360) hb)
               clear hb hbox hg
               obtain ⟨Ao48,co48,eo48⟩:=Kd.N_slice HO369.out
               (first|subst eo48|(injection eo48 with f1_ f2_ f3_;have f4_:=f1_.symm;have f5_:=f3_.symm;clear f1_ f2_ f3_;subst f4_;subst f5_))
               refine hK.out _ _ ⟨(blk_cell BK359.out 0).trans rfl,(blk_cell BK359.out 1).trans rfl⟩ (fun hHeld=>?_)
               clear hK K
               refine nM (N:=some 8) ?_
               refine one_ (i:=7) (N:=some 39) #[true,true,true,true,true,true,true,true,false,true,false] rfl rfl (one_of HT_.out (by kernel_rfl)) (by decide) (fun K hK=>?_)
               refine goes_ Try.func44 (by kernel_rfl) rfl #[.slice Ao48 y367.length co48] (by rfl) rfl rfl Ya ?_
               with_reducible refine (slices_Concat_string_string.calls kj3 _ _ y367 t370 _ ?side1 ?side2 A35.out).mono ?_
               (case side1=>repeat (first|exact (Kd.N_reads' HO369.out).2.2|(with_reducible refine Kd.C_alloc ?_ _)|(with_reducible refine Kd.C_drewN ?_ _)|(with_reducible refine Kd.C_drew ?_)))
               (case side2=>exact ZI)
               rintro e w49 ⟨v371,rfl,ho0,hb⟩
               refine ⟨_,rfl,?_⟩
               replace HO_360000:=Aside0.mk (Kd.V_elder' (rV HO_360000) (Kd.R_base ho0) hb);replace HO_360001:=Aside0.mk (Kd.V_elder' (rV HO_360001) (Kd.R_base ho0) hb);replace HO366:=Aside0.mk (Kd.V_elder' (rV HO366) (Kd.R_base ho0) hb);replace HO369:=Aside0.mk (Kd.N_elder' (rN HO369) (Kd.R_base ho0) hb);have HO372:=Aside0.mk (Kd.R_lower (Kd.R_newM (M:=fun k_=>(w.heap.size ≤ k_)) ho0 (below_size bH) (fun k_ h_=>h_)) (below_size bH));replace BK359:=Aside0.mk (blk_below (bB BK359) hb);replace BK360:=Aside0.mk (blk_below (bB BK360) hb);replace BK373:=Aside0.mk (blk_below (bB BK373) hb);replace HB:=Aside0.mk (below_step bH hb)
               (try clear hb)
               (try clear hb2)
               (try clear hk)
               (try clear hi)
               (try clear ho0)
               obtain ⟨Ao50,co50,eo50⟩:=Kd.R_slice HO372.out
               (first|subst eo50|(injection eo50 with f1_ f2_ f3_;have f4_:=f1_.symm;have f5_:=f3_.symm;clear f1_ f2_ f3_;subst f4_;subst f5_))
               refine hK.out _ _ ⟨(blk_cell BK359.out 0).trans rfl,(blk_cell BK359.out 1).trans rfl⟩ (fun hHeld=>?_)
               clear hK K
               refine nM (N:=some 39) ?_
               refine pU (i:=8) (N:=some 40) #[true,true,true,true,true,true,true,true,true,true,false] (any_of HT_.out (by kernel_rfl)) ?_
               exact norm_ Yi (hCont (.slice Ao48 y367.length co48,.slice Ao50 t370.length co50,gb373) _ ⟨hHeld,Zc,Zm,Yq,YZ,YW,(bB BK359),(bB BK360),(bB BK373),GW373.out,GE373.out,NB359_373.out,NB373_359.out,NB360_373.out,NB373_360.out,bH⟩)
             ·skip
              refine box_step ?hg (N:=8) ?hd (cs:=#[.slice none 0 0,.slice none 0 0]) (t:=26) ?hr ?_;(case hd=>rfl);(case hg=>rfl);(case hr=>exact Yg)
              intro gb373 hg w45 hbox hb
              replace HO_360000:=Aside0.mk (Kd.V_below (Kd.V_elderB (rV HO_360000) gb373 (Nat.le_of_eq hg.symm)) hb);replace HO_360001:=Aside0.mk (Kd.V_below (Kd.V_elderB (rV HO_360001) gb373 (Nat.le_of_eq hg.symm)) hb);replace HO366:=Aside0.mk (Kd.V_below (Kd.V_elderB (rV HO366) gb373 (Nat.le_of_eq hg.symm)) hb);have BK373:=Aside0.mk (hbox);have GW373:=Aside0.mk ((hZ:w.heap.size ≤ gb373));have GE373:=Aside0.mk ((hZ:w.heap.size ≤ gb373));replace HB:=Aside0.mk (below_step bH hb);have NB359_373:=Aside0.mk ((nL BK359:gb359 ≠ gb373));have NB373_359:=Aside0.mk ((nG BK359:gb373 ≠ gb359));replace BK359:=Aside0.mk (blk_below (bB BK359) hb);have NB360_373:=Aside0.mk ((nL BK360:gb360 ≠ gb373));have NB373_360:=Aside0.mk ((nG BK360:gb373 ≠ gb360));replace BK360:=Aside0.mk (blk_below (bB BK360) hb)
              clear hb hbox hg
              refine hK.out _ _ ⟨(blk_cell BK359.out 0).trans rfl,(blk_cell BK359.out 1).trans rfl⟩ (fun hHeld=>?_)
              clear hK K
              refine nM (N:=some 8) ?_
              refine one_ (i:=6) (N:=some 38) #[true,true,true,true,true,true,true,false,false,true,false] rfl rfl (one_of HT_.out (by kernel_rfl)) (by decide) (fun K hK=>?_)
              refine Kd.N_lit_step (Kd.slice 9 Kd.string) _ 24 ?hg (N':=38) ?hd (xs:=([l0_0,y362]:List (List ByteArray))) (inner:=[.slice A0_0 l0_0.length c0_0,.slice A0_1 y362.length c0_1]) (ok:=(fun k_=>((P0_0_ k_ ∨ P0_1_ k_) ∨ w.heap.size ≤ k_) ∧ k_ ≠ gb359 ∧ k_ ≠ gb360 ∧ k_ ≠ gb373)) (okp:=(fun k_=>((P0_0_ k_ ∨ P0_1_ k_) ∨ w.heap.size ≤ k_) ∧ k_ ≠ gb359 ∧ k_ ≠ gb360 ∧ k_ ≠ gb373)) ?hr ?hp (fun _ hk=>hk) ((show ∀ k_,w45.heap.size ≤ k_ → (fun k_=>((P0_0_ k_ ∨ P0_1_ k_) ∨ w.heap.size ≤ k_) ∧ k_ ≠ gb359 ∧ k_ ≠ gb360 ∧ k_ ≠ gb373) k_ from fun k_ hk=>⟨(.inr (Nat.le_trans (below_size bH) hk)),Kd.freshB (bB BK359) k_ hk,Kd.freshB (bB BK360) k_ hk,Kd.freshB (bB BK373) k_ hk⟩) _ (Nat.le_refl _)) (Below.refl _ _) (Nat.le_refl _) (by simp) ?_;(case hd=>rfl);(case hg=>rfl);(case hr=>exact Yg);(case hp=>exact Yj)
              intro v368 w46 ho47 hb hg_ hnew_
              clear hg_ hnew_
              (first|rw [← Ny367.out] at ho47|(simp only [Int.reduceToNat] at ho47;rw [← Ny367.out] at ho47))
              replace HO_360000:=Aside0.mk (Kd.V_elder' (rV HO_360000) (Kd.N_base ho47) hb);replace HO_360001:=Aside0.mk (Kd.V_elder' (rV HO_360001) (Kd.N_base ho47) hb);replace HO366:=Aside0.mk (Kd.V_elder' (rV HO366) (Kd.N_base ho47) hb);have HO369:=Aside0.mk (Kd.N_lower ho47 (below_size bH));replace BK359:=Aside0.mk (blk_below (bB BK359) hb);replace BK360:=Aside0.mk (blk_below (bB BK360) hb);replace BK373:=Aside0.mk (blk_below (bB BK373) hb);replace HB:=Aside0.mk (below_step bH hb)
              clear hb ho47
              obtain ⟨Ao48,co48,eo48⟩:=Kd.N_slice HO369.out
              (first|subst eo48|(injection eo48 with f1_ f2_ f3_;have f4_:=f1_.symm;have f5_:=f3_.symm;clear f1_ f2_ f3_;subst f4_;subst f5_))
              refine hK.out _ _ ⟨(blk_cell BK359.out 0).trans rfl,(blk_cell BK359.out 1).trans rfl⟩ (fun hHeld=>?_)
              clear hK K
              refine nM (N:=some 38) ?_
              refine one_ (i:=7) (N:=some 39) #[true,true,true,true,true,true,true,true,false,true,false] rfl rfl (one_of HT_.out (by kernel_rfl)) (by decide) (fun K hK=>?_)
              refine goes_ Try.func44 (by kernel_rfl) rfl #[.slice Ao48 y367.length co48] (by rfl) rfl rfl Ya ?_
              with_reducible refine (slices_Concat_string_string.calls kj3 _ _ y367 t370 _ ?side1 ?side2 A35.out).mono ?_
              (case side1=>repeat (first|exact (Kd.N_reads' HO369.out).2.2|(with_reducible refine Kd.C_alloc ?_ _)|(with_reducible refine Kd.C_drewN ?_ _)|(with_reducible refine Kd.C_drew ?_)))
              (case side2=>exact ZI)
              rintro e w49 ⟨v371,rfl,ho0,hb⟩
              refine ⟨_,rfl,?_⟩
              replace HO_360000:=Aside0.mk (Kd.V_elder' (rV HO_360000) (Kd.R_base ho0) hb);replace HO_360001:=Aside0.mk (Kd.V_elder' (rV HO_360001) (Kd.R_base ho0) hb);replace HO366:=Aside0.mk (Kd.V_elder' (rV HO366) (Kd.R_base ho0) hb);replace HO369:=Aside0.mk (Kd.N_elder' (rN HO369) (Kd.R_base ho0) hb);have HO372:=Aside0.mk (Kd.R_lower (Kd.R_newM (M:=fun k_=>(w.heap.size ≤ k_)) ho0 (below_size bH) (fun k_ h_=>h_)) (below_size bH));replace BK359:=Aside0.mk (blk_below (bB BK359) hb);replace BK360:=Aside0.mk (blk_below (bB BK360) hb);replace BK373:=Aside0.mk (blk_below (bB BK373) hb);replace HB:=Aside0.mk (below_step bH hb)
              (try clear hb)
              (try clear hb2)
              (try clear hk)
              (try clear hi)
              (try clear ho0)
              obtain ⟨Ao50,co50,eo50⟩:=Kd.R_slice HO372.out
              (first|subst eo50|(injection eo50 with f1_ f2_ f3_;have f4_:=f1_.symm;have f5_:=f3_.symm;clear f1_ f2_ f3_;subst f4_;subst f5_))
              refine hK.out _ _ ⟨(blk_cell BK359.out 0).trans rfl,(blk_cell BK359.out 1).trans rfl⟩ (fun hHeld=>?_)
              clear hK K
              refine nM (N:=some 39) ?_
              refine pU (i:=8) (N:=some 40) #[true,true,true,true,true,true,true,true,true,true,false] (any_of HT_.out (by kernel_rfl)) ?_
              exact norm_ Yi (hCont (.slice Ao48 y367.length co48,.slice Ao50 t370.length co50,gb373) _ ⟨hHeld,Zb,Zo,Yq,YY,YV,(bB BK359),(bB BK360),(bB BK373),GW373.out,GE373.out,NB359_373.out,NB373_359.out,NB360_373.out,NB373_360.out,bH⟩)
            rintro ⟨v368,v371,gb373⟩ w51 ⟨hS_,h0_,h1_,h2_,h3_,h4_,h5_,h6_,h7_,h8_,h9_,h10_,h11_,h12_,h13_,h14_⟩
            have n0_:Aside0 (Kd.V Kd.string 9 w51 w.heap.size (fun k_=>((P0_0_ k_ ∨ P0_1_ k_) ∨ w.heap.size ≤ k_) ∧ some k_ ≠ (v368:Value).ownBlock ∧ some k_ ≠ (v371:Value).ownBlock ∧ k_ ≠ gb359 ∧ k_ ≠ gb360 ∧ k_ ≠ gb373) (.slice A0_1 y362.length c0_1) y362):=⟨h0_⟩
            have n1_:Aside0 (Kd.N (Kd.slice 9 Kd.string) 24 w51 w.heap.size (fun k_=>((P0_0_ k_ ∨ P0_1_ k_) ∨ w.heap.size ≤ k_) ∧ some k_ ≠ (v371:Value).ownBlock ∧ k_ ≠ gb359 ∧ k_ ≠ gb360 ∧ k_ ≠ gb373) v368 y367):=⟨h1_⟩
            have n2_:Aside0 (Kd.R Kd.string 9 w51 w.heap.size (fun k_=>(w.heap.size ≤ k_)) v371 t370):=⟨h2_⟩
            have n3_:Aside0 (Kd.V Kd.string 9 w51 w.heap.size (fun k_=>((P0_0_ k_ ∨ P0_1_ k_) ∨ w.heap.size ≤ k_) ∧ some k_ ≠ (v368:Value).ownBlock ∧ some k_ ≠ (v371:Value).ownBlock ∧ k_ ≠ gb359 ∧ k_ ≠ gb360 ∧ k_ ≠ gb373) (.slice A0_0 l0_0.length c0_0) l0_0):=⟨h3_⟩
            have n4_:Aside0 (Kd.V Kd.string 9 w51 w.heap.size (fun k_=>((P0_0_ k_ ∨ P0_1_ k_) ∨ w.heap.size ≤ k_) ∧ some k_ ≠ (v368:Value).ownBlock ∧ some k_ ≠ (v371:Value).ownBlock ∧ k_ ≠ gb359 ∧ k_ ≠ gb360 ∧ k_ ≠ gb373) (.slice A0_1 l0_1.length c0_1) l0_1):=⟨h4_⟩
            have n5_:Aside0 (w51.heap[gb359]? = some (.cells #[.slice A0_0 l0_0.length c0_0,.slice A0_1 l0_1.length c0_1] 26 (0,0))):=⟨h5_⟩
            have n6_:Aside0 (w51.heap[gb360]? = some (.cells #[.slice none 0 0,.slice none 0 0] 26 (0,0))):=⟨h6_⟩
            have n7_:Aside0 (w51.heap[gb373]? = some (.cells #[.slice none 0 0,.slice none 0 0] 26 (0,0))):=⟨h7_⟩
            have n8_:Aside0 (w.heap.size ≤ gb373):=⟨h8_⟩
            have n9_:Aside0 (w.heap.size ≤ gb373):=⟨h9_⟩
            have n10_:Aside0 (gb359 ≠ gb373):=⟨h10_⟩
            have n11_:Aside0 (gb373 ≠ gb359):=⟨h11_⟩
            have n12_:Aside0 (gb360 ≠ gb373):=⟨h12_⟩
            have n13_:Aside0 (gb373 ≠ gb360):=⟨h13_⟩
            have n14_:Aside0 (Below w.heap.size w w51):=⟨h14_⟩
            clear HO_360000
            clear HO_360001
            clear BK359
            clear BK360
            clear HB
            clear h0_ h1_ h2_ h3_ h4_ h5_ h6_ h7_ h8_ h9_ h10_ h11_ h12_ h13_ h14_
            have HO366:=n0_
            have HO369:=n1_
            have HO372:=n2_
            have HO_360000:=n3_
            have HO_360001:=n4_
            have BK359:=n5_
            have BK360:=n6_
            have BK373:=n7_
            have GW373:=n8_
            have GE373:=n9_
            have NB359_373:=n10_
            have NB373_359:=n11_
            have NB360_373:=n12_
            have NB373_360:=n13_
            have HB:=n14_
            clear n0_ n1_ n2_ n3_ n4_ n5_ n6_ n7_ n8_ n9_ n10_ n11_ n12_ n13_ n14_
            have hHeld:w51.cell? ⟨gb359,0,none⟩ = some (.slice A0_0 l0_0.length c0_0) ∧ w51.cell? ⟨gb359,1,none⟩ = some (.slice A0_1 l0_1.length c0_1):=hS_
            obtain ⟨Ao52,co52,eo52⟩:=Kd.R_slice HO372.out
            (first|subst eo52|(injection eo52 with f1_ f2_ f3_;have f4_:=f1_.symm;have f5_:=f3_.symm;clear f1_ f2_ f3_;subst f4_;subst f5_))
            refine norm_ (a':=?_) ?_ ?_
            rotate_left
            ·simp only [putAll,Act.put,List.setIfInBounds_toArray,List.set_cons_zero,List.set_cons_succ]
             rfl
            refine one_ (i:=10) (N:=none) #[true,true,true,true,true,true,true,true,true,true,true] rfl rfl (one_of HT_.out (by kernel_rfl)) (by decide) (fun K hK=>?_)
            have hs53:w51.cell? ⟨gb373,0,none⟩ = some (.slice none 0 0):=(blk_cell BK373.out 0).trans rfl
            have hfs53:=blk_frozen BK373.out 0
            have hns53_0:=NB359_373.out
            have hns53_1:=NB360_373.out
            have hms53_0:=NB373_359.out
            have hms53_1:=NB373_360.out
            have hs54:w51.cell? ⟨gb373,1,none⟩ = some (.slice none 0 0):=(blk_cell BK373.out 1).trans rfl
            have hfs54:=blk_frozen BK373.out 1
            have hns54_0:=NB359_373.out
            have hns54_1:=NB360_373.out
            have hms54_0:=NB373_359.out
            have hms54_1:=NB373_360.out
            refine skip_ (w1:=?_) (by rfl) rfl ?_ ?_
            rotate_left
            ·go_simp
             rfl
            refine hK.out _ _ ⟨((cell_far (p:=⟨gb373,_,none⟩) NB359_373.out _).trans (((cell_far (p:=⟨gb373,_,none⟩) NB359_373.out _).trans (hHeld.1)))),((cell_far (p:=⟨gb373,_,none⟩) NB359_373.out _).trans (((cell_far (p:=⟨gb373,_,none⟩) NB359_373.out _).trans (hHeld.2))))⟩ (fun hHeld=>?_)
            clear hK K
            refine done_ (done_of HT_.out (by kernel_rfl)) ?_
            have hnb55:=NB359_360.out
            have hnc55:=NB360_359.out
            have hnb56:=NB359_373.out
            have hnc56:=NB373_359.out
            have hcz57_0:w51.cell? ⟨gb359,0,none⟩ = some (.slice A0_0 l0_0.length c0_0):=(blk_cell BK359.out 0).trans rfl
            have hcz57_1:w51.cell? ⟨gb359,1,none⟩ = some (.slice A0_1 l0_1.length c0_1):=(blk_cell BK359.out 1).trans rfl
            have hfz57_0:=blk_frozen BK359.out 0
            have hfz57_1:=blk_frozen BK359.out 1
            try go_wp2
            have n0_:Aside0 (Kd.V Kd.string 9 ((w51.setCell ⟨gb373,0,none⟩ (.slice Ao52 t370.length co52)).setCell ⟨gb373,1,none⟩ (.slice none 0 0)) w.heap.size (fun k_=>((P0_0_ k_ ∨ P0_1_ k_) ∨ w.heap.size ≤ k_) ∧ some k_ ≠ (v368:Value).ownBlock ∧ some k_ ≠ (.slice Ao52 t370.length co52:Value).ownBlock ∧ k_ ≠ gb359 ∧ k_ ≠ gb360 ∧ k_ ≠ gb373) (.slice A0_0 l0_0.length c0_0) l0_0):=⟨by (with_reducible repeat (first|apply Kd.V_alloc|apply Kd.V_drewN|apply Kd.V_drew));exact Kd.V_mono (Kd.V_far (p:=⟨gb373,1,none⟩) (Kd.V_far (p:=⟨gb373,0,none⟩) (Kd.V_mono HO_360000.out (fun k_ hk=>(⟨hk,hk.2.2.2.2.2⟩:_ ∧ k_ ≠ gb373))) (fun _ hk=>hk.2) (.slice Ao52 t370.length co52)) (fun _ hk=>hk.2) (.slice none 0 0)) (fun _ hk=>⟨hk.1.1,⟨hk.1.2.1,⟨hk.1.2.2.1,⟨hk.1.2.2.2.1,⟨hk.1.2.2.2.2.1,hk.1.2.2.2.2.2⟩⟩⟩⟩⟩)⟩
            have n1_:Aside0 (Kd.V Kd.string 9 ((w51.setCell ⟨gb373,0,none⟩ (.slice Ao52 t370.length co52)).setCell ⟨gb373,1,none⟩ (.slice none 0 0)) w.heap.size (fun k_=>((P0_0_ k_ ∨ P0_1_ k_) ∨ w.heap.size ≤ k_) ∧ some k_ ≠ (v368:Value).ownBlock ∧ some k_ ≠ (.slice Ao52 t370.length co52:Value).ownBlock ∧ k_ ≠ gb359 ∧ k_ ≠ gb360 ∧ k_ ≠ gb373) (.slice A0_1 l0_1.length c0_1) l0_1):=⟨by (with_reducible repeat (first|apply Kd.V_alloc|apply Kd.V_drewN|apply Kd.V_drew));exact Kd.V_mono (Kd.V_far (p:=⟨gb373,1,none⟩) (Kd.V_far (p:=⟨gb373,0,none⟩) (Kd.V_mono HO_360001.out (fun k_ hk=>(⟨hk,hk.2.2.2.2.2⟩:_ ∧ k_ ≠ gb373))) (fun _ hk=>hk.2) (.slice Ao52 t370.length co52)) (fun _ hk=>hk.2) (.slice none 0 0)) (fun _ hk=>⟨hk.1.1,⟨hk.1.2.1,⟨hk.1.2.2.1,⟨hk.1.2.2.2.1,⟨hk.1.2.2.2.2.1,hk.1.2.2.2.2.2⟩⟩⟩⟩⟩)⟩
            have n2_:Aside0 (Kd.V Kd.string 9 ((w51.setCell ⟨gb373,0,none⟩ (.slice Ao52 t370.length co52)).setCell ⟨gb373,1,none⟩ (.slice none 0 0)) w.heap.size (fun k_=>((P0_0_ k_ ∨ P0_1_ k_) ∨ w.heap.size ≤ k_) ∧ some k_ ≠ (v368:Value).ownBlock ∧ some k_ ≠ (.slice Ao52 t370.length co52:Value).ownBlock ∧ k_ ≠ gb359 ∧ k_ ≠ gb360 ∧ k_ ≠ gb373) (.slice A0_1 y362.length c0_1) y362):=⟨by (with_reducible repeat (first|apply Kd.V_alloc|apply Kd.V_drewN|apply Kd.V_drew));exact Kd.V_mono (Kd.V_far (p:=⟨gb373,1,none⟩) (Kd.V_far (p:=⟨gb373,0,none⟩) (Kd.V_mono HO366.out (fun k_ hk=>(⟨hk,hk.2.2.2.2.2⟩:_ ∧ k_ ≠ gb373))) (fun _ hk=>hk.2) (.slice Ao52 t370.length co52)) (fun _ hk=>hk.2) (.slice none 0 0)) (fun _ hk=>⟨hk.1.1,⟨hk.1.2.1,⟨hk.1.2.2.1,⟨hk.1.2.2.2.1,⟨hk.1.2.2.2.2.1,hk.1.2.2.2.2.2⟩⟩⟩⟩⟩)⟩
            have n3_:Aside0 (Kd.N (Kd.slice 9 Kd.string) 24 ((w51.setCell ⟨gb373,0,none⟩ (.slice Ao52 t370.length co52)).setCell ⟨gb373,1,none⟩ (.slice none 0 0)) w.heap.size (fun k_=>((P0_0_ k_ ∨ P0_1_ k_) ∨ w.heap.size ≤ k_) ∧ some k_ ≠ (.slice Ao52 t370.length co52:Value).ownBlock ∧ k_ ≠ gb359 ∧ k_ ≠ gb360 ∧ k_ ≠ gb373) v368 y367):=⟨by (with_reducible repeat (first|apply Kd.N_alloc|apply Kd.N_drewN|apply Kd.N_drew));exact Kd.N_mono (Kd.N_far (p:=⟨gb373,1,none⟩) (Kd.N_far (p:=⟨gb373,0,none⟩) (Kd.N_mono HO369.out (fun k_ hk=>(⟨hk,hk.2.2.2.2⟩:_ ∧ k_ ≠ gb373))) (fun _ hk=>hk.2) (.slice Ao52 t370.length co52)) (fun _ hk=>hk.2) (.slice none 0 0)) (fun _ hk=>⟨hk.1.1,⟨hk.1.2.1,⟨hk.1.2.2.1,⟨hk.1.2.2.2.1,hk.1.2.2.2.2⟩⟩⟩⟩)⟩
            have n4_:Aside0 (Kd.R Kd.string 9 ((w51.setCell ⟨gb373,0,none⟩ (.slice Ao52 t370.length co52)).setCell ⟨gb373,1,none⟩ (.slice none 0 0)) w.heap.size (fun k_=>(w.heap.size ≤ k_)) (.slice Ao52 t370.length co52) t370):=⟨by (with_reducible repeat (first|apply Kd.R_alloc|apply Kd.R_drewN|apply Kd.R_drew));exact Kd.R_mono (Kd.R_far (p:=⟨gb373,1,none⟩) (Kd.R_far (p:=⟨gb373,0,none⟩) (Kd.R_types HO372.out BK373.out (by decide)) (fun _ hk=>hk.2) (.slice Ao52 t370.length co52)) (fun _ hk=>hk.2) (.slice none 0 0)) (fun _ hk=>hk.1)⟩
            have n5_:Aside0 (((w51.setCell ⟨gb373,0,none⟩ (.slice Ao52 t370.length co52)).setCell ⟨gb373,1,none⟩ (.slice none 0 0)).heap[gb359]? = some (.cells #[.slice A0_0 l0_0.length c0_0,.slice A0_1 l0_1.length c0_1] 26 (0,0))):=⟨by (with_reducible repeat (first|refine blk_drewN ?_ _|refine blk_drew ?_|refine blk_alloc ?_ _));refine blk_far ?_ NB359_373.out _;(with_reducible repeat (first|refine blk_drewN ?_ _|refine blk_drew ?_|refine blk_alloc ?_ _));refine blk_far ?_ NB359_373.out _;(with_reducible repeat (first|refine blk_drewN ?_ _|refine blk_drew ?_|refine blk_alloc ?_ _));exact BK359.out⟩
            have n6_:Aside0 (((w51.setCell ⟨gb373,0,none⟩ (.slice Ao52 t370.length co52)).setCell ⟨gb373,1,none⟩ (.slice none 0 0)).heap[gb360]? = some (.cells #[.slice none 0 0,.slice none 0 0] 26 (0,0))):=⟨by (with_reducible repeat (first|refine blk_drewN ?_ _|refine blk_drew ?_|refine blk_alloc ?_ _));refine blk_far ?_ NB360_373.out _;(with_reducible repeat (first|refine blk_drewN ?_ _|refine blk_drew ?_|refine blk_alloc ?_ _));refine blk_far ?_ NB360_373.out _;(with_reducible repeat (first|refine blk_drewN ?_ _|refine blk_drew ?_|refine blk_alloc ?_ _));exact BK360.out⟩
            have n7_:Aside0 (((w51.setCell ⟨gb373,0,none⟩ (.slice Ao52 t370.length co52)).setCell ⟨gb373,1,none⟩ (.slice none 0 0)).heap[gb373]? = some (.cells #[.slice Ao52 t370.length co52,.slice none 0 0] 26 (0,0))):=⟨by (with_reducible repeat (first|refine blk_drewN ?_ _|refine blk_drew ?_|refine blk_alloc ?_ _));refine blk_put (cs:=#[.slice Ao52 t370.length co52,.slice none 0 0]) ?_ 1 _ rfl;(with_reducible repeat (first|refine blk_drewN ?_ _|refine blk_drew ?_|refine blk_alloc ?_ _));refine blk_put (cs:=#[.slice none 0 0,.slice none 0 0]) ?_ 0 _ rfl;(with_reducible repeat (first|refine blk_drewN ?_ _|refine blk_drew ?_|refine blk_alloc ?_ _));exact BK373.out⟩
            have n8_:Aside0 (Below w.heap.size w ((w51.setCell ⟨gb373,0,none⟩ (.slice Ao52 t370.length co52)).setCell ⟨gb373,1,none⟩ (.slice none 0 0))):=⟨bH⟩
            (try clear HO_360000)
            (try clear HO_360001)
            (try clear HO366)
            (try clear HO369)
            (try clear HO372)
            (try clear BK359)
            (try clear BK360)
            (try clear BK373)
            (try clear HB)
            generalize ((w51.setCell ⟨gb373,0,none⟩ (.slice Ao52 t370.length co52)).setCell ⟨gb373,1,none⟩ (.slice none 0 0)) = w58 at n0_ n1_ n2_ n3_ n4_ n5_ n6_ n7_ n8_ ⊢
            have HO_360000:=n0_
            have HO_360001:=n1_
            have HO366:=n2_
            have HO369:=n3_
            have HO372:=n4_
            have BK359:=n5_
            have BK360:=n6_
            have BK373:=n7_
            have HB:=n8_
            clear n0_ n1_ n2_ n3_ n4_ n5_ n6_ n7_ n8_
            replace HO_360000:=Aside0.mk (Kd.V_drew HO_360000.out);replace HO_360001:=Aside0.mk (Kd.V_drew HO_360001.out);replace HO366:=Aside0.mk (Kd.V_drew HO366.out);replace HO369:=Aside0.mk (Kd.N_drew HO369.out);replace HO372:=Aside0.mk (Kd.R_drew HO372.out);replace BK359:=Aside0.mk (blk_drew BK359.out);replace BK360:=Aside0.mk (blk_drew BK360.out);replace BK373:=Aside0.mk (blk_drew BK373.out);replace HB:=Aside0.mk (below_drew1 HB.out)
            have p374:0 ≤ (a1:Int):=oD
            have q374:a1 < (l0_1.length:Int):=oD
            obtain ⟨ad374,e374,hx374_0⟩:=Kd.at_string (Kd.V_reads' HO_360001.out).2.2 a1 p374 q374
            cases e374
            replace p374:=eq_true p374
            replace q374:=eq_true q374
            refine start_ (n:=17) (S:=fun w'=>w'.cell? ⟨gb373,0,none⟩ = some (.slice Ao52 t370.length co52) ∧ w'.cell? ⟨gb373,1,none⟩ = some (.slice none 0 0) ∧ w'.cell? ⟨gb359,0,none⟩ = some (.slice A0_0 l0_0.length c0_0) ∧ w'.cell? ⟨gb359,1,none⟩ = some (.slice (some ad374) l0_1.length c0_1) ∧ w'.cell? (ad374.add (a1).toNat) = some (.string (rdOf ByteArray.empty l0_1 a1))) (ds:=[14,16]) #[false,false,false,false,false,false,false,false,false,false,false,false,false,false,false,false,false] (by kernel_rfl) rfl rfl ⟨(blk_cell BK373.out 0).trans rfl,(blk_cell BK373.out 1).trans rfl,(blk_cell BK359.out 0).trans rfl,(blk_cell BK359.out 1).trans rfl,hx374_0⟩ (fun hHeld=>?_);refine with_tabW impl_CrashDisk.tab5 impl_CrashDisk.bits5 (fun HT_ HW_=>?_)
            generalize w58.drew = w59 at HO_360000 HO_360001 HO366 HO369 HO372 BK359 BK360 BK373 HB hx374_0 hHeld ⊢
            refine pU (i:=0) (N:=some 50) #[true,false,false,false,false,false,false,false,false,false,false,false,false,false,false,false,false] (any_of HT_.out (by kernel_rfl)) ?_
            refine pU (i:=2) (N:=some 52) #[true,false,true,false,false,false,false,false,false,false,false,false,false,false,false,false,false] (any_of HT_.out (by kernel_rfl)) ?_
            refine pU (i:=4) (N:=some 54) #[true,false,true,false,true,false,false,false,false,false,false,false,false,false,false,false,false] (any_of HT_.out (by kernel_rfl)) ?_
            refine pU (i:=7) (N:=some 57) #[true,false,true,false,true,false,false,true,false,false,false,false,false,false,false,false,false] (any_of HT_.out (by kernel_rfl)) ?_
            refine pU (i:=9) (N:=some 59) #[true,false,true,false,true,false,false,true,false,true,false,false,false,false,false,false,false] (any_of HT_.out (by kernel_rfl)) ?_
            refine pU (i:=10) (N:=some 60) #[true,false,true,false,true,false,false,true,false,true,true,false,false,false,false,false,false] (any_of HT_.out (by kernel_rfl)) ?_
            refine take_ (i:=1) (N:=some 51) (v:=?_) (a':=?_) #[true,true,true,false,true,false,false,true,false,true,true,false,false,false,false,false,false] rfl rfl (take_ofW HT_.out HW_.out (by kernel_rfl)) (fun _ _ _ h=>h) (Or.inl ⟨by rfl,?_⟩) hHeld ?_ ?_
            rotate_left
            ·rintro w' ⟨s0,s1,s2,s3,s4⟩
             go_simp
             with_reducible rfl
            rotate_left
            ·simp only [Act.put,List.setIfInBounds_toArray,List.set_cons_zero,List.set_cons_succ,i64_w,i32_w]
             rfl
            refine take_ (i:=3) (N:=some 53) (v:=?_) (a':=?_) #[true,true,true,true,true,false,false,true,false,true,true,false,false,false,false,false,false] rfl rfl (take_ofW HT_.out HW_.out (by kernel_rfl)) (fun _ _ _ h=>h) (Or.inl ⟨by rfl,?_⟩) hHeld ?_ ?_
            rotate_left
            ·rintro w' ⟨s0,s1,s2,s3,s4⟩
             go_simp
             with_reducible rfl
            rotate_left
            ·simp only [Act.put,List.setIfInBounds_toArray,List.set_cons_zero,List.set_cons_succ,i64_w,i32_w]
             rfl
            refine pU (i:=5) (N:=some 55) #[true,true,true,true,true,true,false,true,false,true,true,false,false,false,false,false,false] (any_of HT_.out (by kernel_rfl)) ?_
            refine take_ (i:=6) (N:=some 56) (v:=?_) (a':=?_) #[true,true,true,true,true,true,true,true,false,true,true,false,false,false,false,false,false] rfl rfl (take_ofW HT_.out HW_.out (by kernel_rfl)) (fun _ _ _ h=>h) (Or.inl ⟨by rfl,?_⟩) hHeld ?_ ?_
            rotate_left
            ·rintro w' ⟨s0,s1,s2,s3,s4⟩
             go_simp
             with_reducible rfl
            rotate_left
            ·simp only [Act.put,List.setIfInBounds_toArray,List.set_cons_zero,List.set_cons_succ,i64_w,i32_w]
             rfl
            refine pU (i:=8) (N:=some 58) #[true,true,true,true,true,true,true,true,true,true,true,false,false,false,false,false,false] (any_of HT_.out (by kernel_rfl)) ?_
            refine one_ (i:=11) (N:=some 61) #[true,true,true,true,true,true,true,true,true,true,true,true,false,false,false,false,false] rfl rfl (one_of HT_.out (by kernel_rfl)) (by decide) (fun K hK=>?_)
            refine goes_ Try.func45 (by kernel_rfl) rfl #[.string (⟨#[0]⟩:ByteArray),.int .i64 (wrap64 (16 - a2))] (by rfl) rfl rfl Ya ?_
            with_reducible refine (strings_Repeat.calls (⟨#[0]⟩:ByteArray) (wrap64 (16 - a2)) t375 _ A40.out).mono ?_
            rintro e w60 ⟨rfl,hb⟩
            have HS4_:=(hb.cell (World.block_lt_of_cell? _ _ (hHeld.2.2.2.2))).trans (hHeld.2.2.2.2)
            refine ⟨_,rfl,?_⟩
            replace HO_360000:=Aside0.mk (Kd.V_below (rV HO_360000) hb);replace HO_360001:=Aside0.mk (Kd.V_below (rV HO_360001) hb);replace HO366:=Aside0.mk (Kd.V_below (rV HO366) hb);replace HO369:=Aside0.mk (Kd.N_below (rN HO369) hb);replace HO372:=Aside0.mk (Kd.R_below (rR HO372) hb);replace BK359:=Aside0.mk (blk_below (bB BK359) hb);replace BK360:=Aside0.mk (blk_below (bB BK360) hb);replace BK373:=Aside0.mk (blk_below (bB BK373) hb);replace HB:=Aside0.mk (below_step bH hb)
            (try clear hb)
            (try clear hb2)
            (try clear hk)
            (try clear hi)
            refine hK.out _ _ ⟨(blk_cell BK373.out 0).trans rfl,(blk_cell BK373.out 1).trans rfl,(blk_cell BK359.out 0).trans rfl,(blk_cell BK359.out 1).trans rfl,HS4_⟩ (fun hHeld=>?_)
            clear hK K
            refine nM (N:=some 61) ?_
            refine pU (i:=12) (N:=some 62) #[true,true,true,true,true,true,true,true,true,true,true,true,true,false,false,false,false] (any_of HT_.out (by kernel_rfl)) ?_
            refine one_ (i:=13) (N:=some 63) #[true,true,true,true,true,true,true,true,true,true,true,true,true,true,false,false,false] rfl rfl (one_of HT_.out (by kernel_rfl)) (by decide) (fun K hK=>?_)
            refine value_ (w1:=?_) (v:=?_) (by rfl) rfl ?_ ?_
            rotate_left 2
            ·go_simp
             constructor
             ·rfl
             ·rfl
            refine hK.out _ _ ⟨(blk_cell (blk_alloc BK373.out _) 0).trans rfl,(blk_cell (blk_alloc BK373.out _) 1).trans rfl,(blk_cell (blk_alloc BK359.out _) 0).trans rfl,(blk_cell (blk_alloc BK359.out _) 1).trans rfl,(World.cell?_alloc_lt _ _ _ (World.block_lt_of_cell? _ _ (hHeld.2.2.2.2))).trans (hHeld.2.2.2.2)⟩ (fun hHeld=>?_)
            clear hK K
            refine nM (N:=some 63) ?_
            refine last_ (i:=14) (N:=some 64) #[true,true,true,true,true,true,true,true,true,true,true,true,true,true,true,false,false] rfl rfl (one_of HT_.out (by kernel_rfl)) (by decide) (fun K hK=>?_)
            refine Kd.R_append_step Kd.string (w0:=w) w.heap.size (by rfl) (.tmp 51) (.tmp 63) 24 9 (.string ⟨#[]⟩) 16 rfl Try.underlying24 info9 rfl (by decide) Yy (.slice Ao52 t370.length co52) t370 (((rdOf ByteArray.empty l0_1 a1).extract 0 (a2:Int).toNat) ++ t375) [.string (((rdOf ByteArray.empty l0_1 a1).extract 0 (a2:Int).toNat) ++ t375)] (fun k_=>(w.heap.size ≤ k_)) (fun _=>False) rfl rfl ?aP (fun _ hk=>hk.elim) ?aF ?aO ?aB ?aS ?aL ?_
            (case aP=>exact rfl)
            (case aB=>exact bH)
            (case aF=>exact (fun k_ hk=>(Nat.le_trans (below_size bH) hk)))
            (case aO=>exact (rR HO372))
            (case aS=>exact YB)
            (case aL=>have:=LMc42.out;omega)
            intro v377 w61 ho hb hg hat
            rw [← Ny376.out] at ho
            have n0_:=Aside0.mk (Kd.V_afterv (ok:=(fun k_=>((P0_0_ k_ ∨ P0_1_ k_) ∨ w.heap.size ≤ k_) ∧ some k_ ≠ (v368:Value).ownBlock ∧ k_ ≠ gb359 ∧ k_ ≠ gb360 ∧ k_ ≠ gb373)) (by (with_reducible repeat (first|apply Kd.V_alloc|apply Kd.V_drewN|apply Kd.V_drew));exact Kd.V_mono HO_360000.out (fun _ hk=>⟨⟨hk.1,⟨hk.2.1,⟨hk.2.2.2.1,⟨hk.2.2.2.2.1,hk.2.2.2.2.2⟩⟩⟩⟩,hk.2.2.1⟩)) hg hat);have n1_:=Aside0.mk (Kd.V_afterv (ok:=(fun k_=>((P0_0_ k_ ∨ P0_1_ k_) ∨ w.heap.size ≤ k_) ∧ some k_ ≠ (v368:Value).ownBlock ∧ k_ ≠ gb359 ∧ k_ ≠ gb360 ∧ k_ ≠ gb373)) (by (with_reducible repeat (first|apply Kd.V_alloc|apply Kd.V_drewN|apply Kd.V_drew));exact Kd.V_mono HO_360001.out (fun _ hk=>⟨⟨hk.1,⟨hk.2.1,⟨hk.2.2.2.1,⟨hk.2.2.2.2.1,hk.2.2.2.2.2⟩⟩⟩⟩,hk.2.2.1⟩)) hg hat);have n2_:=Aside0.mk (blk_grown (bB BK359) hg (Kd.R_ne HO372.out BK359.out (by decide)));have n3_:=Aside0.mk (blk_grown (bB BK360) hg (Kd.R_ne HO372.out BK360.out (by decide)));have n4_:=Aside0.mk (Kd.V_afterv (ok:=(fun k_=>((P0_0_ k_ ∨ P0_1_ k_) ∨ w.heap.size ≤ k_) ∧ some k_ ≠ (v368:Value).ownBlock ∧ k_ ≠ gb359 ∧ k_ ≠ gb360 ∧ k_ ≠ gb373)) (by (with_reducible repeat (first|apply Kd.V_alloc|apply Kd.V_drewN|apply Kd.V_drew));exact Kd.V_mono HO366.out (fun _ hk=>⟨⟨hk.1,⟨hk.2.1,⟨hk.2.2.2.1,⟨hk.2.2.2.2.1,hk.2.2.2.2.2⟩⟩⟩⟩,hk.2.2.1⟩)) hg hat);have n5_:=Aside0.mk (Kd.N_afterv (ok:=(fun k_=>((P0_0_ k_ ∨ P0_1_ k_) ∨ w.heap.size ≤ k_) ∧ k_ ≠ gb359 ∧ k_ ≠ gb360 ∧ k_ ≠ gb373)) (by (with_reducible repeat (first|apply Kd.N_alloc|apply Kd.N_drewN|apply Kd.N_drew));exact Kd.N_mono HO369.out (fun _ hk=>⟨⟨hk.1,⟨hk.2.2.1,⟨hk.2.2.2.1,hk.2.2.2.2⟩⟩⟩,hk.2.1⟩)) hg hat);have n6_:=Aside0.mk (blk_grown (bB BK373) hg (Kd.R_ne HO372.out BK373.out (by decide)));have n7_:=Aside0.mk (hb);have n8_:=Aside0.mk (ho);clear HO_360000;clear HO_360001;clear BK359;clear BK360;clear HO366;clear HO369;clear BK373;clear HB;clear HO372;have HO_360000:=n0_;have HO_360001:=n1_;have BK359:=n2_;have BK360:=n3_;have HO366:=n4_;have HO369:=n5_;have BK373:=n6_;have HB:=n7_;have HO378:=n8_;clear n0_ n1_ n2_ n3_ n4_ n5_ n6_ n7_ n8_
            clear ho hb hg hat
            obtain ⟨Ao62,co62,eo62⟩:=Kd.R_slice HO378.out
            (first|subst eo62|(injection eo62 with f1_ f2_ f3_;have f4_:=f1_.symm;have f5_:=f3_.symm;clear f1_ f2_ f3_;subst f4_;subst f5_))
            refine hK.out _ _ ?_
            clear hK K
            refine nM (N:=some 64) ?_
            refine pU (i:=15) (N:=some 65) #[true,true,true,true,true,true,true,true,true,true,true,true,true,true,true,true,false] (any_of HT_.out (by kernel_rfl)) ?_
            refine last_ (i:=16) (N:=none) #[true,true,true,true,true,true,true,true,true,true,true,true,true,true,true,true,true] rfl rfl (one_of HT_.out (by kernel_rfl)) (by decide) (fun K hK=>?_)
            have hs63:w61.cell? ⟨gb373,0,none⟩ = some (.slice Ao52 t370.length co52):=(blk_cell BK373.out 0).trans rfl
            have hfs63:=blk_frozen BK373.out 0
            have hns63_0:=NB359_373.out
            have hns63_1:=NB360_373.out
            have hms63_0:=NB373_359.out
            have hms63_1:=NB373_360.out
            refine skip_ (w1:=?_) (by rfl) rfl ?_ ?_
            rotate_left
            ·go_simp
             rfl
            refine hK.out _ _ ?_
            clear hK K
            refine done_ (done_of HT_.out (by kernel_rfl)) ?_
            have hnb64:=NB373_360.out
            have hnc64:=NB360_373.out
            have hcz65_0:w61.cell? ⟨gb373,0,none⟩ = some (.slice Ao52 t370.length co52):=(blk_cell BK373.out 0).trans rfl
            have hcz65_1:w61.cell? ⟨gb373,1,none⟩ = some (.slice none 0 0):=(blk_cell BK373.out 1).trans rfl
            have hfz65_0:=blk_frozen BK373.out 0
            have hfz65_1:=blk_frozen BK373.out 1
            have hcz66_0:w61.cell? ⟨gb360,0,none⟩ = some (.slice none 0 0):=(blk_cell BK360.out 0).trans rfl
            have hcz66_1:w61.cell? ⟨gb360,1,none⟩ = some (.slice none 0 0):=(blk_cell BK360.out 1).trans rfl
            have hfz66_0:=blk_frozen BK360.out 0
            have hfz66_1:=blk_frozen BK360.out 1
            try go_wp2
            refine bodyPost_ret (results_ct rfl _ _ gb360 26 #[.slice Ao62 y376.length co62,.slice none 0 0] (0,0) _ rfl (by (with_reducible repeat (first|refine blk_drewN ?_ _|refine blk_drew ?_|refine blk_alloc ?_ _));refine blk_put (cs:=#[.slice Ao62 y376.length co62,.slice none 0 0]) ?_ 1 _ rfl;(with_reducible repeat (first|refine blk_drewN ?_ _|refine blk_drew ?_|refine blk_alloc ?_ _));refine blk_put (cs:=#[.slice none 0 0,.slice none 0 0]) ?_ 0 _ rfl;(with_reducible repeat (first|refine blk_drewN ?_ _|refine blk_drew ?_|refine blk_alloc ?_ _));refine blk_far ?_ NB360_373.out _;(with_reducible repeat (first|refine blk_drewN ?_ _|refine blk_drew ?_|refine blk_alloc ?_ _));exact BK360.out) Try.underlying26 rfl (by kernel_rfl)) rfl ?_
            exact ⟨_,_,Yb,by (with_reducible repeat (first|apply Kd.R_alloc|apply Kd.R_drewN|apply Kd.R_drew));exact Kd.R_mono (Kd.R_far (p:=⟨gb360,1,none⟩) (Kd.R_far (p:=⟨gb360,0,none⟩) (Kd.R_far (p:=⟨gb373,0,none⟩) (Kd.R_types (Kd.R_types HO378.out BK373.out (by decide)) BK360.out (by decide)) (fun _ hk=>hk.1.2) (.slice Ao62 y376.length co62)) (fun _ hk=>hk.2) (.slice Ao62 y376.length co62)) (fun _ hk=>hk.2) (.slice none 0 0)) (fun _ hk=>⟨hk.1.1,ZR⟩),Yd,bH⟩
           ·rw [if_neg c42] at H
            exact absurd H (by simp)
          ·rw [if_neg c41] at H
           exact absurd H (by simp)
         ·rw [if_neg c39] at H
          exact absurd H (by simp)
        ·rw [if_neg c38] at H
         exact absurd H (by simp)
       ·rw [if_neg c37] at H
        have c37b0:decide (a1 < (l0_1.length:Int)) = false:=decide_eq_false c37
        clear c37
        simp only [Option.some.injEq,Prod.mk.injEq] at H
        obtain ⟨rfl,rfl,rfl⟩:=H
        try go_wp2
        replace HO_360000:=Aside0.mk (Kd.V_drew HO_360000.out);replace HO_360001:=Aside0.mk (Kd.V_drew HO_360001.out);replace BK359:=Aside0.mk (blk_drew BK359.out);replace BK360:=Aside0.mk (blk_drew BK360.out);replace HB:=Aside0.mk (below_drew1 HB.out)
        have q68:(a1:Int) ≤ ((l0_1.length:Int):Int):=oD
        obtain ⟨i068,hi068,_,hsz68,_⟩:=info_parts info9
        have hroom68:l0_1.length ≤ c0_1:=(Kd.V_reads' HO_360001.out).2.1
        have hC68:Kd.F Kd.string _ _ A0_1 l0_1.length l0_1:=(Kd.V_at (base:=w.heap.size) HO_360001.out).2.2
        have hcut68:=cut_to (P:=Try.prog) 24 9 .i64 Try.underlying24 hi068 A0_1 l0_1.length c0_1 a1 (oD) q68 hroom68
        have hr68:=Kd.F_take (m:=(a1:Int).toNat) hC68 (by omega)
        have hy68:y362.length = (a1:Int).toNat:=(by rw [Ny362.out,List.length_take];omega)
        rw [← Ny362.out] at hr68
        rw [← hy68] at hcut68
        have HO366:=Aside0.mk (show Kd.V Kd.string 9 _ w.heap.size _ (.slice A0_1 y362.length c0_1) y362 from Kd.V_mk (by omega) hr68)
        have HC366:=Aside0.mk (show y362.length ≤ c0_1 from by omega)
        clear hr68 hC68 hroom68 hi068 hsz68
        have KY68:=Aside0.mk hy68
        clear hy68
        replace q68:=eq_true q68
        refine start_ (n:=11) (S:=fun w'=>w'.cell? ⟨gb359,0,none⟩ = some (.slice A0_0 l0_0.length c0_0) ∧ w'.cell? ⟨gb359,1,none⟩ = some (.slice A0_1 l0_1.length c0_1)) (ds:=[]) #[false,false,false,false,false,false,false,false,false,false,false] (by kernel_rfl) rfl rfl ⟨(blk_cell BK359.out 0).trans rfl,(blk_cell BK359.out 1).trans rfl⟩ (fun hHeld=>?_);refine with_tabW impl_CrashDisk.tab3 impl_CrashDisk.bits3 (fun HT_ HW_=>?_)
        generalize wc.drew = w67 at HO_360000 HO_360001 BK359 BK360 HB HO366 hHeld ⊢
        refine pU (i:=0) (N:=some 32) #[true,false,false,false,false,false,false,false,false,false,false] (any_of HT_.out (by kernel_rfl)) ?_
        refine pU (i:=2) (N:=some 34) #[true,false,true,false,false,false,false,false,false,false,false] (any_of HT_.out (by kernel_rfl)) ?_
        refine pU (i:=4) (N:=some 36) #[true,false,true,false,true,false,false,false,false,false,false] (any_of HT_.out (by kernel_rfl)) ?_
        refine take_ (i:=1) (N:=some 33) (v:=?_) (a':=?_) #[true,true,true,false,true,false,false,false,false,false,false] rfl rfl (take_ofW HT_.out HW_.out (by kernel_rfl)) (fun _ _ _ h=>h) (Or.inl ⟨by rfl,?_⟩) hHeld ?_ ?_
        rotate_left
        ·rintro w' ⟨s0,s1⟩
         go_simp
         with_reducible rfl
        rotate_left
        ·simp only [Act.put,List.setIfInBounds_toArray,List.set_cons_zero,List.set_cons_succ,i64_w,i32_w]
         rfl
        refine take_ (i:=3) (N:=some 35) (v:=?_) (a':=?_) #[true,true,true,true,true,false,false,false,false,false,false] rfl rfl (take_ofW HT_.out HW_.out (by kernel_rfl)) (fun _ _ _ h=>h) (Or.inl ⟨by rfl,?_⟩) hHeld ?_ ?_
        rotate_left
        ·rintro w' ⟨s0,s1⟩
         go_simp
         with_reducible rfl
        rotate_left
        ·simp only [Act.put,List.setIfInBounds_toArray,List.set_cons_zero,List.set_cons_succ,i64_w,i32_w]
         rfl
        refine pU (i:=5) (N:=some 37) #[true,true,true,true,true,true,false,false,false,false,false] (any_of HT_.out (by kernel_rfl)) ?_
        refine join_ (σ:=Value × Value × Nat) 1 #[true,true,true,true,true,true,true,true,true,true,false] (fun s_=>[(38,s_.1),(39,s_.2.1),(8,.pointer (some ⟨s_.2.2,0,none⟩)),(40,.agg #[s_.2.1,.slice none 0 0])]) (fun s_ w'=>(w'.cell? ⟨gb359,0,none⟩ = some (.slice A0_0 l0_0.length c0_0) ∧ w'.cell? ⟨gb359,1,none⟩ = some (.slice A0_1 l0_1.length c0_1)) ∧ (Kd.V Kd.string 9 w' w.heap.size (fun k_=>((P0_0_ k_ ∨ P0_1_ k_) ∨ w.heap.size ≤ k_) ∧ some k_ ≠ (s_.1:Value).ownBlock ∧ some k_ ≠ (s_.2.1:Value).ownBlock ∧ k_ ≠ gb359 ∧ k_ ≠ gb360 ∧ k_ ≠ s_.2.2) (.slice A0_1 y362.length c0_1) y362) ∧ (Kd.N (Kd.slice 9 Kd.string) 24 w' w.heap.size (fun k_=>((P0_0_ k_ ∨ P0_1_ k_) ∨ w.heap.size ≤ k_) ∧ some k_ ≠ (s_.2.1:Value).ownBlock ∧ k_ ≠ gb359 ∧ k_ ≠ gb360 ∧ k_ ≠ s_.2.2) s_.1 y367) ∧ (Kd.R Kd.string 9 w' w.heap.size (fun k_=>(w.heap.size ≤ k_)) s_.2.1 t370) ∧ (Kd.V Kd.string 9 w' w.heap.size (fun k_=>((P0_0_ k_ ∨ P0_1_ k_) ∨ w.heap.size ≤ k_) ∧ some k_ ≠ (s_.1:Value).ownBlock ∧ some k_ ≠ (s_.2.1:Value).ownBlock ∧ k_ ≠ gb359 ∧ k_ ≠ gb360 ∧ k_ ≠ s_.2.2) (.slice A0_0 l0_0.length c0_0) l0_0) ∧ (Kd.V Kd.string 9 w' w.heap.size (fun k_=>((P0_0_ k_ ∨ P0_1_ k_) ∨ w.heap.size ≤ k_) ∧ some k_ ≠ (s_.1:Value).ownBlock ∧ some k_ ≠ (s_.2.1:Value).ownBlock ∧ k_ ≠ gb359 ∧ k_ ≠ gb360 ∧ k_ ≠ s_.2.2) (.slice A0_1 l0_1.length c0_1) l0_1) ∧ (w'.heap[gb359]? = some (.cells #[.slice A0_0 l0_0.length c0_0,.slice A0_1 l0_1.length c0_1] 26 (0,0))) ∧ (w'.heap[gb360]? = some (.cells #[.slice none 0 0,.slice none 0 0] 26 (0,0))) ∧ (w'.heap[s_.2.2]? = some (.cells #[.slice none 0 0,.slice none 0 0] 26 (0,0))) ∧ (w.heap.size ≤ s_.2.2) ∧ (w.heap.size ≤ s_.2.2) ∧ (gb359 ≠ s_.2.2) ∧ (s_.2.2 ≠ gb359) ∧ (gb360 ≠ s_.2.2) ∧ (s_.2.2 ≠ gb360) ∧ (Below w.heap.size w w')) ?_ ?_
        rotate_left
        ·intro hCont
         refine two_ (i:=6) (j:=9) (Ni:=some 38) (Nj:=some 8) #[true,true,true,true,true,true,true,false,false,false,false] #[true,true,true,true,true,true,false,false,false,true,false] rfl rfl rfl rfl (two_of HT_.out (by kernel_rfl)) (by decide) (by decide) (fun K hK=>?_) (fun K hK=>?_)
         ·skip
          refine Kd.N_lit_step (Kd.slice 9 Kd.string) _ 24 ?hg (N':=38) ?hd (xs:=([l0_0,y362]:List (List ByteArray))) (inner:=[.slice A0_0 l0_0.length c0_0,.slice A0_1 y362.length c0_1]) (ok:=(fun k_=>((P0_0_ k_ ∨ P0_1_ k_) ∨ w.heap.size ≤ k_) ∧ k_ ≠ gb359 ∧ k_ ≠ gb360)) (okp:=(fun k_=>((P0_0_ k_ ∨ P0_1_ k_) ∨ w.heap.size ≤ k_) ∧ k_ ≠ gb359 ∧ k_ ≠ gb360)) ?hr ?hp (fun _ hk=>hk) ((show ∀ k_,w67.heap.size ≤ k_ → (fun k_=>((P0_0_ k_ ∨ P0_1_ k_) ∨ w.heap.size ≤ k_) ∧ k_ ≠ gb359 ∧ k_ ≠ gb360) k_ from fun k_ hk=>⟨(.inr (Nat.le_trans (below_size bH) hk)),Kd.freshB (bB BK359) k_ hk,Kd.freshB (bB BK360) k_ hk⟩) _ (Nat.le_refl _)) (Below.refl _ _) (Nat.le_refl _) (by simp) ?_;(case hd=>rfl);(case hg=>rfl);(case hr=>exact Yg);(case hp=>exact Yk)
          intro v368 w69 ho70 hb hg_ hnew_
          clear hg_ hnew_
          (first|rw [← Ny367.out] at ho70|(simp only [Int.reduceToNat] at ho70;rw [← Ny367.out] at ho70))
          replace HO_360000:=Aside0.mk (Kd.V_elder' (rV HO_360000) (Kd.N_base ho70) hb);replace HO_360001:=Aside0.mk (Kd.V_elder' (rV HO_360001) (Kd.N_base ho70) hb);replace HO366:=Aside0.mk (Kd.V_elder' (rV HO366) (Kd.N_base ho70) hb);have HO369:=Aside0.mk (Kd.N_lower ho70 (below_size bH));replace BK359:=Aside0.mk (blk_below (bB BK359) hb);replace BK360:=Aside0.mk (blk_below (bB BK360) hb);replace HB:=Aside0.mk (below_step bH hb)
          clear hb ho70
          obtain ⟨Ao71,co71,eo71⟩:=Kd.N_slice HO369.out
          (first|subst eo71|(injection eo71 with f1_ f2_ f3_;have f4_:=f1_.symm;have f5_:=f3_.symm;clear f1_ f2_ f3_;subst f4_;subst f5_))
          refine hK.out _ _ ⟨(blk_cell BK359.out 0).trans rfl,(blk_cell BK359.out 1).trans rfl⟩ (fun hHeld=>?_)
          clear hK K
          refine nM (N:=some 38) ?_
          refine two_ (i:=7) (j:=9) (Ni:=some 39) (Nj:=some 8) #[true,true,true,true,true,true,true,true,false,false,false] #[true,true,true,true,true,true,true,false,false,true,false] rfl rfl rfl rfl (two_of HT_.out (by kernel_rfl)) (by decide) (by decide) (fun K hK=>?_) (fun K hK=>?_)
          ·skip
           refine goes_ Try.func44 (by kernel_rfl) rfl #[.slice Ao71 y367.length co71] (by rfl) rfl rfl Ya ?_
           with_reducible refine (slices_Concat_string_string.calls kj3 _ _ y367 t370 _ ?side1 ?side2 A35.out).mono ?_
           (case side1=>repeat (first|exact (Kd.N_reads' HO369.out).2.2|(with_reducible refine Kd.C_alloc ?_ _)|(with_reducible refine Kd.C_drewN ?_ _)|(with_reducible refine Kd.C_drew ?_)))
           (case side2=>exact ZI)
           rintro e w72 ⟨v371,rfl,ho0,hb⟩
           refine ⟨_,rfl,?_⟩
           replace HO_360000:=Aside0.mk (Kd.V_elder' (rV HO_360000) (Kd.R_base ho0) hb);replace HO_360001:=Aside0.mk (Kd.V_elder' (rV HO_360001) (Kd.R_base ho0) hb);replace HO366:=Aside0.mk (Kd.V_elder' (rV HO366) (Kd.R_base ho0) hb);replace HO369:=Aside0.mk (Kd.N_elder' (rN HO369) (Kd.R_base ho0) hb);have HO372:=Aside0.mk (Kd.R_lower (Kd.R_newM (M:=fun k_=>(w.heap.size ≤ k_)) ho0 (below_size bH) (fun k_ h_=>h_)) (below_size bH));replace BK359:=Aside0.mk (blk_below (bB BK359) hb);replace BK360:=Aside0.mk (blk_below (bB BK360) hb);replace HB:=Aside0.mk (below_step bH hb)
           (try clear hb)
           (try clear hb2)
           (try clear hk)
           (try clear hi)
           (try clear ho0)
           obtain ⟨Ao73,co73,eo73⟩:=Kd.R_slice HO372.out
           (first|subst eo73|(injection eo73 with f1_ f2_ f3_;have f4_:=f1_.symm;have f5_:=f3_.symm;clear f1_ f2_ f3_;subst f4_;subst f5_))
           refine hK.out _ _ ⟨(blk_cell BK359.out 0).trans rfl,(blk_cell BK359.out 1).trans rfl⟩ (fun hHeld=>?_)
           clear hK K
           refine nM (N:=some 39) ?_
           refine pU (i:=8) (N:=some 40) #[true,true,true,true,true,true,true,true,true,false,false] (any_of HT_.out (by kernel_rfl)) ?_
           refine one_ (i:=9) (N:=some 8) #[true,true,true,true,true,true,true,true,true,true,false] rfl rfl (one_of HT_.out (by kernel_rfl)) (by decide) (fun K hK=>?_)
           refine box_step ?hg (N:=8) ?hd (cs:=#[.slice none 0 0,.slice none 0 0]) (t:=26) ?hr ?_;(case hd=>rfl);(case hg=>rfl);(case hr=>exact Yg)
           intro gb373 hg w74 hbox hb
           replace HO_360000:=Aside0.mk (Kd.V_below (Kd.V_elderB (rV HO_360000) gb373 (Nat.le_of_eq hg.symm)) hb);replace HO_360001:=Aside0.mk (Kd.V_below (Kd.V_elderB (rV HO_360001) gb373 (Nat.le_of_eq hg.symm)) hb);replace HO366:=Aside0.mk (Kd.V_below (Kd.V_elderB (rV HO366) gb373 (Nat.le_of_eq hg.symm)) hb);replace HO369:=Aside0.mk (Kd.N_below (Kd.N_elderB (rN HO369) gb373 (Nat.le_of_eq hg.symm)) hb);replace HO372:=Aside0.mk (Kd.R_below (rR HO372) hb);have BK373:=Aside0.mk (hbox);have GW373:=Aside0.mk ((hZ:w.heap.size ≤ gb373));have GE373:=Aside0.mk ((hZ:w.heap.size ≤ gb373));replace HB:=Aside0.mk (below_step bH hb);have NB359_373:=Aside0.mk ((nL BK359:gb359 ≠ gb373));have NB373_359:=Aside0.mk ((nG BK359:gb373 ≠ gb359));replace BK359:=Aside0.mk (blk_below (bB BK359) hb);have NB360_373:=Aside0.mk ((nL BK360:gb360 ≠ gb373));have NB373_360:=Aside0.mk ((nG BK360:gb373 ≠ gb360));replace BK360:=Aside0.mk (blk_below (bB BK360) hb)
           clear hb hbox hg
           refine hK.out _ _ ⟨(blk_cell BK359.out 0).trans rfl,(blk_cell BK359.out 1).trans rfl⟩ (fun hHeld=>?_)
           clear hK K
           refine nM (N:=some 8) ?_
           exact norm_ Yi (hCont (.slice Ao71 y367.length co71,.slice Ao73 t370.length co73,gb373) _ ⟨hHeld,Zd,Zn,Yq,Za,YX,(bB BK359),(bB BK360),(bB BK373),GW373.out,GE373.out,NB359_373.out,NB373_359.out,NB360_373.out,NB373_360.out,bH⟩)
          ·skip
           refine box_step ?hg (N:=8) ?hd (cs:=#[.slice none 0 0,.slice none 0 0]) (t:=26) ?hr ?_;(case hd=>rfl);(case hg=>rfl);(case hr=>exact Yg)
           intro gb373 hg w71 hbox hb
           replace HO_360000:=Aside0.mk (Kd.V_below (Kd.V_elderB (rV HO_360000) gb373 (Nat.le_of_eq hg.symm)) hb);replace HO_360001:=Aside0.mk (Kd.V_below (Kd.V_elderB (rV HO_360001) gb373 (Nat.le_of_eq hg.symm)) hb);replace HO366:=Aside0.mk (Kd.V_below (Kd.V_elderB (rV HO366) gb373 (Nat.le_of_eq hg.symm)) hb);replace HO369:=Aside0.mk (Kd.N_below (Kd.N_elderB (rN HO369) gb373 (Nat.le_of_eq hg.symm)) hb);have BK373:=Aside0.mk (hbox);have GW373:=Aside0.mk ((hZ:w.heap.size ≤ gb373));have GE373:=Aside0.mk ((hZ:w.heap.size ≤ gb373));replace HB:=Aside0.mk (below_step bH hb);have NB359_373:=Aside0.mk ((nL BK359:gb359 ≠ gb373));have NB373_359:=Aside0.mk ((nG BK359:gb373 ≠ gb359));replace BK359:=Aside0.mk (blk_below (bB BK359) hb);have NB360_373:=Aside0.mk ((nL BK360:gb360 ≠ gb373));have NB373_360:=Aside0.mk ((nG BK360:gb373 ≠ gb360));replace BK360:=Aside0.mk (blk_below (bB BK360) hb)
           clear hb hbox hg
           obtain ⟨Ao72,co72,eo72⟩:=Kd.N_slice HO369.out
           (first|subst eo72|(injection eo72 with f1_ f2_ f3_;have f4_:=f1_.symm;have f5_:=f3_.symm;clear f1_ f2_ f3_;subst f4_;subst f5_))
           refine hK.out _ _ ⟨(blk_cell BK359.out 0).trans rfl,(blk_cell BK359.out 1).trans rfl⟩ (fun hHeld=>?_)
           clear hK K
           refine nM (N:=some 8) ?_
           refine one_ (i:=7) (N:=some 39) #[true,true,true,true,true,true,true,true,false,true,false] rfl rfl (one_of HT_.out (by kernel_rfl)) (by decide) (fun K hK=>?_)
           refine goes_ Try.func44 (by kernel_rfl) rfl #[.slice Ao72 y367.length co72] (by rfl) rfl rfl Ya ?_
           with_reducible refine (slices_Concat_string_string.calls kj3 _ _ y367 t370 _ ?side1 ?side2 A35.out).mono ?_
           (case side1=>repeat (first|exact (Kd.N_reads' HO369.out).2.2|(with_reducible refine Kd.C_alloc ?_ _)|(with_reducible refine Kd.C_drewN ?_ _)|(with_reducible refine Kd.C_drew ?_)))
           (case side2=>exact ZI)
           rintro e w73 ⟨v371,rfl,ho0,hb⟩
           refine ⟨_,rfl,?_⟩
           replace HO_360000:=Aside0.mk (Kd.V_elder' (rV HO_360000) (Kd.R_base ho0) hb);replace HO_360001:=Aside0.mk (Kd.V_elder' (rV HO_360001) (Kd.R_base ho0) hb);replace HO366:=Aside0.mk (Kd.V_elder' (rV HO366) (Kd.R_base ho0) hb);replace HO369:=Aside0.mk (Kd.N_elder' (rN HO369) (Kd.R_base ho0) hb);have HO372:=Aside0.mk (Kd.R_lower (Kd.R_newM (M:=fun k_=>(w.heap.size ≤ k_)) ho0 (below_size bH) (fun k_ h_=>h_)) (below_size bH));replace BK359:=Aside0.mk (blk_below (bB BK359) hb);replace BK360:=Aside0.mk (blk_below (bB BK360) hb);replace BK373:=Aside0.mk (blk_below (bB BK373) hb);replace HB:=Aside0.mk (below_step bH hb)
           (try clear hb)
           (try clear hb2)
           (try clear hk)
           (try clear hi)
           (try clear ho0)
           obtain ⟨Ao74,co74,eo74⟩:=Kd.R_slice HO372.out
           (first|subst eo74|(injection eo74 with f1_ f2_ f3_;have f4_:=f1_.symm;have f5_:=f3_.symm;clear f1_ f2_ f3_;subst f4_;subst f5_))
           refine hK.out _ _ ⟨(blk_cell BK359.out 0).trans rfl,(blk_cell BK359.out 1).trans rfl⟩ (fun hHeld=>?_)
           clear hK K
           refine nM (N:=some 39) ?_
           refine pU (i:=8) (N:=some 40) #[true,true,true,true,true,true,true,true,true,true,false] (any_of HT_.out (by kernel_rfl)) ?_
           exact norm_ Yi (hCont (.slice Ao72 y367.length co72,.slice Ao74 t370.length co74,gb373) _ ⟨hHeld,Zc,Zm,Yq,YZ,YW,(bB BK359),(bB BK360),(bB BK373),GW373.out,GE373.out,NB359_373.out,NB373_359.out,NB360_373.out,NB373_360.out,bH⟩)
         ·skip
          refine box_step ?hg (N:=8) ?hd (cs:=#[.slice none 0 0,.slice none 0 0]) (t:=26) ?hr ?_;(case hd=>rfl);(case hg=>rfl);(case hr=>exact Yg)
          intro gb373 hg w69 hbox hb
          replace HO_360000:=Aside0.mk (Kd.V_below (Kd.V_elderB (rV HO_360000) gb373 (Nat.le_of_eq hg.symm)) hb);replace HO_360001:=Aside0.mk (Kd.V_below (Kd.V_elderB (rV HO_360001) gb373 (Nat.le_of_eq hg.symm)) hb);replace HO366:=Aside0.mk (Kd.V_below (Kd.V_elderB (rV HO366) gb373 (Nat.le_of_eq hg.symm)) hb);have BK373:=Aside0.mk (hbox);have GW373:=Aside0.mk ((hZ:w.heap.size ≤ gb373));have GE373:=Aside0.mk ((hZ:w.heap.size ≤ gb373));replace HB:=Aside0.mk (below_step bH hb);have NB359_373:=Aside0.mk ((nL BK359:gb359 ≠ gb373));have NB373_359:=Aside0.mk ((nG BK359:gb373 ≠ gb359));replace BK359:=Aside0.mk (blk_below (bB BK359) hb);have NB360_373:=Aside0.mk ((nL BK360:gb360 ≠ gb373));have NB373_360:=Aside0.mk ((nG BK360:gb373 ≠ gb360));replace BK360:=Aside0.mk (blk_below (bB BK360) hb)
          clear hb hbox hg
          refine hK.out _ _ ⟨(blk_cell BK359.out 0).trans rfl,(blk_cell BK359.out 1).trans rfl⟩ (fun hHeld=>?_)
          clear hK K
          refine nM (N:=some 8) ?_
          refine one_ (i:=6) (N:=some 38) #[true,true,true,true,true,true,true,false,false,true,false] rfl rfl (one_of HT_.out (by kernel_rfl)) (by decide) (fun K hK=>?_)
          refine Kd.N_lit_step (Kd.slice 9 Kd.string) _ 24 ?hg (N':=38) ?hd (xs:=([l0_0,y362]:List (List ByteArray))) (inner:=[.slice A0_0 l0_0.length c0_0,.slice A0_1 y362.length c0_1]) (ok:=(fun k_=>((P0_0_ k_ ∨ P0_1_ k_) ∨ w.heap.size ≤ k_) ∧ k_ ≠ gb359 ∧ k_ ≠ gb360 ∧ k_ ≠ gb373)) (okp:=(fun k_=>((P0_0_ k_ ∨ P0_1_ k_) ∨ w.heap.size ≤ k_) ∧ k_ ≠ gb359 ∧ k_ ≠ gb360 ∧ k_ ≠ gb373)) ?hr ?hp (fun _ hk=>hk) ((show ∀ k_,w69.heap.size ≤ k_ → (fun k_=>((P0_0_ k_ ∨ P0_1_ k_) ∨ w.heap.size ≤ k_) ∧ k_ ≠ gb359 ∧ k_ ≠ gb360 ∧ k_ ≠ gb373) k_ from fun k_ hk=>⟨(.inr (Nat.le_trans (below_size bH) hk)),Kd.freshB (bB BK359) k_ hk,Kd.freshB (bB BK360) k_ hk,Kd.freshB (bB BK373) k_ hk⟩) _ (Nat.le_refl _)) (Below.refl _ _) (Nat.le_refl _) (by simp) ?_;(case hd=>rfl);(case hg=>rfl);(case hr=>exact Yg);(case hp=>exact Yj)
          intro v368 w70 ho71 hb hg_ hnew_
          clear hg_ hnew_
          (first|rw [← Ny367.out] at ho71|(simp only [Int.reduceToNat] at ho71;rw [← Ny367.out] at ho71))
          replace HO_360000:=Aside0.mk (Kd.V_elder' (rV HO_360000) (Kd.N_base ho71) hb);replace HO_360001:=Aside0.mk (Kd.V_elder' (rV HO_360001) (Kd.N_base ho71) hb);replace HO366:=Aside0.mk (Kd.V_elder' (rV HO366) (Kd.N_base ho71) hb);have HO369:=Aside0.mk (Kd.N_lower ho71 (below_size bH));replace BK359:=Aside0.mk (blk_below (bB BK359) hb);replace BK360:=Aside0.mk (blk_below (bB BK360) hb);replace BK373:=Aside0.mk (blk_below (bB BK373) hb);replace HB:=Aside0.mk (below_step bH hb)
          clear hb ho71
          obtain ⟨Ao72,co72,eo72⟩:=Kd.N_slice HO369.out
          (first|subst eo72|(injection eo72 with f1_ f2_ f3_;have f4_:=f1_.symm;have f5_:=f3_.symm;clear f1_ f2_ f3_;subst f4_;subst f5_))
          refine hK.out _ _ ⟨(blk_cell BK359.out 0).trans rfl,(blk_cell BK359.out 1).trans rfl⟩ (fun hHeld=>?_)
          clear hK K
          refine nM (N:=some 38) ?_
          refine one_ (i:=7) (N:=some 39) #[true,true,true,true,true,true,true,true,false,true,false] rfl rfl (one_of HT_.out (by kernel_rfl)) (by decide) (fun K hK=>?_)
          refine goes_ Try.func44 (by kernel_rfl) rfl #[.slice Ao72 y367.length co72] (by rfl) rfl rfl Ya ?_
          with_reducible refine (slices_Concat_string_string.calls kj3 _ _ y367 t370 _ ?side1 ?side2 A35.out).mono ?_
          (case side1=>repeat (first|exact (Kd.N_reads' HO369.out).2.2|(with_reducible refine Kd.C_alloc ?_ _)|(with_reducible refine Kd.C_drewN ?_ _)|(with_reducible refine Kd.C_drew ?_)))
          (case side2=>exact ZI)
          rintro e w73 ⟨v371,rfl,ho0,hb⟩
          refine ⟨_,rfl,?_⟩
          replace HO_360000:=Aside0.mk (Kd.V_elder' (rV HO_360000) (Kd.R_base ho0) hb);replace HO_360001:=Aside0.mk (Kd.V_elder' (rV HO_360001) (Kd.R_base ho0) hb);replace HO366:=Aside0.mk (Kd.V_elder' (rV HO366) (Kd.R_base ho0) hb);replace HO369:=Aside0.mk (Kd.N_elder' (rN HO369) (Kd.R_base ho0) hb);have HO372:=Aside0.mk (Kd.R_lower (Kd.R_newM (M:=fun k_=>(w.heap.size ≤ k_)) ho0 (below_size bH) (fun k_ h_=>h_)) (below_size bH));replace BK359:=Aside0.mk (blk_below (bB BK359) hb);replace BK360:=Aside0.mk (blk_below (bB BK360) hb);replace BK373:=Aside0.mk (blk_below (bB BK373) hb);replace HB:=Aside0.mk (below_step bH hb)
          (try clear hb)
          (try clear hb2)
          (try clear hk)
          (try clear hi)
          (try clear ho0)
          obtain ⟨Ao74,co74,eo74⟩:=Kd.R_slice HO372.out
          (first|subst eo74|(injection eo74 with f1_ f2_ f3_;have f4_:=f1_.symm;have f5_:=f3_.symm;clear f1_ f2_ f3_;subst f4_;subst f5_))
          refine hK.out _ _ ⟨(blk_cell BK359.out 0).trans rfl,(blk_cell BK359.out 1).trans rfl⟩ (fun hHeld=>?_)
          clear hK K
          refine nM (N:=some 39) ?_
          refine pU (i:=8) (N:=some 40) #[true,true,true,true,true,true,true,true,true,true,false] (any_of HT_.out (by kernel_rfl)) ?_
          exact norm_ Yi (hCont (.slice Ao72 y367.length co72,.slice Ao74 t370.length co74,gb373) _ ⟨hHeld,Zb,Zo,Yq,YY,YV,(bB BK359),(bB BK360),(bB BK373),GW373.out,GE373.out,NB359_373.out,NB373_359.out,NB360_373.out,NB373_360.out,bH⟩)
        rintro ⟨v368,v371,gb373⟩ w75 ⟨hS_,h0_,h1_,h2_,h3_,h4_,h5_,h6_,h7_,h8_,h9_,h10_,h11_,h12_,h13_,h14_⟩
        have n0_:Aside0 (Kd.V Kd.string 9 w75 w.heap.size (fun k_=>((P0_0_ k_ ∨ P0_1_ k_) ∨ w.heap.size ≤ k_) ∧ some k_ ≠ (v368:Value).ownBlock ∧ some k_ ≠ (v371:Value).ownBlock ∧ k_ ≠ gb359 ∧ k_ ≠ gb360 ∧ k_ ≠ gb373) (.slice A0_1 y362.length c0_1) y362):=⟨h0_⟩
        have n1_:Aside0 (Kd.N (Kd.slice 9 Kd.string) 24 w75 w.heap.size (fun k_=>((P0_0_ k_ ∨ P0_1_ k_) ∨ w.heap.size ≤ k_) ∧ some k_ ≠ (v371:Value).ownBlock ∧ k_ ≠ gb359 ∧ k_ ≠ gb360 ∧ k_ ≠ gb373) v368 y367):=⟨h1_⟩
        have n2_:Aside0 (Kd.R Kd.string 9 w75 w.heap.size (fun k_=>(w.heap.size ≤ k_)) v371 t370):=⟨h2_⟩
        have n3_:Aside0 (Kd.V Kd.string 9 w75 w.heap.size (fun k_=>((P0_0_ k_ ∨ P0_1_ k_) ∨ w.heap.size ≤ k_) ∧ some k_ ≠ (v368:Value).ownBlock ∧ some k_ ≠ (v371:Value).ownBlock ∧ k_ ≠ gb359 ∧ k_ ≠ gb360 ∧ k_ ≠ gb373) (.slice A0_0 l0_0.length c0_0) l0_0):=⟨h3_⟩
        have n4_:Aside0 (Kd.V Kd.string 9 w75 w.heap.size (fun k_=>((P0_0_ k_ ∨ P0_1_ k_) ∨ w.heap.size ≤ k_) ∧ some k_ ≠ (v368:Value).ownBlock ∧ some k_ ≠ (v371:Value).ownBlock ∧ k_ ≠ gb359 ∧ k_ ≠ gb360 ∧ k_ ≠ gb373) (.slice A0_1 l0_1.length c0_1) l0_1):=⟨h4_⟩
        have n5_:Aside0 (w75.heap[gb359]? = some (.cells #[.slice A0_0 l0_0.length c0_0,.slice A0_1 l0_1.length c0_1] 26 (0,0))):=⟨h5_⟩
        have n6_:Aside0 (w75.heap[gb360]? = some (.cells #[.slice none 0 0,.slice none 0 0] 26 (0,0))):=⟨h6_⟩
        have n7_:Aside0 (w75.heap[gb373]? = some (.cells #[.slice none 0 0,.slice none 0 0] 26 (0,0))):=⟨h7_⟩
        have n8_:Aside0 (w.heap.size ≤ gb373):=⟨h8_⟩
        have n9_:Aside0 (w.heap.size ≤ gb373):=⟨h9_⟩
        have n10_:Aside0 (gb359 ≠ gb373):=⟨h10_⟩
        have n11_:Aside0 (gb373 ≠ gb359):=⟨h11_⟩
        have n12_:Aside0 (gb360 ≠ gb373):=⟨h12_⟩
        have n13_:Aside0 (gb373 ≠ gb360):=⟨h13_⟩
        have n14_:Aside0 (Below w.heap.size w w75):=⟨h14_⟩
        clear HO_360000
        clear HO_360001
        clear BK359
        clear BK360
        clear HB
        clear h0_ h1_ h2_ h3_ h4_ h5_ h6_ h7_ h8_ h9_ h10_ h11_ h12_ h13_ h14_
        have HO366:=n0_
        have HO369:=n1_
        have HO372:=n2_
        have HO_360000:=n3_
        have HO_360001:=n4_
        have BK359:=n5_
        have BK360:=n6_
        have BK373:=n7_
        have GW373:=n8_
        have GE373:=n9_
        have NB359_373:=n10_
        have NB373_359:=n11_
        have NB360_373:=n12_
        have NB373_360:=n13_
        have HB:=n14_
        clear n0_ n1_ n2_ n3_ n4_ n5_ n6_ n7_ n8_ n9_ n10_ n11_ n12_ n13_ n14_
        have hHeld:w75.cell? ⟨gb359,0,none⟩ = some (.slice A0_0 l0_0.length c0_0) ∧ w75.cell? ⟨gb359,1,none⟩ = some (.slice A0_1 l0_1.length c0_1):=hS_
        obtain ⟨Ao76,co76,eo76⟩:=Kd.R_slice HO372.out
        (first|subst eo76|(injection eo76 with f1_ f2_ f3_;have f4_:=f1_.symm;have f5_:=f3_.symm;clear f1_ f2_ f3_;subst f4_;subst f5_))
        refine norm_ (a':=?_) ?_ ?_
        rotate_left
        ·simp only [putAll,Act.put,List.setIfInBounds_toArray,List.set_cons_zero,List.set_cons_succ]
         rfl
        refine one_ (i:=10) (N:=none) #[true,true,true,true,true,true,true,true,true,true,true] rfl rfl (one_of HT_.out (by kernel_rfl)) (by decide) (fun K hK=>?_)
        have hs77:w75.cell? ⟨gb373,0,none⟩ = some (.slice none 0 0):=(blk_cell BK373.out 0).trans rfl
        have hfs77:=blk_frozen BK373.out 0
        have hns77_0:=NB359_373.out
        have hns77_1:=NB360_373.out
        have hms77_0:=NB373_359.out
        have hms77_1:=NB373_360.out
        have hs78:w75.cell? ⟨gb373,1,none⟩ = some (.slice none 0 0):=(blk_cell BK373.out 1).trans rfl
        have hfs78:=blk_frozen BK373.out 1
        have hns78_0:=NB359_373.out
        have hns78_1:=NB360_373.out
        have hms78_0:=NB373_359.out
        have hms78_1:=NB373_360.out
        refine skip_ (w1:=?_) (by rfl) rfl ?_ ?_
        rotate_left
        ·go_simp
         rfl
        refine hK.out _ _ ⟨((cell_far (p:=⟨gb373,_,none⟩) NB359_373.out _).trans (((cell_far (p:=⟨gb373,_,none⟩) NB359_373.out _).trans (hHeld.1)))),((cell_far (p:=⟨gb373,_,none⟩) NB359_373.out _).trans (((cell_far (p:=⟨gb373,_,none⟩) NB359_373.out _).trans (hHeld.2))))⟩ (fun hHeld=>?_)
        clear hK K
        refine done_ (done_of HT_.out (by kernel_rfl)) ?_
        have hnb79:=NB359_360.out
        have hnc79:=NB360_359.out
        have hnb80:=NB359_373.out
        have hnc80:=NB373_359.out
        have hcz81_0:w75.cell? ⟨gb359,0,none⟩ = some (.slice A0_0 l0_0.length c0_0):=(blk_cell BK359.out 0).trans rfl
        have hcz81_1:w75.cell? ⟨gb359,1,none⟩ = some (.slice A0_1 l0_1.length c0_1):=(blk_cell BK359.out 1).trans rfl
        have hfz81_0:=blk_frozen BK359.out 0
        have hfz81_1:=blk_frozen BK359.out 1
        have hnb82:=NB373_360.out
        have hnc82:=NB360_373.out
        have hcz83_0:w75.cell? ⟨gb373,0,none⟩ = some (.slice none 0 0):=(blk_cell BK373.out 0).trans rfl
        have hcz83_1:w75.cell? ⟨gb373,1,none⟩ = some (.slice none 0 0):=(blk_cell BK373.out 1).trans rfl
        have hfz83_0:=blk_frozen BK373.out 0
        have hfz83_1:=blk_frozen BK373.out 1
        have hcz84_0:w75.cell? ⟨gb360,0,none⟩ = some (.slice none 0 0):=(blk_cell BK360.out 0).trans rfl
        have hcz84_1:w75.cell? ⟨gb360,1,none⟩ = some (.slice none 0 0):=(blk_cell BK360.out 1).trans rfl
        have hfz84_0:=blk_frozen BK360.out 0
        have hfz84_1:=blk_frozen BK360.out 1
        try go_wp2
        refine bodyPost_ret (results_ct rfl _ _ gb360 26 #[.slice Ao76 t370.length co76,.slice none 0 0] (0,0) _ rfl (by (with_reducible repeat (first|refine blk_drewN ?_ _|refine blk_drew ?_|refine blk_alloc ?_ _));refine blk_put (cs:=#[.slice Ao76 t370.length co76,.slice none 0 0]) ?_ 1 _ rfl;(with_reducible repeat (first|refine blk_drewN ?_ _|refine blk_drew ?_|refine blk_alloc ?_ _));refine blk_put (cs:=#[.slice none 0 0,.slice none 0 0]) ?_ 0 _ rfl;(with_reducible repeat (first|refine blk_drewN ?_ _|refine blk_drew ?_|refine blk_alloc ?_ _));refine blk_far ?_ NB360_373.out _;(with_reducible repeat (first|refine blk_drewN ?_ _|refine blk_drew ?_|refine blk_alloc ?_ _));refine blk_far ?_ NB360_373.out _;(with_reducible repeat (first|refine blk_drewN ?_ _|refine blk_drew ?_|refine blk_alloc ?_ _));exact BK360.out) Try.underlying26 rfl (by kernel_rfl)) rfl ?_
        exact ⟨_,_,Yb,by (with_reducible repeat (first|apply Kd.R_alloc|apply Kd.R_drewN|apply Kd.R_drew));exact Kd.R_mono (Kd.R_far (p:=⟨gb360,1,none⟩) (Kd.R_far (p:=⟨gb360,0,none⟩) (Kd.R_far (p:=⟨gb373,1,none⟩) (Kd.R_far (p:=⟨gb373,0,none⟩) (Kd.R_types (Kd.R_types HO372.out BK373.out (by decide)) BK360.out (by decide)) (fun _ hk=>hk.1.2) (.slice Ao76 t370.length co76)) (fun _ hk=>hk.1.2) (.slice none 0 0)) (fun _ hk=>hk.2) (.slice Ao76 t370.length co76)) (fun _ hk=>hk.2) (.slice none 0 0)) (fun _ hk=>⟨hk.1.1,ZR⟩),Yd,bH⟩
      ·rw [if_neg c36] at H
       have c36b0:decide (0 < a2) = false:=decide_eq_false c36
       clear c36
       simp only [Option.some.injEq,Prod.mk.injEq] at H
       obtain ⟨rfl,rfl,rfl⟩:=H
       try go_wp2
       replace HO_360000:=Aside0.mk (Kd.V_drew HO_360000.out);replace HO_360001:=Aside0.mk (Kd.V_drew HO_360001.out);replace BK359:=Aside0.mk (blk_drew BK359.out);replace BK360:=Aside0.mk (blk_drew BK360.out);replace HB:=Aside0.mk (below_drew1 HB.out)
       have q86:(a1:Int) ≤ ((l0_1.length:Int):Int):=oD
       obtain ⟨i086,hi086,_,hsz86,_⟩:=info_parts info9
       have hroom86:l0_1.length ≤ c0_1:=(Kd.V_reads' HO_360001.out).2.1
       have hC86:Kd.F Kd.string _ _ A0_1 l0_1.length l0_1:=(Kd.V_at (base:=w.heap.size) HO_360001.out).2.2
       have hcut86:=cut_to (P:=Try.prog) 24 9 .i64 Try.underlying24 hi086 A0_1 l0_1.length c0_1 a1 (oD) q86 hroom86
       have hr86:=Kd.F_take (m:=(a1:Int).toNat) hC86 (by omega)
       have hy86:y362.length = (a1:Int).toNat:=(by rw [Ny362.out,List.length_take];omega)
       rw [← Ny362.out] at hr86
       rw [← hy86] at hcut86
       have HO366:=Aside0.mk (show Kd.V Kd.string 9 _ w.heap.size _ (.slice A0_1 y362.length c0_1) y362 from Kd.V_mk (by omega) hr86)
       have HC366:=Aside0.mk (show y362.length ≤ c0_1 from by omega)
       clear hr86 hC86 hroom86 hi086 hsz86
       have KY86:=Aside0.mk hy86
       clear hy86
       replace q86:=eq_true q86
       refine start_ (n:=11) (S:=fun w'=>w'.cell? ⟨gb359,0,none⟩ = some (.slice A0_0 l0_0.length c0_0) ∧ w'.cell? ⟨gb359,1,none⟩ = some (.slice A0_1 l0_1.length c0_1)) (ds:=[]) #[false,false,false,false,false,false,false,false,false,false,false] (by kernel_rfl) rfl rfl ⟨(blk_cell BK359.out 0).trans rfl,(blk_cell BK359.out 1).trans rfl⟩ (fun hHeld=>?_);refine with_tabW impl_CrashDisk.tab3 impl_CrashDisk.bits3 (fun HT_ HW_=>?_)
       generalize wc.drew = w85 at HO_360000 HO_360001 BK359 BK360 HB HO366 hHeld ⊢
       refine pU (i:=0) (N:=some 32) #[true,false,false,false,false,false,false,false,false,false,false] (any_of HT_.out (by kernel_rfl)) ?_
       refine pU (i:=2) (N:=some 34) #[true,false,true,false,false,false,false,false,false,false,false] (any_of HT_.out (by kernel_rfl)) ?_
       refine pU (i:=4) (N:=some 36) #[true,false,true,false,true,false,false,false,false,false,false] (any_of HT_.out (by kernel_rfl)) ?_
       refine take_ (i:=1) (N:=some 33) (v:=?_) (a':=?_) #[true,true,true,false,true,false,false,false,false,false,false] rfl rfl (take_ofW HT_.out HW_.out (by kernel_rfl)) (fun _ _ _ h=>h) (Or.inl ⟨by rfl,?_⟩) hHeld ?_ ?_
       rotate_left
       ·rintro w' ⟨s0,s1⟩
        go_simp
        with_reducible rfl
       rotate_left
       ·simp only [Act.put,List.setIfInBounds_toArray,List.set_cons_zero,List.set_cons_succ,i64_w,i32_w]
        rfl
       refine take_ (i:=3) (N:=some 35) (v:=?_) (a':=?_) #[true,true,true,true,true,false,false,false,false,false,false] rfl rfl (take_ofW HT_.out HW_.out (by kernel_rfl)) (fun _ _ _ h=>h) (Or.inl ⟨by rfl,?_⟩) hHeld ?_ ?_
       rotate_left
       ·rintro w' ⟨s0,s1⟩
        go_simp
        with_reducible rfl
       rotate_left
       ·simp only [Act.put,List.setIfInBounds_toArray,List.set_cons_zero,List.set_cons_succ,i64_w,i32_w]
        rfl
       refine pU (i:=5) (N:=some 37) #[true,true,true,true,true,true,false,false,false,false,false] (any_of HT_.out (by kernel_rfl)) ?_
       refine join_ (σ:=Value × Value × Nat) 1 #[true,true,true,true,true,true,true,true,true,true,false] (fun s_=>[(38,s_.1),(39,s_.2.1),(8,.pointer (some ⟨s_.2.2,0,none⟩)),(40,.agg #[s_.2.1,.slice none 0 0])]) (fun s_ w'=>(w'.cell? ⟨gb359,0,none⟩ = some (.slice A0_0 l0_0.length c0_0) ∧ w'.cell? ⟨gb359,1,none⟩ = some (.slice A0_1 l0_1.length c0_1)) ∧ (Kd.V Kd.string 9 w' w.heap.size (fun k_=>((P0_0_ k_ ∨ P0_1_ k_) ∨ w.heap.size ≤ k_) ∧ some k_ ≠ (s_.1:Value).ownBlock ∧ some k_ ≠ (s_.2.1:Value).ownBlock ∧ k_ ≠ gb359 ∧ k_ ≠ gb360 ∧ k_ ≠ s_.2.2) (.slice A0_1 y362.length c0_1) y362) ∧ (Kd.N (Kd.slice 9 Kd.string) 24 w' w.heap.size (fun k_=>((P0_0_ k_ ∨ P0_1_ k_) ∨ w.heap.size ≤ k_) ∧ some k_ ≠ (s_.2.1:Value).ownBlock ∧ k_ ≠ gb359 ∧ k_ ≠ gb360 ∧ k_ ≠ s_.2.2) s_.1 y367) ∧ (Kd.R Kd.string 9 w' w.heap.size (fun k_=>(w.heap.size ≤ k_)) s_.2.1 t370) ∧ (Kd.V Kd.string 9 w' w.heap.size (fun k_=>((P0_0_ k_ ∨ P0_1_ k_) ∨ w.heap.size ≤ k_) ∧ some k_ ≠ (s_.1:Value).ownBlock ∧ some k_ ≠ (s_.2.1:Value).ownBlock ∧ k_ ≠ gb359 ∧ k_ ≠ gb360 ∧ k_ ≠ s_.2.2) (.slice A0_0 l0_0.length c0_0) l0_0) ∧ (Kd.V Kd.string 9 w' w.heap.size (fun k_=>((P0_0_ k_ ∨ P0_1_ k_) ∨ w.heap.size ≤ k_) ∧ some k_ ≠ (s_.1:Value).ownBlock ∧ some k_ ≠ (s_.2.1:Value).ownBlock ∧ k_ ≠ gb359 ∧ k_ ≠ gb360 ∧ k_ ≠ s_.2.2) (.slice A0_1 l0_1.length c0_1) l0_1) ∧ (w'.heap[gb359]? = some (.cells #[.slice A0_0 l0_0.length c0_0,.slice A0_1 l0_1.length c0_1] 26 (0,0))) ∧ (w'.heap[gb360]? = some (.cells #[.slice none 0 0,.slice none 0 0] 26 (0,0))) ∧ (w'.heap[s_.2.2]? = some (.cells #[.slice none 0 0,.slice none 0 0] 26 (0,0))) ∧ (w.heap.size ≤ s_.2.2) ∧ (w.heap.size ≤ s_.2.2) ∧ (gb359 ≠ s_.2.2) ∧ (s_.2.2 ≠ gb359) ∧ (gb360 ≠ s_.2.2) ∧ (s_.2.2 ≠ gb360) ∧ (Below w.heap.size w w')) ?_ ?_
       rotate_left
       ·intro hCont
        refine two_ (i:=6) (j:=9) (Ni:=some 38) (Nj:=some 8) #[true,true,true,true,true,true,true,false,false,false,false] #[true,true,true,true,true,true,false,false,false,true,false] rfl rfl rfl rfl (two_of HT_.out (by kernel_rfl)) (by decide) (by decide) (fun K hK=>?_) (fun K hK=>?_)
        ·skip
         refine Kd.N_lit_step (Kd.slice 9 Kd.string) _ 24 ?hg (N':=38) ?hd (xs:=([l0_0,y362]:List (List ByteArray))) (inner:=[.slice A0_0 l0_0.length c0_0,.slice A0_1 y362.length c0_1]) (ok:=(fun k_=>((P0_0_ k_ ∨ P0_1_ k_) ∨ w.heap.size ≤ k_) ∧ k_ ≠ gb359 ∧ k_ ≠ gb360)) (okp:=(fun k_=>((P0_0_ k_ ∨ P0_1_ k_) ∨ w.heap.size ≤ k_) ∧ k_ ≠ gb359 ∧ k_ ≠ gb360)) ?hr ?hp (fun _ hk=>hk) ((show ∀ k_,w85.heap.size ≤ k_ → (fun k_=>((P0_0_ k_ ∨ P0_1_ k_) ∨ w.heap.size ≤ k_) ∧ k_ ≠ gb359 ∧ k_ ≠ gb360) k_ from fun k_ hk=>⟨(.inr (Nat.le_trans (below_size bH) hk)),Kd.freshB (bB BK359) k_ hk,Kd.freshB (bB BK360) k_ hk⟩) _ (Nat.le_refl _)) (Below.refl _ _) (Nat.le_refl _) (by simp) ?_;(case hd=>rfl);(case hg=>rfl);(case hr=>exact Yg);(case hp=>exact Yk)
         intro v368 w87 ho88 hb hg_ hnew_
         clear hg_ hnew_
         (first|rw [← Ny367.out] at ho88|(simp only [Int.reduceToNat] at ho88;rw [← Ny367.out] at ho88))
         replace HO_360000:=Aside0.mk (Kd.V_elder' (rV HO_360000) (Kd.N_base ho88) hb);replace HO_360001:=Aside0.mk (Kd.V_elder' (rV HO_360001) (Kd.N_base ho88) hb);replace HO366:=Aside0.mk (Kd.V_elder' (rV HO366) (Kd.N_base ho88) hb);have HO369:=Aside0.mk (Kd.N_lower ho88 (below_size bH));replace BK359:=Aside0.mk (blk_below (bB BK359) hb);replace BK360:=Aside0.mk (blk_below (bB BK360) hb);replace HB:=Aside0.mk (below_step bH hb)
         clear hb ho88
         obtain ⟨Ao89,co89,eo89⟩:=Kd.N_slice HO369.out
         (first|subst eo89|(injection eo89 with f1_ f2_ f3_;have f4_:=f1_.symm;have f5_:=f3_.symm;clear f1_ f2_ f3_;subst f4_;subst f5_))
         refine hK.out _ _ ⟨(blk_cell BK359.out 0).trans rfl,(blk_cell BK359.out 1).trans rfl⟩ (fun hHeld=>?_)
         clear hK K
         refine nM (N:=some 38) ?_
         refine two_ (i:=7) (j:=9) (Ni:=some 39) (Nj:=some 8) #[true,true,true,true,true,true,true,true,false,false,false] #[true,true,true,true,true,true,true,false,false,true,false] rfl rfl rfl rfl (two_of HT_.out (by kernel_rfl)) (by decide) (by decide) (fun K hK=>?_) (fun K hK=>?_)
         ·skip
          refine goes_ Try.func44 (by kernel_rfl) rfl #[.slice Ao89 y367.length co89] (by rfl) rfl rfl Ya ?_
          with_reducible refine (slices_Concat_string_string.calls kj3 _ _ y367 t370 _ ?side1 ?side2 A35.out).mono ?_
          (case side1=>repeat (first|exact (Kd.N_reads' HO369.out).2.2|(with_reducible refine Kd.C_alloc ?_ _)|(with_reducible refine Kd.C_drewN ?_ _)|(with_reducible refine Kd.C_drew ?_)))
          (case side2=>exact ZI)
          rintro e w90 ⟨v371,rfl,ho0,hb⟩
          refine ⟨_,rfl,?_⟩
          replace HO_360000:=Aside0.mk (Kd.V_elder' (rV HO_360000) (Kd.R_base ho0) hb);replace HO_360001:=Aside0.mk (Kd.V_elder' (rV HO_360001) (Kd.R_base ho0) hb);replace HO366:=Aside0.mk (Kd.V_elder' (rV HO366) (Kd.R_base ho0) hb);replace HO369:=Aside0.mk (Kd.N_elder' (rN HO369) (Kd.R_base ho0) hb);have HO372:=Aside0.mk (Kd.R_lower (Kd.R_newM (M:=fun k_=>(w.heap.size ≤ k_)) ho0 (below_size bH) (fun k_ h_=>h_)) (below_size bH));replace BK359:=Aside0.mk (blk_below (bB BK359) hb);replace BK360:=Aside0.mk (blk_below (bB BK360) hb);replace HB:=Aside0.mk (below_step bH hb)
          (try clear hb)
          (try clear hb2)
          (try clear hk)
          (try clear hi)
          (try clear ho0)
          obtain ⟨Ao91,co91,eo91⟩:=Kd.R_slice HO372.out
          (first|subst eo91|(injection eo91 with f1_ f2_ f3_;have f4_:=f1_.symm;have f5_:=f3_.symm;clear f1_ f2_ f3_;subst f4_;subst f5_))
          refine hK.out _ _ ⟨(blk_cell BK359.out 0).trans rfl,(blk_cell BK359.out 1).trans rfl⟩ (fun hHeld=>?_)
          clear hK K
          refine nM (N:=some 39) ?_
          refine pU (i:=8) (N:=some 40) #[true,true,true,true,true,true,true,true,true,false,false] (any_of HT_.out (by kernel_rfl)) ?_
          refine one_ (i:=9) (N:=some 8) #[true,true,true,true,true,true,true,true,true,true,false] rfl rfl (one_of HT_.out (by kernel_rfl)) (by decide) (fun K hK=>?_)
          refine box_step ?hg (N:=8) ?hd (cs:=#[.slice none 0 0,.slice none 0 0]) (t:=26) ?hr ?_;(case hd=>rfl);(case hg=>rfl);(case hr=>exact Yg)
          intro gb373 hg w92 hbox hb
          replace HO_360000:=Aside0.mk (Kd.V_below (Kd.V_elderB (rV HO_360000) gb373 (Nat.le_of_eq hg.symm)) hb);replace HO_360001:=Aside0.mk (Kd.V_below (Kd.V_elderB (rV HO_360001) gb373 (Nat.le_of_eq hg.symm)) hb);replace HO366:=Aside0.mk (Kd.V_below (Kd.V_elderB (rV HO366) gb373 (Nat.le_of_eq hg.symm)) hb);replace HO369:=Aside0.mk (Kd.N_below (Kd.N_elderB (rN HO369) gb373 (Nat.le_of_eq hg.symm)) hb);replace HO372:=Aside0.mk (Kd.R_below (rR HO372) hb);have BK373:=Aside0.mk (hbox);have GW373:=Aside0.mk ((hZ:w.heap.size ≤ gb373));have GE373:=Aside0.mk ((hZ:w.heap.size ≤ gb373));replace HB:=Aside0.mk (below_step bH hb);have NB359_373:=Aside0.mk ((nL BK359:gb359 ≠ gb373));have NB373_359:=Aside0.mk ((nG BK359:gb373 ≠ gb359));replace BK359:=Aside0.mk (blk_below (bB BK359) hb);have NB360_373:=Aside0.mk ((nL BK360:gb360 ≠ gb373));have NB373_360:=Aside0.mk ((nG BK360:gb373 ≠ gb360));replace BK360:=Aside0.mk (blk_below (bB BK360) hb)
          clear hb hbox hg
          refine hK.out _ _ ⟨(blk_cell BK359.out 0).trans rfl,(blk_cell BK359.out 1).trans rfl⟩ (fun hHeld=>?_)
          clear hK K
          refine nM (N:=some 8) ?_
          exact norm_ Yi (hCont (.slice Ao89 y367.length co89,.slice Ao91 t370.length co91,gb373) _ ⟨hHeld,Zd,Zn,Yq,Za,YX,(bB BK359),(bB BK360),(bB BK373),GW373.out,GE373.out,NB359_373.out,NB373_359.out,NB360_373.out,NB373_360.out,bH⟩)
         ·skip
          refine box_step ?hg (N:=8) ?hd (cs:=#[.slice none 0 0,.slice none 0 0]) (t:=26) ?hr ?_;(case hd=>rfl);(case hg=>rfl);(case hr=>exact Yg)
          intro gb373 hg w89 hbox hb
          replace HO_360000:=Aside0.mk (Kd.V_below (Kd.V_elderB (rV HO_360000) gb373 (Nat.le_of_eq hg.symm)) hb);replace HO_360001:=Aside0.mk (Kd.V_below (Kd.V_elderB (rV HO_360001) gb373 (Nat.le_of_eq hg.symm)) hb);replace HO366:=Aside0.mk (Kd.V_below (Kd.V_elderB (rV HO366) gb373 (Nat.le_of_eq hg.symm)) hb);replace HO369:=Aside0.mk (Kd.N_below (Kd.N_elderB (rN HO369) gb373 (Nat.le_of_eq hg.symm)) hb);have BK373:=Aside0.mk (hbox);have GW373:=Aside0.mk ((hZ:w.heap.size ≤ gb373));have GE373:=Aside0.mk ((hZ:w.heap.size ≤ gb373));replace HB:=Aside0.mk (below_step bH hb);have NB359_373:=Aside0.mk ((nL BK359:gb359 ≠ gb373));have NB373_359:=Aside0.mk ((nG BK359:gb373 ≠ gb359));replace BK359:=Aside0.mk (blk_below (bB BK359) hb);have NB360_373:=Aside0.mk ((nL BK360:gb360 ≠ gb373));have NB373_360:=Aside0.mk ((nG BK360:gb373 ≠ gb360));replace BK360:=Aside0.mk (blk_below (bB BK360) hb)
          clear hb hbox hg
          obtain ⟨Ao90,co90,eo90⟩:=Kd.N_slice HO369.out
          (first|subst eo90|(injection eo90 with f1_ f2_ f3_;have f4_:=f1_.symm;have f5_:=f3_.symm;clear f1_ f2_ f3_;subst f4_;subst f5_))
          refine hK.out _ _ ⟨(blk_cell BK359.out 0).trans rfl,(blk_cell BK359.out 1).trans rfl⟩ (fun hHeld=>?_)
          clear hK K
          refine nM (N:=some 8) ?_
          refine one_ (i:=7) (N:=some 39) #[true,true,true,true,true,true,true,true,false,true,false] rfl rfl (one_of HT_.out (by kernel_rfl)) (by decide) (fun K hK=>?_)
          refine goes_ Try.func44 (by kernel_rfl) rfl #[.slice Ao90 y367.length co90] (by rfl) rfl rfl Ya ?_
          with_reducible refine (slices_Concat_string_string.calls kj3 _ _ y367 t370 _ ?side1 ?side2 A35.out).mono ?_
          (case side1=>repeat (first|exact (Kd.N_reads' HO369.out).2.2|(with_reducible refine Kd.C_alloc ?_ _)|(with_reducible refine Kd.C_drewN ?_ _)|(with_reducible refine Kd.C_drew ?_)))
          (case side2=>exact ZI)
          rintro e w91 ⟨v371,rfl,ho0,hb⟩
          refine ⟨_,rfl,?_⟩
          replace HO_360000:=Aside0.mk (Kd.V_elder' (rV HO_360000) (Kd.R_base ho0) hb);replace HO_360001:=Aside0.mk (Kd.V_elder' (rV HO_360001) (Kd.R_base ho0) hb);replace HO366:=Aside0.mk (Kd.V_elder' (rV HO366) (Kd.R_base ho0) hb);replace HO369:=Aside0.mk (Kd.N_elder' (rN HO369) (Kd.R_base ho0) hb);have HO372:=Aside0.mk (Kd.R_lower (Kd.R_newM (M:=fun k_=>(w.heap.size ≤ k_)) ho0 (below_size bH) (fun k_ h_=>h_)) (below_size bH));replace BK359:=Aside0.mk (blk_below (bB BK359) hb);replace BK360:=Aside0.mk (blk_below (bB BK360) hb);replace BK373:=Aside0.mk (blk_below (bB BK373) hb);replace HB:=Aside0.mk (below_step bH hb)
          (try clear hb)
          (try clear hb2)
          (try clear hk)
          (try clear hi)
          (try clear ho0)
          obtain ⟨Ao92,co92,eo92⟩:=Kd.R_slice HO372.out
          (first|subst eo92|(injection eo92 with f1_ f2_ f3_;have f4_:=f1_.symm;have f5_:=f3_.symm;clear f1_ f2_ f3_;subst f4_;subst f5_))
          refine hK.out _ _ ⟨(blk_cell BK359.out 0).trans rfl,(blk_cell BK359.out 1).trans rfl⟩ (fun hHeld=>?_)
          clear hK K
          refine nM (N:=some 39) ?_
          refine pU (i:=8) (N:=some 40) #[true,true,true,true,true,true,true,true,true,true,false] (any_of HT_.out (by kernel_rfl)) ?_
          exact norm_ Yi (hCont (.slice Ao90 y367.length co90,.slice Ao92 t370.length co92,gb373) _ ⟨hHeld,Zc,Zm,Yq,YZ,YW,(bB BK359),(bB BK360),(bB BK373),GW373.out,GE373.out,NB359_373.out,NB373_359.out,NB360_373.out,NB373_360.out,bH⟩)
        ·skip
         refine box_step ?hg (N:=8) ?hd (cs:=#[.slice none 0 0,.slice none 0 0]) (t:=26) ?hr ?_;(case hd=>rfl);(case hg=>rfl);(case hr=>exact Yg)
         intro gb373 hg w87 hbox hb
         replace HO_360000:=Aside0.mk (Kd.V_below (Kd.V_elderB (rV HO_360000) gb373 (Nat.le_of_eq hg.symm)) hb);replace HO_360001:=Aside0.mk (Kd.V_below (Kd.V_elderB (rV HO_360001) gb373 (Nat.le_of_eq hg.symm)) hb);replace HO366:=Aside0.mk (Kd.V_below (Kd.V_elderB (rV HO366) gb373 (Nat.le_of_eq hg.symm)) hb);have BK373:=Aside0.mk (hbox);have GW373:=Aside0.mk ((hZ:w.heap.size ≤ gb373));have GE373:=Aside0.mk ((hZ:w.heap.size ≤ gb373));replace HB:=Aside0.mk (below_step bH hb);have NB359_373:=Aside0.mk ((nL BK359:gb359 ≠ gb373));have NB373_359:=Aside0.mk ((nG BK359:gb373 ≠ gb359));replace BK359:=Aside0.mk (blk_below (bB BK359) hb);have NB360_373:=Aside0.mk ((nL BK360:gb360 ≠ gb373));have NB373_360:=Aside0.mk ((nG BK360:gb373 ≠ gb360));replace BK360:=Aside0.mk (blk_below (bB BK360) hb)
         clear hb hbox hg
         refine hK.out _ _ ⟨(blk_cell BK359.out 0).trans rfl,(blk_cell BK359.out 1).trans rfl⟩ (fun hHeld=>?_)
         clear hK K
         refine nM (N:=some 8) ?_
         refine one_ (i:=6) (N:=some 38) #[true,true,true,true,true,true,true,false,false,true,false] rfl rfl (one_of HT_.out (by kernel_rfl)) (by decide) (fun K hK=>?_)
         refine Kd.N_lit_step (Kd.slice 9 Kd.string) _ 24 ?hg (N':=38) ?hd (xs:=([l0_0,y362]:List (List ByteArray))) (inner:=[.slice A0_0 l0_0.length c0_0,.slice A0_1 y362.length c0_1]) (ok:=(fun k_=>((P0_0_ k_ ∨ P0_1_ k_) ∨ w.heap.size ≤ k_) ∧ k_ ≠ gb359 ∧ k_ ≠ gb360 ∧ k_ ≠ gb373)) (okp:=(fun k_=>((P0_0_ k_ ∨ P0_1_ k_) ∨ w.heap.size ≤ k_) ∧ k_ ≠ gb359 ∧ k_ ≠ gb360 ∧ k_ ≠ gb373)) ?hr ?hp (fun _ hk=>hk) ((show ∀ k_,w87.heap.size ≤ k_ → (fun k_=>((P0_0_ k_ ∨ P0_1_ k_) ∨ w.heap.size ≤ k_) ∧ k_ ≠ gb359 ∧ k_ ≠ gb360 ∧ k_ ≠ gb373) k_ from fun k_ hk=>⟨(.inr (Nat.le_trans (below_size bH) hk)),Kd.freshB (bB BK359) k_ hk,Kd.freshB (bB BK360) k_ hk,Kd.freshB (bB BK373) k_ hk⟩) _ (Nat.le_refl _)) (Below.refl _ _) (Nat.le_refl _) (by simp) ?_;(case hd=>rfl);(case hg=>rfl);(case hr=>exact Yg);(case hp=>exact Yj)
         intro v368 w88 ho89 hb hg_ hnew_
         clear hg_ hnew_
         (first|rw [← Ny367.out] at ho89|(simp only [Int.reduceToNat] at ho89;rw [← Ny367.out] at ho89))
         replace HO_360000:=Aside0.mk (Kd.V_elder' (rV HO_360000) (Kd.N_base ho89) hb);replace HO_360001:=Aside0.mk (Kd.V_elder' (rV HO_360001) (Kd.N_base ho89) hb);replace HO366:=Aside0.mk (Kd.V_elder' (rV HO366) (Kd.N_base ho89) hb);have HO369:=Aside0.mk (Kd.N_lower ho89 (below_size bH));replace BK359:=Aside0.mk (blk_below (bB BK359) hb);replace BK360:=Aside0.mk (blk_below (bB BK360) hb);replace BK373:=Aside0.mk (blk_below (bB BK373) hb);replace HB:=Aside0.mk (below_step bH hb)
         clear hb ho89
         obtain ⟨Ao90,co90,eo90⟩:=Kd.N_slice HO369.out
         (first|subst eo90|(injection eo90 with f1_ f2_ f3_;have f4_:=f1_.symm;have f5_:=f3_.symm;clear f1_ f2_ f3_;subst f4_;subst f5_))
         refine hK.out _ _ ⟨(blk_cell BK359.out 0).trans rfl,(blk_cell BK359.out 1).trans rfl⟩ (fun hHeld=>?_)
         clear hK K
         refine nM (N:=some 38) ?_
         refine one_ (i:=7) (N:=some 39) #[true,true,true,true,true,true,true,true,false,true,false] rfl rfl (one_of HT_.out (by kernel_rfl)) (by decide) (fun K hK=>?_)
         refine goes_ Try.func44 (by kernel_rfl) rfl #[.slice Ao90 y367.length co90] (by rfl) rfl rfl Ya ?_
         with_reducible refine (slices_Concat_string_string.calls kj3 _ _ y367 t370 _ ?side1 ?side2 A35.out).mono ?_
         (case side1=>repeat (first|exact (Kd.N_reads' HO369.out).2.2|(with_reducible refine Kd.C_alloc ?_ _)|(with_reducible refine Kd.C_drewN ?_ _)|(with_reducible refine Kd.C_drew ?_)))
         (case side2=>exact ZI)
         rintro e w91 ⟨v371,rfl,ho0,hb⟩
         refine ⟨_,rfl,?_⟩
         replace HO_360000:=Aside0.mk (Kd.V_elder' (rV HO_360000) (Kd.R_base ho0) hb);replace HO_360001:=Aside0.mk (Kd.V_elder' (rV HO_360001) (Kd.R_base ho0) hb);replace HO366:=Aside0.mk (Kd.V_elder' (rV HO366) (Kd.R_base ho0) hb);replace HO369:=Aside0.mk (Kd.N_elder' (rN HO369) (Kd.R_base ho0) hb);have HO372:=Aside0.mk (Kd.R_lower (Kd.R_newM (M:=fun k_=>(w.heap.size ≤ k_)) ho0 (below_size bH) (fun k_ h_=>h_)) (below_size bH));replace BK359:=Aside0.mk (blk_below (bB BK359) hb);replace BK360:=Aside0.mk (blk_below (bB BK360) hb);replace BK373:=Aside0.mk (blk_below (bB BK373) hb);replace HB:=Aside0.mk (below_step bH hb)
         (try clear hb)
         (try clear hb2)
         (try clear hk)
         (try clear hi)
         (try clear ho0)
         obtain ⟨Ao92,co92,eo92⟩:=Kd.R_slice HO372.out
         (first|subst eo92|(injection eo92 with f1_ f2_ f3_;have f4_:=f1_.symm;have f5_:=f3_.symm;clear f1_ f2_ f3_;subst f4_;subst f5_))
         refine hK.out _ _ ⟨(blk_cell BK359.out 0).trans rfl,(blk_cell BK359.out 1).trans rfl⟩ (fun hHeld=>?_)
         clear hK K
         refine nM (N:=some 39) ?_
         refine pU (i:=8) (N:=some 40) #[true,true,true,true,true,true,true,true,true,true,false] (any_of HT_.out (by kernel_rfl)) ?_
         exact norm_ Yi (hCont (.slice Ao90 y367.length co90,.slice Ao92 t370.length co92,gb373) _ ⟨hHeld,Zb,Zo,Yq,YY,YV,(bB BK359),(bB BK360),(bB BK373),GW373.out,GE373.out,NB359_373.out,NB373_359.out,NB360_373.out,NB373_360.out,bH⟩)
       rintro ⟨v368,v371,gb373⟩ w93 ⟨hS_,h0_,h1_,h2_,h3_,h4_,h5_,h6_,h7_,h8_,h9_,h10_,h11_,h12_,h13_,h14_⟩
       have n0_:Aside0 (Kd.V Kd.string 9 w93 w.heap.size (fun k_=>((P0_0_ k_ ∨ P0_1_ k_) ∨ w.heap.size ≤ k_) ∧ some k_ ≠ (v368:Value).ownBlock ∧ some k_ ≠ (v371:Value).ownBlock ∧ k_ ≠ gb359 ∧ k_ ≠ gb360 ∧ k_ ≠ gb373) (.slice A0_1 y362.length c0_1) y362):=⟨h0_⟩
       have n1_:Aside0 (Kd.N (Kd.slice 9 Kd.string) 24 w93 w.heap.size (fun k_=>((P0_0_ k_ ∨ P0_1_ k_) ∨ w.heap.size ≤ k_) ∧ some k_ ≠ (v371:Value).ownBlock ∧ k_ ≠ gb359 ∧ k_ ≠ gb360 ∧ k_ ≠ gb373) v368 y367):=⟨h1_⟩
       have n2_:Aside0 (Kd.R Kd.string 9 w93 w.heap.size (fun k_=>(w.heap.size ≤ k_)) v371 t370):=⟨h2_⟩
       have n3_:Aside0 (Kd.V Kd.string 9 w93 w.heap.size (fun k_=>((P0_0_ k_ ∨ P0_1_ k_) ∨ w.heap.size ≤ k_) ∧ some k_ ≠ (v368:Value).ownBlock ∧ some k_ ≠ (v371:Value).ownBlock ∧ k_ ≠ gb359 ∧ k_ ≠ gb360 ∧ k_ ≠ gb373) (.slice A0_0 l0_0.length c0_0) l0_0):=⟨h3_⟩
       have n4_:Aside0 (Kd.V Kd.string 9 w93 w.heap.size (fun k_=>((P0_0_ k_ ∨ P0_1_ k_) ∨ w.heap.size ≤ k_) ∧ some k_ ≠ (v368:Value).ownBlock ∧ some k_ ≠ (v371:Value).ownBlock ∧ k_ ≠ gb359 ∧ k_ ≠ gb360 ∧ k_ ≠ gb373) (.slice A0_1 l0_1.length c0_1) l0_1):=⟨h4_⟩
       have n5_:Aside0 (w93.heap[gb359]? = some (.cells #[.slice A0_0 l0_0.length c0_0,.slice A0_1 l0_1.length c0_1] 26 (0,0))):=⟨h5_⟩
       have n6_:Aside0 (w93.heap[gb360]? = some (.cells #[.slice none 0 0,.slice none 0 0] 26 (0,0))):=⟨h6_⟩
       have n7_:Aside0 (w93.heap[gb373]? = some (.cells #[.slice none 0 0,.slice none 0 0] 26 (0,0))):=⟨h7_⟩
       have n8_:Aside0 (w.heap.size ≤ gb373):=⟨h8_⟩
       have n9_:Aside0 (w.heap.size ≤ gb373):=⟨h9_⟩
       have n10_:Aside0 (gb359 ≠ gb373):=⟨h10_⟩
       have n11_:Aside0 (gb373 ≠ gb359):=⟨h11_⟩
       have n12_:Aside0 (gb360 ≠ gb373):=⟨h12_⟩
       have n13_:Aside0 (gb373 ≠ gb360):=⟨h13_⟩
       have n14_:Aside0 (Below w.heap.size w w93):=⟨h14_⟩
       clear HO_360000
       clear HO_360001
       clear BK359
       clear BK360
       clear HB
       clear h0_ h1_ h2_ h3_ h4_ h5_ h6_ h7_ h8_ h9_ h10_ h11_ h12_ h13_ h14_
       have HO366:=n0_
       have HO369:=n1_
       have HO372:=n2_
       have HO_360000:=n3_
       have HO_360001:=n4_
       have BK359:=n5_
       have BK360:=n6_
       have BK373:=n7_
       have GW373:=n8_
       have GE373:=n9_
       have NB359_373:=n10_
       have NB373_359:=n11_
       have NB360_373:=n12_
       have NB373_360:=n13_
       have HB:=n14_
       clear n0_ n1_ n2_ n3_ n4_ n5_ n6_ n7_ n8_ n9_ n10_ n11_ n12_ n13_ n14_
       have hHeld:w93.cell? ⟨gb359,0,none⟩ = some (.slice A0_0 l0_0.length c0_0) ∧ w93.cell? ⟨gb359,1,none⟩ = some (.slice A0_1 l0_1.length c0_1):=hS_
       obtain ⟨Ao94,co94,eo94⟩:=Kd.R_slice HO372.out
       (first|subst eo94|(injection eo94 with f1_ f2_ f3_;have f4_:=f1_.symm;have f5_:=f3_.symm;clear f1_ f2_ f3_;subst f4_;subst f5_))
       refine norm_ (a':=?_) ?_ ?_
       rotate_left
       ·simp only [putAll,Act.put,List.setIfInBounds_toArray,List.set_cons_zero,List.set_cons_succ]
        rfl
       refine one_ (i:=10) (N:=none) #[true,true,true,true,true,true,true,true,true,true,true] rfl rfl (one_of HT_.out (by kernel_rfl)) (by decide) (fun K hK=>?_)
       have hs95:w93.cell? ⟨gb373,0,none⟩ = some (.slice none 0 0):=(blk_cell BK373.out 0).trans rfl
       have hfs95:=blk_frozen BK373.out 0
       have hns95_0:=NB359_373.out
       have hns95_1:=NB360_373.out
       have hms95_0:=NB373_359.out
       have hms95_1:=NB373_360.out
       have hs96:w93.cell? ⟨gb373,1,none⟩ = some (.slice none 0 0):=(blk_cell BK373.out 1).trans rfl
       have hfs96:=blk_frozen BK373.out 1
       have hns96_0:=NB359_373.out
       have hns96_1:=NB360_373.out
       have hms96_0:=NB373_359.out
       have hms96_1:=NB373_360.out
       refine skip_ (w1:=?_) (by rfl) rfl ?_ ?_
       rotate_left
       ·go_simp
        rfl
       refine hK.out _ _ ⟨((cell_far (p:=⟨gb373,_,none⟩) NB359_373.out _).trans (((cell_far (p:=⟨gb373,_,none⟩) NB359_373.out _).trans (hHeld.1)))),((cell_far (p:=⟨gb373,_,none⟩) NB359_373.out _).trans (((cell_far (p:=⟨gb373,_,none⟩) NB359_373.out _).trans (hHeld.2))))⟩ (fun hHeld=>?_)
       clear hK K
       refine done_ (done_of HT_.out (by kernel_rfl)) ?_
       have hnb97:=NB373_359.out
       have hnc97:=NB359_373.out
       have hnb98:=NB373_360.out
       have hnc98:=NB360_373.out
       have hcz99_0:w93.cell? ⟨gb373,0,none⟩ = some (.slice none 0 0):=(blk_cell BK373.out 0).trans rfl
       have hcz99_1:w93.cell? ⟨gb373,1,none⟩ = some (.slice none 0 0):=(blk_cell BK373.out 1).trans rfl
       have hfz99_0:=blk_frozen BK373.out 0
       have hfz99_1:=blk_frozen BK373.out 1
       have hnb100:=NB360_359.out
       have hnc100:=NB359_360.out
       have hcz101_0:w93.cell? ⟨gb360,0,none⟩ = some (.slice none 0 0):=(blk_cell BK360.out 0).trans rfl
       have hcz101_1:w93.cell? ⟨gb360,1,none⟩ = some (.slice none 0 0):=(blk_cell BK360.out 1).trans rfl
       have hfz101_0:=blk_frozen BK360.out 0
       have hfz101_1:=blk_frozen BK360.out 1
       try go_wp2
       refine bodyPost_ret (results_ct rfl _ _ gb360 26 #[.slice Ao94 t370.length co94,.slice none 0 0] (0,0) _ rfl (by (with_reducible repeat (first|refine blk_drewN ?_ _|refine blk_drew ?_|refine blk_alloc ?_ _));refine blk_put (cs:=#[.slice Ao94 t370.length co94,.slice none 0 0]) ?_ 1 _ rfl;(with_reducible repeat (first|refine blk_drewN ?_ _|refine blk_drew ?_|refine blk_alloc ?_ _));refine blk_put (cs:=#[.slice none 0 0,.slice none 0 0]) ?_ 0 _ rfl;(with_reducible repeat (first|refine blk_drewN ?_ _|refine blk_drew ?_|refine blk_alloc ?_ _));refine blk_far ?_ NB360_373.out _;(with_reducible repeat (first|refine blk_drewN ?_ _|refine blk_drew ?_|refine blk_alloc ?_ _));refine blk_far ?_ NB360_373.out _;(with_reducible repeat (first|refine blk_drewN ?_ _|refine blk_drew ?_|refine blk_alloc ?_ _));exact BK360.out) Try.underlying26 rfl (by kernel_rfl)) rfl ?_
       exact ⟨_,_,Yb,by (with_reducible repeat (first|apply Kd.R_alloc|apply Kd.R_drewN|apply Kd.R_drew));exact Kd.R_mono (Kd.R_far (p:=⟨gb360,1,none⟩) (Kd.R_far (p:=⟨gb360,0,none⟩) (Kd.R_far (p:=⟨gb373,1,none⟩) (Kd.R_far (p:=⟨gb373,0,none⟩) (Kd.R_types (Kd.R_types HO372.out BK373.out (by decide)) BK360.out (by decide)) (fun _ hk=>hk.1.2) (.slice Ao94 t370.length co94)) (fun _ hk=>hk.1.2) (.slice none 0 0)) (fun _ hk=>hk.2) (.slice Ao94 t370.length co94)) (fun _ hk=>hk.2) (.slice none 0 0)) (fun _ hk=>⟨hk.1.1,ZR⟩),Yd,bH⟩
     ·rw [if_neg c34] at H
      exact absurd H (by simp)
    ·rw [if_neg c33] at H
     exact absurd H (by simp)

end Go.Proofs.Ytmgkflkfoccgkab.QFnDisk
