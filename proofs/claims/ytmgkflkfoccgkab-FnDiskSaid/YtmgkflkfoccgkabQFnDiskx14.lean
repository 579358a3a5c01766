-- Written by this session's own program (wip/x/xprint.py, over the kit's printer); Lean checks it.
import Derived.Test.YtmgkflkfoccgkabQFnDiskx0
import Derived.Test.YtmgkflkfoccgkabQFnDiskx9
import Derived.Test.YtmgkflkfoccgkabQFnDiskx12
import Derived.Test.YtmgkflkfoccgkabQFnDiskx13
namespace Go.Proofs.Ytmgkflkfoccgkab.QFnDisk
open Go.RowKit Go.Proofs.YtmgkflkfoccgkabW.PrintWords Go.Proofs.YtmgkflkfoccgkabW.PrintLast Go.Proofs.YtmgkflkfoccgkabW.PrintMore
attribute [local go_sem] max2_int min2_int max_two min_two max_three min_three max_four min_four   -- for this text's walks alone
set_option linter.unusedVariables false
set_option linter.unusedSimpArgs false

/-! ### impl_PutText: function 16 -/
mutual
def impl_PutText.j0:Nat → ByteArray → Bool → List ByteArray → List ByteArray → Option (List ByteArray × List ByteArray × Bool)
 | 0,_,_,_,_=>none
 | k + 1,x1,x18,x441000,x441001=>if x18 = true then (some (([]:List ByteArray),([]:List ByteArray),false)) else ((impl_Disk_texts.f k x441000 x441001).bind fun bt443=>((impl_Disk_size.f x441000 x441001).bind fun t447=>(if bt443.2 = t447 then ((impl_Disk_copied.f x441000 x441001).bind fun bt448=>(impl_PutText.l0 k x1 true bt448.1 bt448.2)) else (some (([]:List ByteArray),([]:List ByteArray),false)))))
def impl_PutText.l0:Nat → ByteArray → Bool → List ByteArray → List ByteArray → Option (List ByteArray × List ByteArray × Bool)
 | 0,_,_,_,_=>none
 | k + 1,x1,x9,x455000,x455001=>if x9 = true then (impl_PutText.j2 k x1 true x455000 x455001) else (impl_PutText.j2 k x1 (x1.toList != ([]:List UInt8)) x455000 x455001)
def impl_PutText.j2:Nat → ByteArray → Bool → List ByteArray → List ByteArray → Option (List ByteArray × List ByteArray × Bool)
 | 0,_,_,_,_=>none
 | k + 1,x1,x36,x455000,x455001=>if x36 = true then ((impl_Disk_size.f x455000 x455001).bind fun t455=>(if t455 = 400 then (some (([]:List ByteArray),([]:List ByteArray),false)) else ((impl_Disk_size.f x455000 x455001).bind fun t456=>(if 0 ≤ (mn (x1.size:Int) 10) then (if (mn (x1.size:Int) 10) ≤ (x1.size:Int) then ((impl_sector.f k t456 ((mn (x1.size:Int) 10) == (x1.size:Int)) (x1.extract 0 ((mn (x1.size:Int) 10):Int).toNat)).bind fun t457=>(if x455001.length < 8796093022208 then (impl_PutText.l0 k (x1.extract ((mn (x1.size:Int) 10):Int).toNat x1.size) false x455000 (x455001 ++ [t457])) else (none))) else (none)) else (none))))) else (some (x455000,x455001,true))
end
def impl_PutText.f (k:Nat) (l0_0:List ByteArray) (l0_1:List ByteArray) (a1:ByteArray):Option (List ByteArray × List ByteArray × Bool):=(impl_GoodDisk.f k l0_0 l0_1).bind fun t442=>(if t442 = true then (impl_PutText.j0 k a1 (decide ((a1.size:Int) > 1000)) l0_0 l0_1) else (impl_PutText.j0 k a1 true l0_0 l0_1))
theorem impl_PutText.mono_l:∀ k,(∀ y0 y1 y2 y3,LeO (impl_PutText.j0 k y0 y1 y2 y3) (impl_PutText.j0 (k + 1) y0 y1 y2 y3)) ∧ (∀ y0 y1 y2 y3,LeO (impl_PutText.l0 k y0 y1 y2 y3) (impl_PutText.l0 (k + 1) y0 y1 y2 y3)) ∧ (∀ y0 y1 y2 y3,LeO (impl_PutText.j2 k y0 y1 y2 y3) (impl_PutText.j2 (k + 1) y0 y1 y2 y3))
 | 0=>⟨fun _ _ _ _ r h=>by simp [impl_PutText.j0] at h,fun _ _ _ _ r h=>by simp [impl_PutText.l0] at h,fun _ _ _ _ r h=>by simp [impl_PutText.j2] at h⟩
 | k + 1=>by
  obtain ⟨ih0,ih1,ih2⟩:=impl_PutText.mono_l k
  refine ⟨?_,?_,?_⟩
  ·intro y0 y1 y2 y3
   unfold impl_PutText.j0
   have m0:=@impl_Disk_texts.mono
   have m1:=@impl_GoodDisk.mono
   have m2:=@impl_sector.mono
   exact mO
  ·intro y0 y1 y2 y3
   unfold impl_PutText.l0
   have m0:=@impl_Disk_texts.mono
   have m1:=@impl_GoodDisk.mono
   have m2:=@impl_sector.mono
   exact mO
  ·intro y0 y1 y2 y3
   unfold impl_PutText.j2
   have m0:=@impl_Disk_texts.mono
   have m1:=@impl_GoodDisk.mono
   have m2:=@impl_sector.mono
   exact mO
theorem impl_PutText.mono:∀ a0 a1 a2 k,LeO (impl_PutText.f k a0 a1 a2) (impl_PutText.f (k + 1) a0 a1 a2):=by
 intro a0 a1 a2 k
 obtain ⟨ih0,ih1,ih2⟩:=impl_PutText.mono_l k
 unfold impl_PutText.f
 have m0:=@impl_Disk_texts.mono
 have m1:=@impl_GoodDisk.mono
 have m2:=@impl_sector.mono
 exact mO
def impl_PutText.T13:Bool × List (List Nat × List Nat):=(true,[([],[]),([0],[0]),([],[]),([2],[2]),([],[]),([],[]),([5],[5]),([4,6],[4,6]),([],[]),([],[]),([8,9],[8,9]),([3,7,10,3],[3,7,10]),([11],[11]),([1,12,11],[1,12]),([0,1,2,3,4,5,6,7,8,9,10,11,12,13],[]),([14,13,13,0,1,2,3,4,5,6,7,8,9,10,11,12,13],[13,14])])
def impl_PutText.B13:List Nat:=[0,1,0,4,0,0,32,112,0,0,768,2044,4092,8191,16383,32767]
theorem impl_PutText.tab13:rtab .any (opsOf Try.f16 13) = impl_PutText.T13:=by kernel_rfl
theorem impl_PutText.bits13:waitsOk impl_PutText.T13.2 impl_PutText.B13 = true:=by kernel_rfl
set_option maxHeartbeats 8000000 in
set_option maxRecDepth 100000 in
theorem impl_PutText.calls (k:Nat) (A0_0:Option Addr) (c0_0:Nat) (l0_0:List ByteArray) (A0_1:Option Addr) (c0_1:Nat) (l0_1:List ByteArray) (a1:ByteArray) (r1:List ByteArray) (r2:List ByteArray) (r3:Bool) (w:World) (hr0_0:Kd.C Kd.string w A0_0 l0_0.length l0_0) (hc0_0:l0_0.length ≤ c0_0) (hr0_1:Kd.C Kd.string w A0_1 l0_1.length l0_1) (hc0_1:l0_1.length ≤ c0_1) (h:impl_PutText.f k l0_0 l0_1 a1 = some (r1,r2,r3)) :
  Calls Try.prog 16 #[.agg #[.slice A0_0 l0_0.length c0_0,.slice A0_1 l0_1.length c0_1],.string a1] w fun e w'=>∃ v0_ v1_:Value,e = .returned (.tuple #[.agg #[v0_,v1_],.bool r3]) ∧ Kd.R Kd.string 9 w' w.heap.size (fun k_=>some k_ ≠ (v1_:Value).ownBlock) v0_ r1 ∧ Kd.R Kd.string 9 w' w.heap.size (fun k_=>some k_ ≠ (v0_:Value).ownBlock) v1_ r2 ∧ Below w.heap.size w w':=by
 have hu26:=Try.underlying26
 have HR0_0:=Aside0.mk hr0_0
 have HC0_0:=Aside0.mk hc0_0
 clear hr0_0 hc0_0
 have HR0_1:=Aside0.mk hr0_1
 have HC0_1:=Aside0.mk hc0_1
 clear hr0_1 hc0_1
 have HB:=Aside0.mk (Below.refl w.heap.size w)
 have H:((impl_GoodDisk.f k l0_0 l0_1).bind fun t442=>(if t442 = true then (impl_PutText.j0 k a1 (decide ((a1.size:Int) > 1000)) l0_0 l0_1) else (impl_PutText.j0 k a1 true l0_0 l0_1))) = some (r1,r2,r3):=h
 clear h
 have HC3:=Aside0.mk H
 clear H
 go_enter Try.func16,Try.ntmps16
 go_upto_region 1 with (first|((with_reducible refine gate_dst (N:=2) rfl ?_);(try (refine gate_guard (by rfl) ?_;dsimp only));refine box_event ?hg (N:=2) ?hd (cs:=#[.slice A0_0 l0_0.length c0_0,.slice A0_1 l0_1.length c0_1]) (t:=26) ?hr ?_;(case hd=>rfl);(case hg=>rfl);(case hr=>exact Yg);intro gb440 hg w4 hbox hb;have BK440:=Aside0.mk (hbox);have GW440:=Aside0.mk ((hZ:w.heap.size ≤ gb440));have GE440:=Aside0.mk ((hZ:w.heap.size ≤ gb440));replace HB:=Aside0.mk (below_step bH hb);clear hb hbox hg)|((with_reducible refine gate_dst (N:=4) rfl ?_);(try (refine gate_guard (by rfl) ?_;dsimp only));refine box_event ?hg (N:=4) ?hd (cs:=#[.slice none 0 0,.slice none 0 0]) (t:=26) ?hr ?_;(case hd=>rfl);(case hg=>rfl);(case hr=>exact Yg);intro gb441 hg w5 hbox hb;have BK441:=Aside0.mk (hbox);have GW441:=Aside0.mk ((hZ:w.heap.size ≤ gb441));have GE441:=Aside0.mk ((hZ:w.heap.size ≤ gb441));replace HB:=Aside0.mk (below_step bH hb);have NB440_441:=Aside0.mk ((nL BK440:gb440 ≠ gb441));have NB441_440:=Aside0.mk ((nG BK440:gb441 ≠ gb440));replace BK440:=Aside0.mk (blk_below (bB BK440) hb);clear hb hbox hg))
 (try simp only [Act.put,List.setIfInBounds_toArray,List.set_cons_zero,List.set_cons_succ])
 go_cut [18] (fun v18 wc=>∃ (kq:Nat) (x18_2:Bool),v18 = .bool x18_2 ∧ Aside0 (impl_PutText.j0 kq a1 x18_2 l0_0 l0_1 = some (r1,r2,r3)) ∧ Aside0 (kq ≤ k) ∧ Aside0 (wc.heap[gb440]? = some (.cells #[(.slice A0_0 l0_0.length c0_0),(.slice A0_1 l0_1.length c0_1)] 26 (0,0))) ∧ Aside0 (wc.heap[gb441]? = some (.cells #[(.slice none 0 0),(.slice none 0 0)] 26 (0,0))) ∧ Aside0 (Below w.heap.size w wc))
 case first =>
  have H:=HC3.out
  clear HC3
  replace H:=Option.bind_eq_some_iff.mp H
  obtain ⟨t442,A60,H⟩:=H
  replace H:(if t442 = true then (impl_PutText.j0 k a1 (decide ((a1.size:Int) > 1000)) l0_0 l0_1) else (impl_PutText.j0 k a1 true l0_0 l0_1)) = some (r1,r2,r3):=H
  have A6:=Aside0.mk A60
  clear A60
  by_cases c7:t442 = true
  ·subst c7
   have H1:(impl_PutText.j0 k a1 (decide ((a1.size:Int) > 1000)) l0_0 l0_1) = some (r1,r2,r3):=by rw [if_pos rfl] at H;exact H
   clear H
   have H:=H1
   clear H1
   have H':=Aside0.mk H
   clear H
   have hnb8:=NB440_441.out
   have hnc8:=NB441_440.out
   have hcz9_0:w5.cell? ⟨gb440,0,none⟩ = some (.slice A0_0 l0_0.length c0_0):=(blk_cell BK440.out 0).trans rfl
   have hcz9_1:w5.cell? ⟨gb440,1,none⟩ = some (.slice A0_1 l0_1.length c0_1):=(blk_cell BK440.out 1).trans rfl
   have hfz9_0:=blk_frozen BK440.out 0
   have hfz9_1:=blk_frozen BK440.out 1
   go_wp2_with (first|((with_reducible refine gate_callee (f:=11) rfl ?_);refine goesL_ (some 12) rfl rfl Try.func11 (by kernel_rfl) rfl #[.agg #[.slice A0_0 l0_0.length c0_0,.slice A0_1 l0_1.length c0_1]] rfl Ya ?_;(with_reducible refine (impl_GoodDisk.calls k (fun k_=>k_ < w.heap.size) _ _ l0_0 (fun k_=>k_ < w.heap.size) _ _ l0_1 true _ ?side1 ?side2 A6.out).mono ?_);(case side1=>exact YA);(case side2=>exact Yz);rintro e w10 ⟨rfl,hb⟩;refine ⟨_,rfl,?_⟩;replace BK440:=Aside0.mk (blk_below (bB BK440) hb);replace BK441:=Aside0.mk (blk_below (bB BK441) hb);replace HB:=Aside0.mk (below_step bH hb);(try clear hb);(try clear hb2);(try clear hk);(try clear hi)))
   go_meet
   case rel=>exact ⟨_,(decide ((a1.size:Int) > 1000)),Yh,H',⟨YQ⟩,⟨Zy⟩,⟨Zx⟩,⟨bH⟩⟩
  ·replace c7:=Bool.eq_false_iff.mpr c7
   subst c7
   have H1:(impl_PutText.j0 k a1 true l0_0 l0_1) = some (r1,r2,r3):=by rw [if_neg (show ¬ (false = true) by decide)] at H;exact H
   clear H
   have H:=H1
   clear H1
   have H':=Aside0.mk H
   clear H
   have hnb11:=NB440_441.out
   have hnc11:=NB441_440.out
   have hcz12_0:w5.cell? ⟨gb440,0,none⟩ = some (.slice A0_0 l0_0.length c0_0):=(blk_cell BK440.out 0).trans rfl
   have hcz12_1:w5.cell? ⟨gb440,1,none⟩ = some (.slice A0_1 l0_1.length c0_1):=(blk_cell BK440.out 1).trans rfl
   have hfz12_0:=blk_frozen BK440.out 0
   have hfz12_1:=blk_frozen BK440.out 1
   go_wp2_with (first|((with_reducible refine gate_callee (f:=11) rfl ?_);refine goesL_ (some 12) rfl rfl Try.func11 (by kernel_rfl) rfl #[.agg #[.slice A0_0 l0_0.length c0_0,.slice A0_1 l0_1.length c0_1]] rfl Ya ?_;(with_reducible refine (impl_GoodDisk.calls k (fun k_=>k_ < w.heap.size) _ _ l0_0 (fun k_=>k_ < w.heap.size) _ _ l0_1 false _ ?side1 ?side2 A6.out).mono ?_);(case side1=>exact YA);(case side2=>exact Yz);rintro e w13 ⟨rfl,hb⟩;refine ⟨_,rfl,?_⟩;replace BK440:=Aside0.mk (blk_below (bB BK440) hb);replace BK441:=Aside0.mk (blk_below (bB BK441) hb);replace HB:=Aside0.mk (below_step bH hb);(try clear hb);(try clear hb2);(try clear hk);(try clear hi)))
   go_meet
   case rel=>exact ⟨_,(true),Yh,H',⟨YQ⟩,⟨Zy⟩,⟨Zx⟩,⟨bH⟩⟩
 case rest =>
  clear HC3
  try clear c1
  try clear p2
  try clear c7
  try clear c8
  try clear c11
  try clear hcz12_0
  try clear hcz12_1
  try clear hcz9_0
  try clear hcz9_1
  try clear hfz12_0
  try clear hfz12_1
  try clear hfz9_0
  try clear hfz9_1
  obtain ⟨kq,x18_2,rfl,HA,HJ2,BK440,BK441,HB⟩:=hcut
  cases kq with
  | zero=>exact absurd HA.out (by simp [impl_PutText.j0])
  | succ kj2 =>
   have H:=HA.out
   clear HA
   simp only [impl_PutText.j0] at H
   by_cases c14:x18_2 = true
   ·subst c14
    have H1:(some (([]:List ByteArray),([]:List ByteArray),false)) = some (r1,r2,r3):=by rw [if_pos rfl] at H;exact H
    clear H
    have H:=H1
    clear H1
    simp only [Option.some.injEq,Prod.mk.injEq] at H
    obtain ⟨rfl,rfl,rfl⟩:=H
    have hnb15:=NB441_440.out
    have hnc15:=NB440_441.out
    have hcz16_0:wc.cell? ⟨gb441,0,none⟩ = some (.slice none 0 0):=(blk_cell BK441.out 0).trans rfl
    have hcz16_1:wc.cell? ⟨gb441,1,none⟩ = some (.slice none 0 0):=(blk_cell BK441.out 1).trans rfl
    have hfz16_0:=blk_frozen BK441.out 0
    have hfz16_1:=blk_frozen BK441.out 1
    go_wp2
    refine bodyPost_ret (results_ct rfl _ _ gb441 26 #[.slice none 0 0,.slice none 0 0] (0,0) _ rfl Yt Try.underlying26 rfl (by kernel_rfl)) rfl ?_
    exact ⟨_,_,Yb,Yd,Yd,bH⟩
   ·replace c14:=Bool.eq_false_iff.mpr c14
    subst c14
    have H1:((impl_Disk_texts.f kj2 l0_0 l0_1).bind fun bt443=>((impl_Disk_size.f l0_0 l0_1).bind fun t447=>(if bt443.2 = t447 then ((impl_Disk_copied.f l0_0 l0_1).bind fun bt448=>(impl_PutText.l0 kj2 a1 true bt448.1 bt448.2)) else (some (([]:List ByteArray),([]:List ByteArray),false))))) = some (r1,r2,r3):=by rw [if_neg (show ¬ (false = true) by decide)] at H;exact H
    clear H
    have H:=H1
    clear H1
    replace H:=Option.bind_eq_some_iff.mp H
    obtain ⟨⟨t443,t446⟩,A170,H⟩:=H
    replace H:((impl_Disk_size.f l0_0 l0_1).bind fun t447=>(if t446 = t447 then ((impl_Disk_copied.f l0_0 l0_1).bind fun bt448=>(impl_PutText.l0 kj2 a1 true bt448.1 bt448.2)) else (some (([]:List ByteArray),([]:List ByteArray),false)))) = some (r1,r2,r3):=H
    have A17:=Aside0.mk A170
    clear A170
    replace H:=Option.bind_eq_some_iff.mp H
    obtain ⟨t447,A180,H⟩:=H
    replace H:(if t446 = t447 then ((impl_Disk_copied.f l0_0 l0_1).bind fun bt448=>(impl_PutText.l0 kj2 a1 true bt448.1 bt448.2)) else (some (([]:List ByteArray),([]:List ByteArray),false))) = some (r1,r2,r3):=H
    have A18:=Aside0.mk A180
    clear A180
    by_cases c19:t446 = t447
    ·rw [if_pos c19] at H
     have c19b0:(t446 == t447) = true:=beq_iff_eq.mpr c19
     have c19b1:(t446 != t447) = false:=bne_eq_false_iff_eq.mpr c19
     clear c19
     replace H:=Option.bind_eq_some_iff.mp H
     obtain ⟨⟨t448,t451⟩,A200,H⟩:=H
     replace H:(impl_PutText.l0 kj2 a1 true t448 t451) = some (r1,r2,r3):=H
     have A20:=Aside0.mk A200
     clear A200
     have H':=Aside0.mk H
     clear H
     have hnb21:=NB440_441.out
     have hnc21:=NB441_440.out
     have hcz22_0:wc.cell? ⟨gb440,0,none⟩ = some (.slice A0_0 l0_0.length c0_0):=(blk_cell BK440.out 0).trans rfl
     have hcz22_1:wc.cell? ⟨gb440,1,none⟩ = some (.slice A0_1 l0_1.length c0_1):=(blk_cell BK440.out 1).trans rfl
     have hfz22_0:=blk_frozen BK440.out 0
     have hfz22_1:=blk_frozen BK440.out 1
     go_wp2_with (first|((with_reducible refine gate_callee (f:=50) rfl ?_);refine goesL_ (some 22) rfl rfl Try.func50 (by kernel_rfl) rfl #[.agg #[.slice A0_0 l0_0.length c0_0,.slice A0_1 l0_1.length c0_1]] rfl Ya ?_;(with_reducible refine (impl_Disk_texts.calls kj2 (fun k_=>k_ < w.heap.size) _ _ l0_0 (fun k_=>k_ < w.heap.size) _ _ l0_1 t443 t446 _ ?side1 ?side2 A17.out).mono ?_);(case side1=>exact YA);(case side2=>exact Yz);rintro e w23 ⟨v444,rfl,ho0,hb⟩;refine ⟨_,rfl,?_⟩;have HO445:=Aside0.mk (Kd.R_lower (Kd.R_mono (ok':=fun k_=>True) ho0 (fun _ hk_=>trivial)) (below_size bH));replace BK440:=Aside0.mk (blk_below (bB BK440) hb);replace BK441:=Aside0.mk (blk_below (bB BK441) hb);replace HB:=Aside0.mk (below_step bH hb);(try clear hb);(try clear hb2);(try clear hk);(try clear hi);(try clear ho0);have hcz24_0:w23.cell? ⟨gb440,0,none⟩ = some (.slice A0_0 l0_0.length c0_0):=(blk_cell BK440.out 0).trans rfl;have hcz24_1:w23.cell? ⟨gb440,1,none⟩ = some (.slice A0_1 l0_1.length c0_1):=(blk_cell BK440.out 1).trans rfl;have hfz24_0:=blk_frozen BK440.out 0;have hfz24_1:=blk_frozen BK440.out 1)|((with_reducible refine gate_callee (f:=47) rfl ?_);refine goesL_ (some 27) rfl rfl Try.func47 (by kernel_rfl) rfl #[.agg #[.slice A0_0 l0_0.length c0_0,.slice A0_1 l0_1.length c0_1]] rfl Ya ?_;(with_reducible refine (impl_Disk_size.calls _ _ l0_0 _ _ l0_1 t447 _ ?side1 ?side2 ?side3 ?side4 A18.out).mono ?_);(case side1=>exact ZB);(case side2=>exact ZL);(case side3=>exact ZP);(case side4=>exact ZO);rintro e w25 ⟨rfl,hb⟩;refine ⟨_,rfl,?_⟩;replace HO445:=Aside0.mk (Kd.R_below (rR HO445) hb);replace BK440:=Aside0.mk (blk_below (bB BK440) hb);replace BK441:=Aside0.mk (blk_below (bB BK441) hb);replace HB:=Aside0.mk (below_step bH hb);(try clear hb);(try clear hb2);(try clear hk);(try clear hi);have hcz26_0:w25.cell? ⟨gb440,0,none⟩ = some (.slice A0_0 l0_0.length c0_0):=(blk_cell BK440.out 0).trans rfl;have hcz26_1:w25.cell? ⟨gb440,1,none⟩ = some (.slice A0_1 l0_1.length c0_1):=(blk_cell BK440.out 1).trans rfl;have hfz26_0:=blk_frozen BK440.out 0;have hfz26_1:=blk_frozen BK440.out 1)|((with_reducible refine gate_callee (f:=52) rfl ?_);refine goesL_ (some 31) rfl rfl Try.func52 (by kernel_rfl) rfl #[.agg #[.slice A0_0 l0_0.length c0_0,.slice A0_1 l0_1.length c0_1]] rfl Ya ?_;(with_reducible refine (impl_Disk_copied.calls _ _ l0_0 _ _ l0_1 t448 t451 _ ?side1 ?side2 ?side3 ?side4 A20.out).mono ?_);(case side1=>exact ZB);(case side2=>exact ZL);(case side3=>exact ZP);(case side4=>exact ZO);rintro e w27 ⟨v449,v452,rfl,ho0,ho1,hb⟩;refine ⟨_,rfl,?_⟩;have HO450:=Aside0.mk (Kd.R_lower (Kd.R_new' ho0 (Kd.R_lt (rR HO445))) (below_size bH));have HO453:=Aside0.mk (Kd.R_lower (Kd.R_new' ho1 (Kd.R_lt (rR HO445))) (below_size bH));replace HO445:=Aside0.mk (Kd.R_mono (Kd.R_told (Kd.R_told (Kd.R_old (rR HO445) hb) (Kd.R_base ho0)) (Kd.R_base ho1)) (fun _ h_=>h_.1));replace BK440:=Aside0.mk (blk_below (bB BK440) hb);replace BK441:=Aside0.mk (blk_below (bB BK441) hb);replace HB:=Aside0.mk (below_step bH hb);(try clear hb);(try clear hb2);(try clear hk);(try clear hi);(try clear ho0);(try clear ho1))|((with_reducible refine gate_dst (N:=8) rfl ?_);(try (refine gate_guard (by rfl) ?_;dsimp only));refine box_event ?hg (N:=8) ?hd (cs:=#[.slice none 0 0,.slice none 0 0]) (t:=26) ?hr ?_;(case hd=>rfl);(case hg=>rfl);(case hr=>exact Yg);intro gb454 hg w28 hbox hb;replace HO445:=Aside0.mk (Kd.R_below (rR HO445) hb);replace HO450:=Aside0.mk (Kd.R_below (rR HO450) hb);replace HO453:=Aside0.mk (Kd.R_below (rR HO453) hb);have BK454:=Aside0.mk (hbox);have GW454:=Aside0.mk ((hZ:w.heap.size ≤ gb454));have GE454:=Aside0.mk ((hZ:w.heap.size ≤ gb454));replace HB:=Aside0.mk (below_step bH hb);have NB440_454:=Aside0.mk ((nL BK440:gb440 ≠ gb454));have NB454_440:=Aside0.mk ((nG BK440:gb454 ≠ gb440));replace BK440:=Aside0.mk (blk_below (bB BK440) hb);have NB441_454:=Aside0.mk ((nL BK441:gb441 ≠ gb454));have NB454_441:=Aside0.mk ((nG BK441:gb454 ≠ gb441));replace BK441:=Aside0.mk (blk_below (bB BK441) hb);clear hb hbox hg;obtain ⟨Ao29,co29,eo29⟩:=Kd.R_slice HO450.out;subst eo29;have hnb30:=NB454_440.out;have hnc30:=NB440_454.out;have hnb31:=NB454_441.out;have hnc31:=NB441_454.out;have hcz32_0:w28.cell? ⟨gb454,0,none⟩ = some (.slice none 0 0):=(blk_cell BK454.out 0).trans rfl;have hcz32_1:w28.cell? ⟨gb454,1,none⟩ = some (.slice none 0 0):=(blk_cell BK454.out 1).trans rfl;have hfz32_0:=blk_frozen BK454.out 0;have hfz32_1:=blk_frozen BK454.out 1;obtain ⟨Ao33,co33,eo33⟩:=Kd.R_slice HO453.out;subst eo33))
     go_loopg [1,9] kj2 (fun kq v1 v9 w'=>∃ (x1_2:ByteArray) (x9_2:Bool) (x455001_2:List ByteArray) (u455001:Value),v1 = .string x1_2 ∧ v9 = .bool x9_2 ∧ Aside0 (impl_PutText.l0 kq x1_2 x9_2 t448 x455001_2 = some (r1,r2,r3)) ∧ Aside0 (kq ≤ kj2) ∧ Aside0 (Kd.R Kd.string 9 w' w.heap.size (fun k_=>some k_ ≠ (u455001:Value).ownBlock) (.slice Ao29 t448.length co29) t448) ∧ Aside0 (Kd.R Kd.string 9 w' w.heap.size (fun k_=>some k_ ≠ ((.slice Ao29 t448.length co29):Value).ownBlock) u455001 x455001_2) ∧ Aside0 (w'.heap[gb440]? = some (.cells #[(.slice A0_0 l0_0.length c0_0),(.slice A0_1 l0_1.length c0_1)] 26 (0,0))) ∧ Aside0 (w'.heap[gb441]? = some (.cells #[(.slice none 0 0),(.slice none 0 0)] 26 (0,0))) ∧ Aside0 (w'.heap[gb454]? = some (.cells #[(.slice Ao29 t448.length co29),u455001] 26 (0,0))) ∧ Aside0 (Below w.heap.size w w'))
     case atStart=>exact ⟨(a1),(true),(t451),(.slice Ao33 t451.length co33),Yh,Yh,H',⟨Nat.le_refl _⟩,⟨by (with_reducible repeat (first|apply Kd.R_alloc|apply Kd.R_drewN|apply Kd.R_drew));exact Kd.R_mono (Kd.R_far (p:=⟨gb454,1,none⟩) (Kd.R_far (p:=⟨gb454,0,none⟩) (Kd.R_types HO450.out BK454.out (by decide)) (fun _ hk=>hk.2) (.slice Ao29 t448.length co29)) (fun _ hk=>hk.2) (.slice Ao33 t451.length co33)) (fun _ hk=>hk.1.1)⟩,⟨by (with_reducible repeat (first|apply Kd.R_alloc|apply Kd.R_drewN|apply Kd.R_drew));exact Kd.R_mono (Kd.R_far (p:=⟨gb454,1,none⟩) (Kd.R_far (p:=⟨gb454,0,none⟩) (Kd.R_types HO453.out BK454.out (by decide)) (fun _ hk=>hk.2) (.slice Ao29 t448.length co29)) (fun _ hk=>hk.2) (.slice Ao33 t451.length co33)) (fun _ hk=>hk.1.1)⟩,⟨by (with_reducible repeat (first|refine blk_drewN ?_ _|refine blk_drew ?_|refine blk_alloc ?_ _));refine blk_far ?_ NB440_454.out _;(with_reducible repeat (first|refine blk_drewN ?_ _|refine blk_drew ?_|refine blk_alloc ?_ _));refine blk_far ?_ NB440_454.out _;(with_reducible repeat (first|refine blk_drewN ?_ _|refine blk_drew ?_|refine blk_alloc ?_ _));exact BK440.out⟩,⟨by (with_reducible repeat (first|refine blk_drewN ?_ _|refine blk_drew ?_|refine blk_alloc ?_ _));refine blk_far ?_ NB441_454.out _;(with_reducible repeat (first|refine blk_drewN ?_ _|refine blk_drew ?_|refine blk_alloc ?_ _));refine blk_far ?_ NB441_454.out _;(with_reducible repeat (first|refine blk_drewN ?_ _|refine blk_drew ?_|refine blk_alloc ?_ _));exact BK441.out⟩,⟨by (with_reducible repeat (first|refine blk_drewN ?_ _|refine blk_drew ?_|refine blk_alloc ?_ _));refine blk_put (cs:=#[.slice Ao29 t448.length co29,.slice none 0 0]) ?_ 1 _ rfl;(with_reducible repeat (first|refine blk_drewN ?_ _|refine blk_drew ?_|refine blk_alloc ?_ _));refine blk_put (cs:=#[.slice none 0 0,.slice none 0 0]) ?_ 0 _ rfl;(with_reducible repeat (first|refine blk_drewN ?_ _|refine blk_drew ?_|refine blk_alloc ?_ _));exact BK454.out⟩,⟨bH⟩⟩
     case round =>
      clear H'
      try clear c1
      try clear c2
      try clear p2
      try clear c3
      try clear c4
      try clear c5
      try clear c7
      try clear c8
      try clear c11
      try clear c14
      try clear c15
      try clear c16
      try clear c19
      try clear c19b0
      try clear c19b1
      try clear c21
      try clear c30
      try clear c31
      try clear hcz12_0
      try clear hcz12_1
      try clear hcz16_0
      try clear hcz16_1
      try clear hcz22_0
      try clear hcz22_1
      try clear hcz24_0
      try clear hcz24_1
      try clear hcz26_0
      try clear hcz26_1
      try clear hcz32_0
      try clear hcz32_1
      try clear hcz9_0
      try clear hcz9_1
      try clear hfz12_0
      try clear hfz12_1
      try clear hfz16_0
      try clear hfz16_1
      try clear hfz22_0
      try clear hfz22_1
      try clear hfz24_0
      try clear hfz24_1
      try clear hfz26_0
      try clear hfz26_1
      try clear hfz32_0
      try clear hfz32_1
      try clear hfz9_0
      try clear hfz9_1
      try clear p2
      obtain ⟨x1_2,x9_2,x455001_2,u455001,rfl,rfl,HA,HK2,HO_455000,HO_455001,BK440,BK441,BK454,HB⟩:=hrel
      cases gk with
      | zero=>exact absurd HA.out (by simp [impl_PutText.l0])
      | succ k2 =>
       have H:=HA.out
       clear HA
       simp only [impl_PutText.l0] at H
       have HC34:=Aside0.mk H
       clear H
       go_upto_region 8 with (fail)
       go_cut [36] (fun v36 wc=>∃ (kq:Nat) (x36_33:Bool),v36 = .bool x36_33 ∧ Aside0 (impl_PutText.j2 kq x1_2 x36_33 t448 x455001_2 = some (r1,r2,r3)) ∧ Aside0 (kq ≤ k2) ∧ Aside0 (Kd.R Kd.string 9 wc w.heap.size (fun k_=>some k_ ≠ (u455001:Value).ownBlock) (.slice Ao29 t448.length co29) t448) ∧ Aside0 (Kd.R Kd.string 9 wc w.heap.size (fun k_=>some k_ ≠ ((.slice Ao29 t448.length co29):Value).ownBlock) u455001 x455001_2) ∧ Aside0 (wc.heap[gb440]? = some (.cells #[(.slice A0_0 l0_0.length c0_0),(.slice A0_1 l0_1.length c0_1)] 26 (0,0))) ∧ Aside0 (wc.heap[gb441]? = some (.cells #[(.slice none 0 0),(.slice none 0 0)] 26 (0,0))) ∧ Aside0 (wc.heap[gb454]? = some (.cells #[(.slice Ao29 t448.length co29),u455001] 26 (0,0))) ∧ Aside0 (Below w.heap.size w wc))
       case first =>
        have H:=HC34.out
        clear HC34
        by_cases c35:x9_2 = true
        ·subst c35
         have H1:(impl_PutText.j2 k2 x1_2 true t448 x455001_2) = some (r1,r2,r3):=by rw [if_pos rfl] at H;exact H
         clear H
         have H:=H1
         clear H1
         have H':=Aside0.mk H
         clear H
         go_wp2
         go_meet
         case rel=>exact ⟨_,(true),Yh,H',⟨by have:=HJ2.out;have:=HK2.out;first|omega|exact Nat.le_refl _⟩,⟨rR HO_455000⟩,⟨rR HO_455001⟩,⟨Zy⟩,⟨Zx⟩,⟨by (with_reducible repeat (first|refine blk_drewN ?_ _|refine blk_drew ?_|refine blk_alloc ?_ _));exact BK454.out⟩,⟨bH⟩⟩
        ·replace c35:=Bool.eq_false_iff.mpr c35
         subst c35
         have H1:(impl_PutText.j2 k2 x1_2 (x1_2.toList != ([]:List UInt8)) t448 x455001_2) = some (r1,r2,r3):=by rw [if_neg (show ¬ (false = true) by decide)] at H;exact H
         clear H
         have H:=H1
         clear H1
         have H':=Aside0.mk H
         clear H
         go_wp2
         go_meet
         case rel=>exact ⟨_,((x1_2.toList != ([]:List UInt8))),(by first|rfl|(simp;done)|(simp [*];done)|(simp;rw [Bool.eq_iff_iff];simp;done)),H',⟨by have:=HJ2.out;have:=HK2.out;first|omega|exact Nat.le_refl _⟩,⟨rR HO_455000⟩,⟨rR HO_455001⟩,⟨Zy⟩,⟨Zx⟩,⟨by (with_reducible repeat (first|refine blk_drewN ?_ _|refine blk_drew ?_|refine blk_alloc ?_ _));exact BK454.out⟩,⟨bH⟩⟩
       case rest =>
        clear HC34
        try clear c1
        try clear c2
        try clear p2
        try clear c3
        try clear c4
        try clear c5
        try clear c7
        try clear c8
        try clear c11
        try clear c14
        try clear c15
        try clear c16
        try clear c19
        try clear c19b0
        try clear c19b1
        try clear c21
        try clear c30
        try clear c31
        try clear c35
        try clear hcz12_0
        try clear hcz12_1
        try clear hcz16_0
        try clear hcz16_1
        try clear hcz22_0
        try clear hcz22_1
        try clear hcz24_0
        try clear hcz24_1
        try clear hcz26_0
        try clear hcz26_1
        try clear hcz32_0
        try clear hcz32_1
        try clear hcz9_0
        try clear hcz9_1
        try clear hfz12_0
        try clear hfz12_1
        try clear hfz16_0
        try clear hfz16_1
        try clear hfz22_0
        try clear hfz22_1
        try clear hfz24_0
        try clear hfz24_1
        try clear hfz26_0
        try clear hfz26_1
        try clear hfz32_0
        try clear hfz32_1
        try clear hfz9_0
        try clear hfz9_1
        try clear p2
        obtain ⟨kq,x36_33,rfl,HA,HJ33,HO_455000,HO_455001,BK440,BK441,BK454,HB⟩:=hcut
        cases kq with
        | zero=>exact absurd HA.out (by simp [impl_PutText.j2])
        | succ kj33 =>
         have H:=HA.out
         clear HA
         simp only [impl_PutText.j2] at H
         by_cases c36:x36_33 = true
         ·subst c36
          have H1:((impl_Disk_size.f t448 x455001_2).bind fun t455=>(if t455 = 400 then (some (([]:List ByteArray),([]:List ByteArray),false)) else ((impl_Disk_size.f t448 x455001_2).bind fun t456=>(if 0 ≤ (mn (x1_2.size:Int) 10) then (if (mn (x1_2.size:Int) 10) ≤ (x1_2.size:Int) then ((impl_sector.f kj33 t456 ((mn (x1_2.size:Int) 10) == (x1_2.size:Int)) (x1_2.extract 0 ((mn (x1_2.size:Int) 10):Int).toNat)).bind fun t457=>(if x455001_2.length < 8796093022208 then (impl_PutText.l0 kj33 (x1_2.extract ((mn (x1_2.size:Int) 10):Int).toNat x1_2.size) false t448 (x455001_2 ++ [t457])) else (none))) else (none)) else (none))))) = some (r1,r2,r3):=by rw [if_pos rfl] at H;exact H
          clear H
          have H:=H1
          clear H1
          obtain ⟨ji37,hji37⟩:∃ j_:Int,(mn (x1_2.size:Int) 10) = j_:=⟨_,rfl⟩
          replace H:((impl_Disk_size.f t448 x455001_2).bind fun t455=>(if t455 = 400 then (some (([]:List ByteArray),([]:List ByteArray),false)) else ((impl_Disk_size.f t448 x455001_2).bind fun t456=>(if 0 ≤ (ji37) then (if (ji37) ≤ (x1_2.size:Int) then ((impl_sector.f kj33 t456 ((ji37) == (x1_2.size:Int)) (x1_2.extract 0 ((ji37):Int).toNat)).bind fun t457=>(if x455001_2.length < 8796093022208 then (impl_PutText.l0 kj33 (x1_2.extract ((ji37):Int).toNat x1_2.size) false t448 (x455001_2 ++ [t457])) else (none))) else (none)) else (none))))) = some (r1,r2,r3):=by first|(rw [hji37] at H;exact H)|(simp only [hji37] at H ⊢;exact H)
          have hji37_:(if 10 < (x1_2.size:Int) then 10 else (x1_2.size:Int)) = ji37:=hji37
          replace H:=Option.bind_eq_some_iff.mp H
          obtain ⟨t455,A380,H⟩:=H
          replace H:(if t455 = 400 then (some (([]:List ByteArray),([]:List ByteArray),false)) else ((impl_Disk_size.f t448 x455001_2).bind fun t456=>(if 0 ≤ (ji37) then (if (ji37) ≤ (x1_2.size:Int) then ((impl_sector.f kj33 t456 ((ji37) == (x1_2.size:Int)) (x1_2.extract 0 ((ji37):Int).toNat)).bind fun t457=>(if x455001_2.length < 8796093022208 then (impl_PutText.l0 kj33 (x1_2.extract ((ji37):Int).toNat x1_2.size) false t448 (x455001_2 ++ [t457])) else (none))) else (none)) else (none)))) = some (r1,r2,r3):=H
          have A38:=Aside0.mk A380
          clear A380
          by_cases c39:t455 = 400
          ·rw [if_pos c39] at H
           have c39b0:(t455 == 400) = true:=beq_iff_eq.mpr c39
           have c39b1:(t455 != 400) = false:=bne_eq_false_iff_eq.mpr c39
           clear c39
           simp only [Option.some.injEq,Prod.mk.injEq] at H
           obtain ⟨rfl,rfl,rfl⟩:=H
           have hnb40:=NB454_440.out
           have hnc40:=NB440_454.out
           have hnb41:=NB454_441.out
           have hnc41:=NB441_454.out
           have hcz42_0:wc.cell? ⟨gb454,0,none⟩ = some (.slice Ao29 t448.length co29):=(blk_cell BK454.out 0).trans rfl
           have hcz42_1:wc.cell? ⟨gb454,1,none⟩ = some (u455001):=(blk_cell BK454.out 1).trans rfl
           have hfz42_0:=blk_frozen BK454.out 0
           have hfz42_1:=blk_frozen BK454.out 1
           obtain ⟨Ao43,co43,eo43⟩:=Kd.R_slice HO_455001.out
           subst eo43
           go_wp2_with (first|((with_reducible refine gate_callee (f:=47) rfl ?_);refine goesL_ (some 41) rfl rfl Try.func47 (by kernel_rfl) rfl #[.agg #[.slice Ao29 t448.length co29,.slice Ao43 x455001_2.length co43]] rfl Ya ?_;(with_reducible refine (impl_Disk_size.calls _ _ t448 _ _ x455001_2 t455 _ ?side1 ?side2 ?side3 ?side4 A38.out).mono ?_);(case side1=>repeat (first|exact (Kd.R_reads' HO_455000.out).2.2|(with_reducible refine Kd.C_alloc ?_ _)|(with_reducible refine Kd.C_drewN ?_ _)|(with_reducible refine Kd.C_drew ?_)));(case side2=>exact (Kd.R_reads' HO_455000.out).2.1);(case side3=>repeat (first|exact (Kd.R_reads' HO_455001.out).2.2|(with_reducible refine Kd.C_alloc ?_ _)|(with_reducible refine Kd.C_drewN ?_ _)|(with_reducible refine Kd.C_drew ?_)));(case side4=>exact (Kd.R_reads' HO_455001.out).2.1);rintro e w44 ⟨rfl,hb⟩;refine ⟨_,rfl,?_⟩;replace HO_455000:=Aside0.mk (Kd.R_below (rR HO_455000) hb);replace HO_455001:=Aside0.mk (Kd.R_below (rR HO_455001) hb);replace BK440:=Aside0.mk (blk_below (bB BK440) hb);replace BK441:=Aside0.mk (blk_below (bB BK441) hb);replace BK454:=Aside0.mk (blk_below (bB BK454) hb);replace HB:=Aside0.mk (below_step bH hb);(try clear hb);(try clear hb2);(try clear hk);(try clear hi);have hnb45:=NB441_440.out;have hnc45:=NB440_441.out;have hcz46_0:w44.cell? ⟨gb441,0,none⟩ = some (.slice none 0 0):=(blk_cell BK441.out 0).trans rfl;have hcz46_1:w44.cell? ⟨gb441,1,none⟩ = some (.slice none 0 0):=(blk_cell BK441.out 1).trans rfl;have hfz46_0:=blk_frozen BK441.out 0;have hfz46_1:=blk_frozen BK441.out 1))
           refine bodyPost_ret (results_ct rfl _ _ gb441 26 #[.slice none 0 0,.slice none 0 0] (0,0) _ rfl Yt Try.underlying26 rfl (by kernel_rfl)) rfl ?_
           exact ⟨_,_,by first|rfl|(simp [errW_none,errW_some] <;> rfl)|(simp only [← hji37];first|rfl|(simp [errW_none,errW_some] <;> rfl))|(simp [*,errW_none,errW_some] <;> rfl),Yd,Yd,bH⟩
          ·rw [if_neg c39] at H
           have c39b0:(t455 == 400) = false:=beq_eq_false_iff_ne.mpr c39
           have c39b1:(t455 != 400) = true:=bne_iff_ne.mpr c39
           replace H:=Option.bind_eq_some_iff.mp H
           obtain ⟨t456,A470,H⟩:=H
           replace H:(if 0 ≤ (ji37) then (if (ji37) ≤ (x1_2.size:Int) then ((impl_sector.f kj33 t456 ((ji37) == (x1_2.size:Int)) (x1_2.extract 0 ((ji37):Int).toNat)).bind fun t457=>(if x455001_2.length < 8796093022208 then (impl_PutText.l0 kj33 (x1_2.extract ((ji37):Int).toNat x1_2.size) false t448 (x455001_2 ++ [t457])) else (none))) else (none)) else (none)) = some (r1,r2,r3):=H
           have A47:=Aside0.mk A470
           clear A470
           by_cases c48:0 ≤ (ji37)
           ·rw [if_pos c48] at H
            have c48b0:=eq_true c48
            have c48b1:=decide_eq_true c48
            clear c48
            by_cases c49:(ji37) ≤ (x1_2.size:Int)
            ·rw [if_pos c49] at H
             have c49b0:=eq_true c49
             have c49b1:=decide_eq_true c49
             clear c49
             replace H:=Option.bind_eq_some_iff.mp H
             obtain ⟨t457,A500,H⟩:=H
             replace H:(if x455001_2.length < 8796093022208 then (impl_PutText.l0 kj33 (x1_2.extract ((ji37):Int).toNat x1_2.size) false t448 (x455001_2 ++ [t457])) else (none)) = some (r1,r2,r3):=H
             have A50:=Aside0.mk A500
             clear A500
             by_cases c51:x455001_2.length < 8796093022208
             ·rw [if_pos c51] at H
              have LMc51:=Aside0.mk c51
              clear c51
              obtain ⟨y458,hy458⟩:∃ y_:List ByteArray,y_ = (x455001_2 ++ [t457]):=⟨_,rfl⟩
              replace H:(impl_PutText.l0 kj33 (x1_2.extract ((ji37):Int).toNat x1_2.size) false t448 y458) = some (r1,r2,r3):=by first|(rw [hy458];with_reducible exact H)|(have H2_:=(Option.bind_some _ _).symm.trans H;rw [hy458];with_reducible exact H2_)|(have H2_:=(Option.bind_some _ _).symm.trans H;with_reducible exact H2_)|with_reducible exact H|(rw [hy458];exact H)|exact H
              have Ny458:=Aside0.mk hy458
              clear hy458
              have c52b0:=eq_true (oD:0 ≤ (ji37))
              have c53b0:=eq_true (oD:(ji37) ≤ (x1_2.size:Int))
              have H':=Aside0.mk H
              clear H
              have hnb54:=NB454_440.out
              have hnc54:=NB440_454.out
              have hnb55:=NB454_441.out
              have hnc55:=NB441_454.out
              have hcz56_0:wc.cell? ⟨gb454,0,none⟩ = some (.slice Ao29 t448.length co29):=(blk_cell BK454.out 0).trans rfl
              have hcz56_1:wc.cell? ⟨gb454,1,none⟩ = some (u455001):=(blk_cell BK454.out 1).trans rfl
              have hfz56_0:=blk_frozen BK454.out 0
              have hfz56_1:=blk_frozen BK454.out 1
              obtain ⟨Ao57,co57,eo57⟩:=Kd.R_slice HO_455001.out
              subst eo57
              try go_wp2_with (first|((with_reducible refine gate_callee (f:=47) rfl ?_);refine goesL_ (some 41) rfl rfl Try.func47 (by kernel_rfl) rfl #[.agg #[.slice Ao29 t448.length co29,.slice Ao57 x455001_2.length co57]] rfl Ya ?_;(with_reducible refine (impl_Disk_size.calls _ _ t448 _ _ x455001_2 t455 _ ?side1 ?side2 ?side3 ?side4 A38.out).mono ?_);(case side1=>repeat (first|exact (Kd.R_reads' HO_455000.out).2.2|(with_reducible refine Kd.C_alloc ?_ _)|(with_reducible refine Kd.C_drewN ?_ _)|(with_reducible refine Kd.C_drew ?_)));(case side2=>exact (Kd.R_reads' HO_455000.out).2.1);(case side3=>repeat (first|exact (Kd.R_reads' HO_455001.out).2.2|(with_reducible refine Kd.C_alloc ?_ _)|(with_reducible refine Kd.C_drewN ?_ _)|(with_reducible refine Kd.C_drew ?_)));(case side4=>exact (Kd.R_reads' HO_455001.out).2.1);rintro e w58 ⟨rfl,hb⟩;refine ⟨_,rfl,?_⟩;replace HO_455000:=Aside0.mk (Kd.R_below (rR HO_455000) hb);replace HO_455001:=Aside0.mk (Kd.R_below (rR HO_455001) hb);replace BK440:=Aside0.mk (blk_below (bB BK440) hb);replace BK441:=Aside0.mk (blk_below (bB BK441) hb);replace BK454:=Aside0.mk (blk_below (bB BK454) hb);replace HB:=Aside0.mk (below_step bH hb);(try clear hb);(try clear hb2);(try clear hk);(try clear hi)))
              replace HO_455000:=Aside0.mk (Kd.R_drew HO_455000.out);replace HO_455001:=Aside0.mk (Kd.R_drew HO_455001.out);replace BK440:=Aside0.mk (blk_drew BK440.out);replace BK441:=Aside0.mk (blk_drew BK441.out);replace BK454:=Aside0.mk (blk_drew BK454.out);replace HB:=Aside0.mk (below_drew1 HB.out)
              refine start_ (n:=16) (S:=fun w'=>w'.cell? ⟨gb454,0,none⟩ = some (.slice Ao29 t448.length co29) ∧ w'.cell? ⟨gb454,1,none⟩ = some (.slice Ao57 x455001_2.length co57)) (ds:=[15]) #[false,false,false,false,false,false,false,false,false,false,false,false,false,false,false,false] (by kernel_rfl) rfl rfl ⟨(blk_cell BK454.out 0).trans rfl,(blk_cell BK454.out 1).trans rfl⟩ (fun hHeld=>?_);refine with_tabW impl_PutText.tab13 impl_PutText.bits13 (fun HT_ HW_=>?_)
              generalize w58.drew = w59 at HO_455000 HO_455001 BK440 BK441 BK454 HB hHeld ⊢
              refine pU (i:=0) (N:=some 44) #[true,false,false,false,false,false,false,false,false,false,false,false,false,false,false,false] (any_of HT_.out (by kernel_rfl)) ?_
              refine pU (i:=4) (N:=some 48) #[true,false,false,false,true,false,false,false,false,false,false,false,false,false,false,false] (any_of HT_.out (by kernel_rfl)) ?_
              refine pU (i:=5) (N:=some 49) #[true,false,false,false,true,true,false,false,false,false,false,false,false,false,false,false] (any_of HT_.out (by kernel_rfl)) ?_
              refine pU (i:=6) (N:=some 50) #[true,false,false,false,true,true,true,false,false,false,false,false,false,false,false,false] (any_of HT_.out (by kernel_rfl)) ?_
              refine pU (i:=7) (N:=some 51) #[true,false,false,false,true,true,true,true,false,false,false,false,false,false,false,false] (any_of HT_.out (by kernel_rfl)) ?_
              refine pU (i:=8) (N:=some 52) #[true,false,false,false,true,true,true,true,true,false,false,false,false,false,false,false] (any_of HT_.out (by kernel_rfl)) ?_
              refine pU (i:=9) (N:=some 53) #[true,false,false,false,true,true,true,true,true,true,false,false,false,false,false,false] (any_of HT_.out (by kernel_rfl)) ?_
              refine pU (i:=10) (N:=some 54) #[true,false,false,false,true,true,true,true,true,true,true,false,false,false,false,false] (any_of HT_.out (by kernel_rfl)) ?_
              refine take_ (i:=1) (N:=some 45) (v:=?_) (a':=?_) #[true,true,false,false,true,true,true,true,true,true,true,false,false,false,false,false] rfl rfl (take_ofW HT_.out HW_.out (by kernel_rfl)) (fun _ _ _ h=>h) (Or.inl ⟨by rfl,?_⟩) hHeld ?_ ?_
              rotate_left
              ·rintro w' ⟨s0,s1⟩
               go_simp
               with_reducible rfl
              rotate_left
              ·simp only [Act.put,List.setIfInBounds_toArray,List.set_cons_zero,List.set_cons_succ,i64_w,i32_w]
               rfl
              refine take_ (i:=2) (N:=some 46) (v:=?_) (a':=?_) #[true,true,true,false,true,true,true,true,true,true,true,false,false,false,false,false] rfl rfl (take_ofW HT_.out HW_.out (by kernel_rfl)) (fun _ _ _ h=>h) (Or.inl ⟨by rfl,?_⟩) hHeld ?_ ?_
              rotate_left
              ·rintro w' ⟨s0,s1⟩
               go_simp
               with_reducible rfl
              rotate_left
              ·simp only [Act.put,List.setIfInBounds_toArray,List.set_cons_zero,List.set_cons_succ,i64_w,i32_w]
               rfl
              refine one_ (i:=3) (N:=some 47) #[true,true,true,true,true,true,true,true,true,true,true,false,false,false,false,false] rfl rfl (one_of HT_.out (by kernel_rfl)) (by decide) (fun K hK=>?_)
              refine goes_ Try.func47 (by kernel_rfl) rfl #[.agg #[.slice Ao29 t448.length co29,.slice Ao57 x455001_2.length co57]] (by rfl) rfl rfl Ya ?_
              with_reducible refine (impl_Disk_size.calls _ _ t448 _ _ x455001_2 t456 _ ?side1 ?side2 ?side3 ?side4 A47.out).mono ?_
              (case side1=>repeat (first|exact (Kd.R_reads' HO_455000.out).2.2|(with_reducible refine Kd.C_alloc ?_ _)|(with_reducible refine Kd.C_drewN ?_ _)|(with_reducible refine Kd.C_drew ?_)))
              (case side2=>exact (Kd.R_reads' HO_455000.out).2.1)
              (case side3=>repeat (first|exact (Kd.R_reads' HO_455001.out).2.2|(with_reducible refine Kd.C_alloc ?_ _)|(with_reducible refine Kd.C_drewN ?_ _)|(with_reducible refine Kd.C_drew ?_)))
              (case side4=>exact (Kd.R_reads' HO_455001.out).2.1)
              rintro e w60 ⟨rfl,hb⟩
              refine ⟨_,rfl,?_⟩
              replace HO_455000:=Aside0.mk (Kd.R_below (rR HO_455000) hb);replace HO_455001:=Aside0.mk (Kd.R_below (rR HO_455001) hb);replace BK440:=Aside0.mk (blk_below (bB BK440) hb);replace BK441:=Aside0.mk (blk_below (bB BK441) hb);replace BK454:=Aside0.mk (blk_below (bB BK454) hb);replace HB:=Aside0.mk (below_step bH hb)
              (try clear hb)
              (try clear hb2)
              (try clear hk)
              (try clear hi)
              refine hK.out _ _ ⟨(blk_cell BK454.out 0).trans rfl,(blk_cell BK454.out 1).trans rfl⟩ (fun hHeld=>?_)
              clear hK K
              refine nM (N:=some 47) ?_
              refine one_ (i:=11) (N:=some 55) #[true,true,true,true,true,true,true,true,true,true,true,true,false,false,false,false] rfl rfl (one_of HT_.out (by kernel_rfl)) (by decide) (fun K hK=>?_)
              refine goes_ Try.func53 (by kernel_rfl) rfl #[.int .i64 t456,.bool ((ji37) == (x1_2.size:Int)),.string (x1_2.extract 0 ((ji37):Int).toNat)] (by rfl) rfl rfl (by (try simp only [List.map_toArray,List.map_cons,List.map_nil]);first|done|(simp only [hji37];rfl)|rfl|(simp only [List.length_drop,List.length_take];rfl)) ?_
              with_reducible refine (impl_sector.calls kj33 t456 ((ji37) == (x1_2.size:Int)) (x1_2.extract 0 ((ji37):Int).toNat) t457 _ A50.out).mono ?_
              rintro e w61 ⟨rfl,hb⟩
              refine ⟨_,rfl,?_⟩
              replace HO_455000:=Aside0.mk (Kd.R_below (rR HO_455000) hb);replace HO_455001:=Aside0.mk (Kd.R_below (rR HO_455001) hb);replace BK440:=Aside0.mk (blk_below (bB BK440) hb);replace BK441:=Aside0.mk (blk_below (bB BK441) hb);replace BK454:=Aside0.mk (blk_below (bB BK454) hb);replace HB:=Aside0.mk (below_step bH hb)
              (try clear hb)
              (try clear hb2)
              (try clear hk)
              (try clear hi)
              refine hK.out _ _ ⟨(blk_cell BK454.out 0).trans rfl,(blk_cell BK454.out 1).trans rfl⟩ (fun hHeld=>?_)
              clear hK K
              refine nM (N:=some 55) ?_
              refine one_ (i:=12) (N:=some 56) #[true,true,true,true,true,true,true,true,true,true,true,true,true,false,false,false] rfl rfl (one_of HT_.out (by kernel_rfl)) (by decide) (fun K hK=>?_)
              refine value_ (w1:=?_) (v:=?_) (by rfl) rfl ?_ ?_
              rotate_left 2
              ·go_simp
               constructor
               ·rfl
               ·rfl
              refine hK.out _ _ ⟨(blk_cell (blk_alloc BK454.out _) 0).trans rfl,(blk_cell (blk_alloc BK454.out _) 1).trans rfl⟩ (fun hHeld=>?_)
              clear hK K
              refine nM (N:=some 56) ?_
              refine one_ (i:=13) (N:=some 57) #[true,true,true,true,true,true,true,true,true,true,true,true,true,true,false,false] rfl rfl (one_of HT_.out (by kernel_rfl)) (by decide) (fun K hK=>?_)
              refine Kd.R_append_step Kd.string (w0:=w) w.heap.size (by rfl) (.tmp 45) (.tmp 56) 24 9 (.string ⟨#[]⟩) 16 rfl Try.underlying24 info9 rfl (by decide) Yy (.slice Ao57 x455001_2.length co57) x455001_2 t457 [.string t457] (fun k_=>some k_ ≠ (.slice Ao29 t448.length co29:Value).ownBlock) (fun _=>False) rfl rfl ?aP (fun _ hk=>hk.elim) ?aF ?aO ?aB ?aS ?aL ?_
              (case aP=>exact rfl)
              (case aB=>exact bH)
              (case aF=>exact (fun k_ hk=>Kd.fresh' (Kd.R_lt (rR HO_455000)) k_ hk))
              (case aO=>exact (rR HO_455001))
              (case aS=>exact YB)
              (case aL=>have:=LMc51.out;omega)
              intro v459 w62 ho hb hg hat
              rw [← Ny458.out] at ho
              have n0_:=Aside0.mk (Kd.R_after (ok:=(fun _=>True)) (by (with_reducible repeat (first|apply Kd.R_alloc|apply Kd.R_drewN|apply Kd.R_drew));exact Kd.R_mono HO_455000.out (fun _ hk=>⟨trivial,hk⟩)) hg hat);have n1_:=Aside0.mk (blk_grown (bB BK440) hg (Kd.R_ne HO_455001.out BK440.out (by decide)));have n2_:=Aside0.mk (blk_grown (bB BK441) hg (Kd.R_ne HO_455001.out BK441.out (by decide)));have n3_:=Aside0.mk (blk_grown (bB BK454) hg (Kd.R_ne HO_455001.out BK454.out (by decide)));have n4_:=Aside0.mk (hb);have n5_:=Aside0.mk (ho);clear HO_455000;clear BK440;clear BK441;clear BK454;clear HB;clear HO_455001;have HO_455000:=n0_;have BK440:=n1_;have BK441:=n2_;have BK454:=n3_;have HB:=n4_;have HO460:=n5_;clear n0_ n1_ n2_ n3_ n4_ n5_
              clear ho hb hg hat
              obtain ⟨Ao63,co63,eo63⟩:=Kd.R_slice HO460.out
              (first|subst eo63|(injection eo63 with f1_ f2_ f3_;have f4_:=f1_.symm;have f5_:=f3_.symm;clear f1_ f2_ f3_;subst f4_;subst f5_))
              refine hK.out _ _ ⟨(blk_cell BK454.out 0).trans rfl,(blk_cell BK454.out 1).trans rfl⟩ (fun hHeld=>?_)
              clear hK K
              refine nM (N:=some 57) ?_
              refine pU (i:=14) (N:=some 58) #[true,true,true,true,true,true,true,true,true,true,true,true,true,true,true,false] (any_of HT_.out (by kernel_rfl)) ?_
              refine last_ (i:=15) (N:=none) #[true,true,true,true,true,true,true,true,true,true,true,true,true,true,true,true] rfl rfl (one_of HT_.out (by kernel_rfl)) (by decide) (fun K hK=>?_)
              have hs64:w62.cell? ⟨gb454,1,none⟩ = some (.slice Ao57 x455001_2.length co57):=(blk_cell BK454.out 1).trans rfl
              have hfs64:=blk_frozen BK454.out 1
              have hns64_0:=NB440_454.out
              have hns64_1:=NB441_454.out
              have hms64_0:=NB454_440.out
              have hms64_1:=NB454_441.out
              refine skip_ (w1:=?_) (by rfl) rfl ?_ ?_
              rotate_left
              ·go_simp
               rfl
              refine hK.out _ _ ?_
              clear hK K
              refine done_ (done_of HT_.out (by kernel_rfl)) ?_
              try go_wp2
              go_roundg kj33
              case measure=>have:=HJ2.out;have:=HK2.out;have:=HJ33.out;omega
              case rel=>exact ⟨(x1_2.extract ((ji37):Int).toNat x1_2.size),(false),(y458),(.slice Ao63 y458.length co63),(by first|rfl|(simp;done)|(simp only [← hji37] <;> (first|rfl|simp))|(simp [*];done)),Yh,H',⟨by have:=HJ2.out;have:=HK2.out;have:=HJ33.out;omega⟩,⟨by (with_reducible repeat (first|apply Kd.R_alloc|apply Kd.R_drewN|apply Kd.R_drew));exact Kd.R_mono (Kd.R_far (p:=⟨gb454,1,none⟩) (Kd.R_types HO_455000.out BK454.out (by decide)) (fun _ hk=>hk.2) (.slice Ao63 y458.length co63)) (fun _ hk=>hk.1.2)⟩,⟨by (with_reducible repeat (first|apply Kd.R_alloc|apply Kd.R_drewN|apply Kd.R_drew));exact Kd.R_mono (Kd.R_far (p:=⟨gb454,1,none⟩) (Kd.R_types HO460.out BK454.out (by decide)) (fun _ hk=>hk.2) (.slice Ao63 y458.length co63)) (fun _ hk=>hk.1)⟩,⟨by (with_reducible repeat (first|refine blk_drewN ?_ _|refine blk_drew ?_|refine blk_alloc ?_ _));refine blk_far ?_ NB440_454.out _;(with_reducible repeat (first|refine blk_drewN ?_ _|refine blk_drew ?_|refine blk_alloc ?_ _));exact BK440.out⟩,⟨by (with_reducible repeat (first|refine blk_drewN ?_ _|refine blk_drew ?_|refine blk_alloc ?_ _));refine blk_far ?_ NB441_454.out _;(with_reducible repeat (first|refine blk_drewN ?_ _|refine blk_drew ?_|refine blk_alloc ?_ _));exact BK441.out⟩,⟨by (with_reducible repeat (first|refine blk_drewN ?_ _|refine blk_drew ?_|refine blk_alloc ?_ _));refine blk_put (cs:=#[.slice Ao29 t448.length co29,.slice Ao57 x455001_2.length co57]) ?_ 1 _ rfl;(with_reducible repeat (first|refine blk_drewN ?_ _|refine blk_drew ?_|refine blk_alloc ?_ _));exact BK454.out⟩,⟨bH⟩⟩
             ·rw [if_neg c51] at H
              exact absurd H (by simp)
            ·rw [if_neg c49] at H
             exact absurd H (by simp)
           ·rw [if_neg c48] at H
            exact absurd H (by simp)
         ·replace c36:=Bool.eq_false_iff.mpr c36
          subst c36
          have H1:(some (t448,x455001_2,true)) = some (r1,r2,r3):=by rw [if_neg (show ¬ (false = true) by decide)] at H;exact H
          clear H
          have H:=H1
          clear H1
          simp only [Option.some.injEq,Prod.mk.injEq] at H
          obtain ⟨rfl,rfl,rfl⟩:=H
          have hnb65:=NB454_440.out
          have hnc65:=NB440_454.out
          have hnb66:=NB454_441.out
          have hnc66:=NB441_454.out
          have hcz67_0:wc.cell? ⟨gb454,0,none⟩ = some (.slice Ao29 t448.length co29):=(blk_cell BK454.out 0).trans rfl
          have hcz67_1:wc.cell? ⟨gb454,1,none⟩ = some (u455001):=(blk_cell BK454.out 1).trans rfl
          have hfz67_0:=blk_frozen BK454.out 0
          have hfz67_1:=blk_frozen BK454.out 1
          have hnb68:=NB441_440.out
          have hnc68:=NB440_441.out
          have hcz69_0:wc.cell? ⟨gb441,0,none⟩ = some (.slice none 0 0):=(blk_cell BK441.out 0).trans rfl
          have hcz69_1:wc.cell? ⟨gb441,1,none⟩ = some (.slice none 0 0):=(blk_cell BK441.out 1).trans rfl
          have hfz69_0:=blk_frozen BK441.out 0
          have hfz69_1:=blk_frozen BK441.out 1
          obtain ⟨Ao70,co70,eo70⟩:=Kd.R_slice HO_455001.out
          subst eo70
          go_wp2
          refine bodyPost_ret (results_ct rfl _ _ gb441 26 #[.slice Ao29 t448.length co29,.slice Ao70 x455001_2.length co70] (0,0) _ rfl (by (with_reducible repeat (first|refine blk_drewN ?_ _|refine blk_drew ?_|refine blk_alloc ?_ _));refine blk_put (cs:=#[.slice Ao29 t448.length co29,.slice none 0 0]) ?_ 1 _ rfl;(with_reducible repeat (first|refine blk_drewN ?_ _|refine blk_drew ?_|refine blk_alloc ?_ _));refine blk_put (cs:=#[.slice none 0 0,.slice none 0 0]) ?_ 0 _ rfl;(with_reducible repeat (first|refine blk_drewN ?_ _|refine blk_drew ?_|refine blk_alloc ?_ _));exact BK441.out) Try.underlying26 rfl (by kernel_rfl)) rfl ?_
          exact ⟨_,_,Yb,by (with_reducible repeat (first|apply Kd.R_alloc|apply Kd.R_drewN|apply Kd.R_drew));exact Kd.R_mono (Kd.R_far (p:=⟨gb441,1,none⟩) (Kd.R_far (p:=⟨gb441,0,none⟩) (Kd.R_types HO_455000.out BK441.out (by decide)) (fun _ hk=>hk.2) (.slice Ao29 t448.length co29)) (fun _ hk=>hk.2) (.slice Ao70 x455001_2.length co70)) (fun _ hk=>hk.1),by (with_reducible repeat (first|apply Kd.R_alloc|apply Kd.R_drewN|apply Kd.R_drew));exact Kd.R_mono (Kd.R_far (p:=⟨gb441,1,none⟩) (Kd.R_far (p:=⟨gb441,0,none⟩) (Kd.R_types HO_455001.out BK441.out (by decide)) (fun _ hk=>hk.2) (.slice Ao29 t448.length co29)) (fun _ hk=>hk.2) (.slice Ao70 x455001_2.length co70)) (fun _ hk=>hk.1),bH⟩
    ·rw [if_neg c19] at H
     have c19b0:(t446 == t447) = false:=beq_eq_false_iff_ne.mpr c19
     have c19b1:(t446 != t447) = true:=bne_iff_ne.mpr c19
     simp only [Option.some.injEq,Prod.mk.injEq] at H
     obtain ⟨rfl,rfl,rfl⟩:=H
     have hnb71:=NB440_441.out
     have hnc71:=NB441_440.out
     have hcz72_0:wc.cell? ⟨gb440,0,none⟩ = some (.slice A0_0 l0_0.length c0_0):=(blk_cell BK440.out 0).trans rfl
     have hcz72_1:wc.cell? ⟨gb440,1,none⟩ = some (.slice A0_1 l0_1.length c0_1):=(blk_cell BK440.out 1).trans rfl
     have hfz72_0:=blk_frozen BK440.out 0
     have hfz72_1:=blk_frozen BK440.out 1
     go_wp2_with (first|((with_reducible refine gate_callee (f:=50) rfl ?_);refine goesL_ (some 22) rfl rfl Try.func50 (by kernel_rfl) rfl #[.agg #[.slice A0_0 l0_0.length c0_0,.slice A0_1 l0_1.length c0_1]] rfl Ya ?_;(with_reducible refine (impl_Disk_texts.calls kj2 (fun k_=>k_ < w.heap.size) _ _ l0_0 (fun k_=>k_ < w.heap.size) _ _ l0_1 t443 t446 _ ?side1 ?side2 A17.out).mono ?_);(case side1=>exact YA);(case side2=>exact Yz);rintro e w73 ⟨v444,rfl,ho0,hb⟩;refine ⟨_,rfl,?_⟩;have HO445:=Aside0.mk (Kd.R_lower (Kd.R_mono (ok':=fun k_=>True) ho0 (fun _ hk_=>trivial)) (below_size bH));replace BK440:=Aside0.mk (blk_below (bB BK440) hb);replace BK441:=Aside0.mk (blk_below (bB BK441) hb);replace HB:=Aside0.mk (below_step bH hb);(try clear hb);(try clear hb2);(try clear hk);(try clear hi);(try clear ho0);have hcz74_0:w73.cell? ⟨gb440,0,none⟩ = some (.slice A0_0 l0_0.length c0_0):=(blk_cell BK440.out 0).trans rfl;have hcz74_1:w73.cell? ⟨gb440,1,none⟩ = some (.slice A0_1 l0_1.length c0_1):=(blk_cell BK440.out 1).trans rfl;have hfz74_0:=blk_frozen BK440.out 0;have hfz74_1:=blk_frozen BK440.out 1)|((with_reducible refine gate_callee (f:=47) rfl ?_);refine goesL_ (some 27) rfl rfl Try.func47 (by kernel_rfl) rfl #[.agg #[.slice A0_0 l0_0.length c0_0,.slice A0_1 l0_1.length c0_1]] rfl Ya ?_;(with_reducible refine (impl_Disk_size.calls _ _ l0_0 _ _ l0_1 t447 _ ?side1 ?side2 ?side3 ?side4 A18.out).mono ?_);(case side1=>exact ZB);(case side2=>exact ZL);(case side3=>exact ZP);(case side4=>exact ZO);rintro e w75 ⟨rfl,hb⟩;refine ⟨_,rfl,?_⟩;replace HO445:=Aside0.mk (Kd.R_below (rR HO445) hb);replace BK440:=Aside0.mk (blk_below (bB BK440) hb);replace BK441:=Aside0.mk (blk_below (bB BK441) hb);replace HB:=Aside0.mk (below_step bH hb);(try clear hb);(try clear hb2);(try clear hk);(try clear hi);have hcz76_0:w75.cell? ⟨gb441,0,none⟩ = some (.slice none 0 0):=(blk_cell BK441.out 0).trans rfl;have hcz76_1:w75.cell? ⟨gb441,1,none⟩ = some (.slice none 0 0):=(blk_cell BK441.out 1).trans rfl;have hfz76_0:=blk_frozen BK441.out 0;have hfz76_1:=blk_frozen BK441.out 1))
     refine bodyPost_ret (results_ct rfl _ _ gb441 26 #[.slice none 0 0,.slice none 0 0] (0,0) _ rfl Yt Try.underlying26 rfl (by kernel_rfl)) rfl ?_
     exact ⟨_,_,Yb,Yd,Yd,bH⟩

end Go.Proofs.Ytmgkflkfoccgkab.QFnDisk
