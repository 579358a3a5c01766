-- Written by this session's own program (wip/x/xprint.py, over the kit's printer); Lean checks it.
import Derived.Test.YtmgkflkfoccgkabQFnDiskx0
import Derived.Test.YtmgkflkfoccgkabQFnDiskx1
namespace Go.Proofs.Ytmgkflkfoccgkab.QFnDisk
open Go.RowKit Go.Proofs.YtmgkflkfoccgkabW.PrintWords Go.Proofs.YtmgkflkfoccgkabW.PrintLast Go.Proofs.YtmgkflkfoccgkabW.PrintMore
attribute [local go_sem] max2_int min2_int max_two min_two max_three min_three max_four min_four   -- for this text's walks alone
set_option linter.unusedVariables false
set_option linter.unusedSimpArgs false

/-! ### spec_CrashDisk: function 9 -/
def spec_CrashDisk.j0:Nat → Int → Int → Bool → List ByteArray → List ByteArray → Option (List ByteArray × List ByteArray × Bool)
 | 0,_,_,_,_,_=>none
 | k + 1,x1,x2,x24,x113000,x113001=>if x24 = true then (some (([]:List ByteArray),([]:List ByteArray),false)) else ((some (([]:List ByteArray):List ByteArray)).bind fun y117=>(if y117.length + x113000.length < 8796093022208 then ((some (y117 ++ x113000:List ByteArray)).bind fun y120=>(if 0 ≤ x1 then (if x1 ≤ (x113001.length:Int) then (if y120.length + (x113001.take (x1:Int).toNat).length < 8796093022208 then ((some (y120 ++ (x113001.take (x1:Int).toNat):List ByteArray)).bind fun y124=>(if x2 > 0 then (if x1 < (x113001.length:Int) then (if 0 ≤ x2 then (if x2 ≤ ((rdOf ByteArray.empty x113001 x1).size:Int) then (if 0 ≤ (wrap64 (16 - x2)) then (if (wrap64 (16 - x2):Int).toNat ≤ 281474976710656 then ((some (List.replicate (wrap64 (16 - x2):Int).toNat 0:List Int)).bind fun y129=>(if ((rdOf ByteArray.empty x113001 x1).extract 0 (x2:Int).toNat).size + (strOfNums y129).size ≤ 9223372036854775807 then (if y124.length < 8796093022208 then (some ((y124 ++ [((rdOf ByteArray.empty x113001 x1).extract 0 (x2:Int).toNat) ++ (strOfNums y129)]),([]:List ByteArray),true)) else (none)) else (none))) else (none)) else (none)) else (none)) else (none)) else (some (y124,([]:List ByteArray),true))) else (some (y124,([]:List ByteArray),true)))) else (none)) else (none)) else (none))) else (none)))
def spec_CrashDisk.f (k:Nat) (l0_0:List ByteArray) (l0_1:List ByteArray) (a1:Int) (a2:Int):Option (List ByteArray × List ByteArray × Bool):=(spec_GoodDisk.f k l0_0 l0_1).bind fun t114=>(if t114 = true then ((spec_l1In.f a1 0 (l0_1.length:Int)).bind fun t115=>(if t115 = true then ((spec_l1In.f a2 0 16).bind fun t116=>(spec_CrashDisk.j0 k a1 a2 (!t116) l0_0 l0_1)) else (spec_CrashDisk.j0 k a1 a2 true l0_0 l0_1))) else (spec_CrashDisk.j0 k a1 a2 true l0_0 l0_1))
theorem spec_CrashDisk.mono_l:∀ k,(∀ y0 y1 y2 y3 y4,LeO (spec_CrashDisk.j0 k y0 y1 y2 y3 y4) (spec_CrashDisk.j0 (k + 1) y0 y1 y2 y3 y4))
 | 0=>fun _ _ _ _ _ r h=>by simp [spec_CrashDisk.j0] at h
 | k + 1=>by
  have ih0:=spec_CrashDisk.mono_l k
  ·intro y0 y1 y2 y3 y4
   unfold spec_CrashDisk.j0
   have m0:=@spec_GoodDisk.mono
   exact mO
theorem spec_CrashDisk.mono:∀ a0 a1 a2 a3 k,LeO (spec_CrashDisk.f k a0 a1 a2 a3) (spec_CrashDisk.f (k + 1) a0 a1 a2 a3):=by
 intro a0 a1 a2 a3 k
 have ih0:=spec_CrashDisk.mono_l k
 unfold spec_CrashDisk.f
 have m0:=@spec_GoodDisk.mono
 exact mO
def spec_CrashDisk.T3:Bool × List (List Nat × List Nat):=(true,[([],[]),([],[]),([1],[1]),([0,2],[0,2]),([],[]),([4],[4]),([],[]),([5,6],[5,6]),([3,7,3],[3,7]),([8],[8]),([],[]),([10,9,8,0,1,2,3,4,5,6,7,8,9,10],[9,10])])
def spec_CrashDisk.B3:List Nat:=[0,0,2,7,0,16,0,112,255,511,0,2047]
theorem spec_CrashDisk.tab3:rtab .any (opsOf Try.f9 3) = spec_CrashDisk.T3:=by kernel_rfl
theorem spec_CrashDisk.bits3:waitsOk spec_CrashDisk.T3.2 spec_CrashDisk.B3 = true:=by kernel_rfl
def spec_CrashDisk.T5:Bool × List (List Nat × List Nat):=(true,[([],[]),([0],[0]),([],[]),([2],[2]),([],[]),([3,4],[3,4]),([5],[5]),([],[]),([6,7],[6,7]),([],[]),([9],[9]),([10,10],[10]),([11],[11]),([8,12],[8,12]),([13],[13]),([1,14],[1,14]),([0,1,2,3,4,5,6,7,8,9,10,11,12,13,14,15],[]),([16,15,15,0,1,2,3,4,5,6,7,8,9,10,11,12,13,14,15],[15,16])])
def spec_CrashDisk.B5:List Nat:=[0,1,0,4,0,28,60,0,252,0,512,1536,3584,8188,16380,32767,65535,131071]
theorem spec_CrashDisk.tab5:rtab .any (opsOf Try.f9 5) = spec_CrashDisk.T5:=by kernel_rfl
theorem spec_CrashDisk.bits5:waitsOk spec_CrashDisk.T5.2 spec_CrashDisk.B5 = true:=by kernel_rfl
set_option maxHeartbeats 8000000 in
set_option maxRecDepth 100000 in
theorem spec_CrashDisk.calls (k:Nat) (A0_0:Option Addr) (c0_0:Nat) (l0_0:List ByteArray) (A0_1:Option Addr) (c0_1:Nat) (l0_1:List ByteArray) (a1:Int) (a2:Int) (r1:List ByteArray) (r2:List ByteArray) (r3:Bool) (w:World) (hr0_0:Kd.C Kd.string w A0_0 l0_0.length l0_0) (hc0_0:l0_0.length ≤ c0_0) (hr0_1:Kd.C Kd.string w A0_1 l0_1.length l0_1) (hc0_1:l0_1.length ≤ c0_1) (h:spec_CrashDisk.f k l0_0 l0_1 a1 a2 = some (r1,r2,r3)) :
  Calls Try.prog 9 #[.agg #[.slice A0_0 l0_0.length c0_0,.slice A0_1 l0_1.length c0_1],.int .i64 a1,.int .i64 a2] w fun e w'=>∃ v0_ v1_:Value,e = .returned (.tuple #[.agg #[v0_,v1_],.bool r3]) ∧ Kd.R Kd.string 9 w' w.heap.size (fun k_=>some k_ ≠ (v1_:Value).ownBlock) v0_ r1 ∧ Kd.R Kd.string 9 w' w.heap.size (fun k_=>some k_ ≠ (v0_:Value).ownBlock) v1_ r2 ∧ Below w.heap.size w w':=by
 have hu26:=Try.underlying26
 have HR0_0:=Aside0.mk hr0_0
 have HC0_0:=Aside0.mk hc0_0
 clear hr0_0 hc0_0
 have HR0_1:=Aside0.mk hr0_1
 have HC0_1:=Aside0.mk hc0_1
 clear hr0_1 hc0_1
 have HB:=Aside0.mk (Below.refl w.heap.size w)
 have H:((spec_GoodDisk.f k l0_0 l0_1).bind fun t114=>(if t114 = true then ((spec_l1In.f a1 0 (l0_1.length:Int)).bind fun t115=>(if t115 = true then ((spec_l1In.f a2 0 16).bind fun t116=>(spec_CrashDisk.j0 k a1 a2 (!t116) l0_0 l0_1)) else (spec_CrashDisk.j0 k a1 a2 true l0_0 l0_1))) else (spec_CrashDisk.j0 k a1 a2 true l0_0 l0_1))) = some (r1,r2,r3):=h
 clear h
 have HC4:=Aside0.mk H
 clear H
 go_enter Try.func9,Try.ntmps9
 go_upto_region 1 with (first|((with_reducible refine gate_dst (N:=3) rfl ?_);(try (refine gate_guard (by rfl) ?_;dsimp only));refine box_event ?hg (N:=3) ?hd (cs:=#[.slice A0_0 l0_0.length c0_0,.slice A0_1 l0_1.length c0_1]) (t:=26) ?hr ?_;(case hd=>rfl);(case hg=>rfl);(case hr=>exact Yg);intro gb112 hg w5 hbox hb;have BK112:=Aside0.mk (hbox);have GW112:=Aside0.mk ((hZ:w.heap.size ≤ gb112));have GE112:=Aside0.mk ((hZ:w.heap.size ≤ gb112));replace HB:=Aside0.mk (below_step bH hb);clear hb hbox hg)|((with_reducible refine gate_dst (N:=6) rfl ?_);(try (refine gate_guard (by rfl) ?_;dsimp only));refine box_event ?hg (N:=6) ?hd (cs:=#[.slice none 0 0,.slice none 0 0]) (t:=26) ?hr ?_;(case hd=>rfl);(case hg=>rfl);(case hr=>exact Yg);intro gb113 hg w6 hbox hb;have BK113:=Aside0.mk (hbox);have GW113:=Aside0.mk ((hZ:w.heap.size ≤ gb113));have GE113:=Aside0.mk ((hZ:w.heap.size ≤ gb113));replace HB:=Aside0.mk (below_step bH hb);have NB112_113:=Aside0.mk ((nL BK112:gb112 ≠ gb113));have NB113_112:=Aside0.mk ((nG BK112:gb113 ≠ gb112));replace BK112:=Aside0.mk (blk_below (bB BK112) hb);clear hb hbox hg))
 (try simp only [Act.put,List.setIfInBounds_toArray,List.set_cons_zero,List.set_cons_succ])
 go_cut [24] (fun v24 wc=>∃ (kq:Nat) (x24_3:Bool),v24 = .bool x24_3 ∧ Aside0 (spec_CrashDisk.j0 kq a1 a2 x24_3 l0_0 l0_1 = some (r1,r2,r3)) ∧ Aside0 (kq ≤ k) ∧ Aside0 (wc.heap[gb112]? = some (.cells #[(.slice A0_0 l0_0.length c0_0),(.slice A0_1 l0_1.length c0_1)] 26 (0,0))) ∧ Aside0 (wc.heap[gb113]? = some (.cells #[(.slice none 0 0),(.slice none 0 0)] 26 (0,0))) ∧ Aside0 (Below w.heap.size w wc))
 case first =>
  have H:=HC4.out
  clear HC4
  replace H:=Option.bind_eq_some_iff.mp H
  obtain ⟨t114,A70,H⟩:=H
  replace H:(if t114 = true then ((spec_l1In.f a1 0 (l0_1.length:Int)).bind fun t115=>(if t115 = true then ((spec_l1In.f a2 0 16).bind fun t116=>(spec_CrashDisk.j0 k a1 a2 (!t116) l0_0 l0_1)) else (spec_CrashDisk.j0 k a1 a2 true l0_0 l0_1))) else (spec_CrashDisk.j0 k a1 a2 true l0_0 l0_1)) = some (r1,r2,r3):=H
  have A7:=Aside0.mk A70
  clear A70
  by_cases c8:t114 = true
  ·subst c8
   have H1:((spec_l1In.f a1 0 (l0_1.length:Int)).bind fun t115=>(if t115 = true then ((spec_l1In.f a2 0 16).bind fun t116=>(spec_CrashDisk.j0 k a1 a2 (!t116) l0_0 l0_1)) else (spec_CrashDisk.j0 k a1 a2 true l0_0 l0_1))) = some (r1,r2,r3):=by rw [if_pos rfl] at H;exact H
   clear H
   have H:=H1
   clear H1
   replace H:=Option.bind_eq_some_iff.mp H
   obtain ⟨t115,A90,H⟩:=H
   replace H:(if t115 = true then ((spec_l1In.f a2 0 16).bind fun t116=>(spec_CrashDisk.j0 k a1 a2 (!t116) l0_0 l0_1)) else (spec_CrashDisk.j0 k a1 a2 true l0_0 l0_1)) = some (r1,r2,r3):=H
   have A9:=Aside0.mk A90
   clear A90
   by_cases c10:t115 = true
   ·subst c10
    have H1:((spec_l1In.f a2 0 16).bind fun t116=>(spec_CrashDisk.j0 k a1 a2 (!t116) l0_0 l0_1)) = some (r1,r2,r3):=by rw [if_pos rfl] at H;exact H
    clear H
    have H:=H1
    clear H1
    replace H:=Option.bind_eq_some_iff.mp H
    obtain ⟨t116,A110,H⟩:=H
    replace H:(spec_CrashDisk.j0 k a1 a2 (!t116) l0_0 l0_1) = some (r1,r2,r3):=H
    have A11:=Aside0.mk A110
    clear A110
    have H':=Aside0.mk H
    clear H
    have hnb12:=NB112_113.out
    have hnc12:=NB113_112.out
    have hcz13_0:w6.cell? ⟨gb112,0,none⟩ = some (.slice A0_0 l0_0.length c0_0):=(blk_cell BK112.out 0).trans rfl
    have hcz13_1:w6.cell? ⟨gb112,1,none⟩ = some (.slice A0_1 l0_1.length c0_1):=(blk_cell BK112.out 1).trans rfl
    have hfz13_0:=blk_frozen BK112.out 0
    have hfz13_1:=blk_frozen BK112.out 1
    go_wp2_with (first|((with_reducible refine gate_callee (f:=12) rfl ?_);refine goesL_ (some 10) rfl rfl Try.func12 (by kernel_rfl) rfl #[.agg #[.slice A0_0 l0_0.length c0_0,.slice A0_1 l0_1.length c0_1]] rfl Ya ?_;(with_reducible refine (spec_GoodDisk.calls k _ _ l0_0 _ _ l0_1 true _ ?side1 ?side2 ?side3 ?side4 A7.out).mono ?_);(case side1=>exact ZB);(case side2=>exact ZL);(case side3=>exact ZP);(case side4=>exact ZO);rintro e w14 ⟨rfl,hb⟩;refine ⟨_,rfl,?_⟩;replace BK112:=Aside0.mk (blk_below (bB BK112) hb);replace BK113:=Aside0.mk (blk_below (bB BK113) hb);replace HB:=Aside0.mk (below_step bH hb);(try clear hb);(try clear hb2);(try clear hk);(try clear hi);have hcz15_0:w14.cell? ⟨gb112,0,none⟩ = some (.slice A0_0 l0_0.length c0_0):=(blk_cell BK112.out 0).trans rfl;have hcz15_1:w14.cell? ⟨gb112,1,none⟩ = some (.slice A0_1 l0_1.length c0_1):=(blk_cell BK112.out 1).trans rfl;have hfz15_0:=blk_frozen BK112.out 0;have hfz15_1:=blk_frozen BK112.out 1)|(go_at_call 46;(with_reducible refine (spec_l1In.calls a1 0 (l0_1.length:Int) true _ A9.out).mono ?_);rintro e w' ⟨rfl,⟨nd,rfl⟩⟩)|(go_at_call 46;(with_reducible refine (spec_l1In.calls a2 0 16 t116 _ A11.out).mono ?_);rintro e w' ⟨rfl,⟨nd,rfl⟩⟩))
    go_meet
    case rel=>exact ⟨_,(!t116),Yh,H',⟨YQ⟩,⟨ZK⟩,⟨ZJ⟩,⟨bH⟩⟩
   ·replace c10:=Bool.eq_false_iff.mpr c10
    subst c10
    have H1:(spec_CrashDisk.j0 k a1 a2 true l0_0 l0_1) = some (r1,r2,r3):=by rw [if_neg (show ¬ (false = true) by decide)] at H;exact H
    clear H
    have H:=H1
    clear H1
    have H':=Aside0.mk H
    clear H
    have hnb16:=NB112_113.out
    have hnc16:=NB113_112.out
    have hcz17_0:w6.cell? ⟨gb112,0,none⟩ = some (.slice A0_0 l0_0.length c0_0):=(blk_cell BK112.out 0).trans rfl
    have hcz17_1:w6.cell? ⟨gb112,1,none⟩ = some (.slice A0_1 l0_1.length c0_1):=(blk_cell BK112.out 1).trans rfl
    have hfz17_0:=blk_frozen BK112.out 0
    have hfz17_1:=blk_frozen BK112.out 1
    go_wp2_with (first|((with_reducible refine gate_callee (f:=12) rfl ?_);refine goesL_ (some 10) rfl rfl Try.func12 (by kernel_rfl) rfl #[.agg #[.slice A0_0 l0_0.length c0_0,.slice A0_1 l0_1.length c0_1]] rfl Ya ?_;(with_reducible refine (spec_GoodDisk.calls k _ _ l0_0 _ _ l0_1 true _ ?side1 ?side2 ?side3 ?side4 A7.out).mono ?_);(case side1=>exact ZB);(case side2=>exact ZL);(case side3=>exact ZP);(case side4=>exact ZO);rintro e w18 ⟨rfl,hb⟩;refine ⟨_,rfl,?_⟩;replace BK112:=Aside0.mk (blk_below (bB BK112) hb);replace BK113:=Aside0.mk (blk_below (bB BK113) hb);replace HB:=Aside0.mk (below_step bH hb);(try clear hb);(try clear hb2);(try clear hk);(try clear hi);have hcz19_0:w18.cell? ⟨gb112,0,none⟩ = some (.slice A0_0 l0_0.length c0_0):=(blk_cell BK112.out 0).trans rfl;have hcz19_1:w18.cell? ⟨gb112,1,none⟩ = some (.slice A0_1 l0_1.length c0_1):=(blk_cell BK112.out 1).trans rfl;have hfz19_0:=blk_frozen BK112.out 0;have hfz19_1:=blk_frozen BK112.out 1)|(go_at_call 46;(with_reducible refine (spec_l1In.calls a1 0 (l0_1.length:Int) false _ A9.out).mono ?_);rintro e w' ⟨rfl,⟨nd,rfl⟩⟩))
    go_meet
    case rel=>exact ⟨_,(true),Yh,H',⟨YQ⟩,⟨ZK⟩,⟨ZJ⟩,⟨bH⟩⟩
  ·replace c8:=Bool.eq_false_iff.mpr c8
   subst c8
   have H1:(spec_CrashDisk.j0 k a1 a2 true l0_0 l0_1) = some (r1,r2,r3):=by rw [if_neg (show ¬ (false = true) by decide)] at H;exact H
   clear H
   have H:=H1
   clear H1
   have H':=Aside0.mk H
   clear H
   have hnb20:=NB112_113.out
   have hnc20:=NB113_112.out
   have hcz21_0:w6.cell? ⟨gb112,0,none⟩ = some (.slice A0_0 l0_0.length c0_0):=(blk_cell BK112.out 0).trans rfl
   have hcz21_1:w6.cell? ⟨gb112,1,none⟩ = some (.slice A0_1 l0_1.length c0_1):=(blk_cell BK112.out 1).trans rfl
   have hfz21_0:=blk_frozen BK112.out 0
   have hfz21_1:=blk_frozen BK112.out 1
   go_wp2_with (first|((with_reducible refine gate_callee (f:=12) rfl ?_);refine goesL_ (some 10) rfl rfl Try.func12 (by kernel_rfl) rfl #[.agg #[.slice A0_0 l0_0.length c0_0,.slice A0_1 l0_1.length c0_1]] rfl Ya ?_;(with_reducible refine (spec_GoodDisk.calls k _ _ l0_0 _ _ l0_1 false _ ?side1 ?side2 ?side3 ?side4 A7.out).mono ?_);(case side1=>exact ZB);(case side2=>exact ZL);(case side3=>exact ZP);(case side4=>exact ZO);rintro e w22 ⟨rfl,hb⟩;refine ⟨_,rfl,?_⟩;replace BK112:=Aside0.mk (blk_below (bB BK112) hb);replace BK113:=Aside0.mk (blk_below (bB BK113) hb);replace HB:=Aside0.mk (below_step bH hb);(try clear hb);(try clear hb2);(try clear hk);(try clear hi)))
   go_meet
   case rel=>exact ⟨_,(true),Yh,H',⟨YQ⟩,⟨ZK⟩,⟨ZJ⟩,⟨bH⟩⟩
 case rest =>
  clear HC4
  try clear c1
  try clear c2
  try clear p2
  try clear c8
  try clear c9
  try clear c10
  try clear c12
  try clear c16
  try clear c20
  try clear hcz13_0
  try clear hcz13_1
  try clear hcz15_0
  try clear hcz15_1
  try clear hcz17_0
  try clear hcz17_1
  try clear hcz19_0
  try clear hcz19_1
  try clear hcz21_0
  try clear hcz21_1
  try clear hfz13_0
  try clear hfz13_1
  try clear hfz15_0
  try clear hfz15_1
  try clear hfz17_0
  try clear hfz17_1
  try clear hfz19_0
  try clear hfz19_1
  try clear hfz21_0
  try clear hfz21_1
  obtain ⟨kq,x24_3,rfl,HA,HJ3,BK112,BK113,HB⟩:=hcut
  cases kq with
  | zero=>exact absurd HA.out (by simp [spec_CrashDisk.j0])
  | succ kj3 =>
   have H:=HA.out
   clear HA
   simp only [spec_CrashDisk.j0] at H
   by_cases c23:x24_3 = true
   ·subst c23
    have H1:(some (([]:List ByteArray),([]:List ByteArray),false)) = some (r1,r2,r3):=by rw [if_pos rfl] at H;exact H
    clear H
    have H:=H1
    clear H1
    simp only [Option.some.injEq,Prod.mk.injEq] at H
    obtain ⟨rfl,rfl,rfl⟩:=H
    have hnb24:=NB113_112.out
    have hnc24:=NB112_113.out
    have hcz25_0:wc.cell? ⟨gb113,0,none⟩ = some (.slice none 0 0):=(blk_cell BK113.out 0).trans rfl
    have hcz25_1:wc.cell? ⟨gb113,1,none⟩ = some (.slice none 0 0):=(blk_cell BK113.out 1).trans rfl
    have hfz25_0:=blk_frozen BK113.out 0
    have hfz25_1:=blk_frozen BK113.out 1
    go_wp2
    refine bodyPost_ret (results_ct rfl _ _ gb113 26 #[.slice none 0 0,.slice none 0 0] (0,0) _ rfl (by (with_reducible repeat (first|refine blk_drewN ?_ _|refine blk_drew ?_|refine blk_alloc ?_ _));refine blk_put (cs:=#[.slice none 0 0,.slice none 0 0]) ?_ 1 _ rfl;(with_reducible repeat (first|refine blk_drewN ?_ _|refine blk_drew ?_|refine blk_alloc ?_ _));refine blk_put (cs:=#[.slice none 0 0,.slice none 0 0]) ?_ 0 _ rfl;(with_reducible repeat (first|refine blk_drewN ?_ _|refine blk_drew ?_|refine blk_alloc ?_ _));exact BK113.out) Try.underlying26 rfl (by kernel_rfl)) rfl ?_
    exact ⟨_,_,Yb,Yd,Yd,bH⟩
   ·replace c23:=Bool.eq_false_iff.mpr c23
    subst c23
    have H1:((some (([]:List ByteArray):List ByteArray)).bind fun y117=>(if y117.length + l0_0.length < 8796093022208 then ((some (y117 ++ l0_0:List ByteArray)).bind fun y120=>(if 0 ≤ a1 then (if a1 ≤ (l0_1.length:Int) then (if y120.length + (l0_1.take (a1:Int).toNat).length < 8796093022208 then ((some (y120 ++ (l0_1.take (a1:Int).toNat):List ByteArray)).bind fun y124=>(if a2 > 0 then (if a1 < (l0_1.length:Int) then (if 0 ≤ a2 then (if a2 ≤ ((rdOf ByteArray.empty l0_1 a1).size:Int) then (if 0 ≤ (wrap64 (16 - a2)) then (if (wrap64 (16 - a2):Int).toNat ≤ 281474976710656 then ((some (List.replicate (wrap64 (16 - a2):Int).toNat 0:List Int)).bind fun y129=>(if ((rdOf ByteArray.empty l0_1 a1).extract 0 (a2:Int).toNat).size + (strOfNums y129).size ≤ 9223372036854775807 then (if y124.length < 8796093022208 then (some ((y124 ++ [((rdOf ByteArray.empty l0_1 a1).extract 0 (a2:Int).toNat) ++ (strOfNums y129)]),([]:List ByteArray),true)) else (none)) else (none))) else (none)) else (none)) else (none)) else (none)) else (some (y124,([]:List ByteArray),true))) else (some (y124,([]:List ByteArray),true)))) else (none)) else (none)) else (none))) else (none))) = some (r1,r2,r3):=by rw [if_neg (show ¬ (false = true) by decide)] at H;exact H
    clear H
    have H:=H1
    clear H1
    obtain ⟨y117,hy117⟩:∃ y_:List ByteArray,y_ = (([]:List ByteArray)):=⟨_,rfl⟩
    replace H:(if y117.length + l0_0.length < 8796093022208 then ((some (y117 ++ l0_0:List ByteArray)).bind fun y120=>(if 0 ≤ a1 then (if a1 ≤ (l0_1.length:Int) then (if y120.length + (l0_1.take (a1:Int).toNat).length < 8796093022208 then ((some (y120 ++ (l0_1.take (a1:Int).toNat):List ByteArray)).bind fun y124=>(if a2 > 0 then (if a1 < (l0_1.length:Int) then (if 0 ≤ a2 then (if a2 ≤ ((rdOf ByteArray.empty l0_1 a1).size:Int) then (if 0 ≤ (wrap64 (16 - a2)) then (if (wrap64 (16 - a2):Int).toNat ≤ 281474976710656 then ((some (List.replicate (wrap64 (16 - a2):Int).toNat 0:List Int)).bind fun y129=>(if ((rdOf ByteArray.empty l0_1 a1).extract 0 (a2:Int).toNat).size + (strOfNums y129).size ≤ 9223372036854775807 then (if y124.length < 8796093022208 then (some ((y124 ++ [((rdOf ByteArray.empty l0_1 a1).extract 0 (a2:Int).toNat) ++ (strOfNums y129)]),([]:List ByteArray),true)) else (none)) else (none))) else (none)) else (none)) else (none)) else (none)) else (some (y124,([]:List ByteArray),true))) else (some (y124,([]:List ByteArray),true)))) else (none)) else (none)) else (none))) else (none)) = some (r1,r2,r3):=by first|(rw [hy117];with_reducible exact H)|(have H2_:=(Option.bind_some _ _).symm.trans H;rw [hy117];with_reducible exact H2_)|(have H2_:=(Option.bind_some _ _).symm.trans H;with_reducible exact H2_)|with_reducible exact H|(rw [hy117];exact H)|exact H
    have Ny117:=Aside0.mk hy117
    clear hy117
    by_cases c26:y117.length + l0_0.length < 8796093022208
    ·rw [if_pos c26] at H
     have LMc26:=Aside0.mk c26
     clear c26
     obtain ⟨y120,hy120⟩:∃ y_:List ByteArray,y_ = (y117 ++ l0_0):=⟨_,rfl⟩
     replace H:(if 0 ≤ a1 then (if a1 ≤ (l0_1.length:Int) then (if y120.length + (l0_1.take (a1:Int).toNat).length < 8796093022208 then ((some (y120 ++ (l0_1.take (a1:Int).toNat):List ByteArray)).bind fun y124=>(if a2 > 0 then (if a1 < (l0_1.length:Int) then (if 0 ≤ a2 then (if a2 ≤ ((rdOf ByteArray.empty l0_1 a1).size:Int) then (if 0 ≤ (wrap64 (16 - a2)) then (if (wrap64 (16 - a2):Int).toNat ≤ 281474976710656 then ((some (List.replicate (wrap64 (16 - a2):Int).toNat 0:List Int)).bind fun y129=>(if ((rdOf ByteArray.empty l0_1 a1).extract 0 (a2:Int).toNat).size + (strOfNums y129).size ≤ 9223372036854775807 then (if y124.length < 8796093022208 then (some ((y124 ++ [((rdOf ByteArray.empty l0_1 a1).extract 0 (a2:Int).toNat) ++ (strOfNums y129)]),([]:List ByteArray),true)) else (none)) else (none))) else (none)) else (none)) else (none)) else (none)) else (some (y124,([]:List ByteArray),true))) else (some (y124,([]:List ByteArray),true)))) else (none)) else (none)) else (none)) = some (r1,r2,r3):=by first|(rw [hy120];with_reducible exact H)|(have H2_:=(Option.bind_some _ _).symm.trans H;rw [hy120];with_reducible exact H2_)|(have H2_:=(Option.bind_some _ _).symm.trans H;with_reducible exact H2_)|with_reducible exact H|(rw [hy120];exact H)|exact H
     have Ny120:=Aside0.mk hy120
     clear hy120
     by_cases c27:0 ≤ a1
     ·rw [if_pos c27] at H
      have c27b0:=eq_true c27
      have c27b1:=decide_eq_true c27
      clear c27
      by_cases c28:a1 ≤ (l0_1.length:Int)
      ·rw [if_pos c28] at H
       have c28b0:=eq_true c28
       have c28b1:=decide_eq_true c28
       clear c28
       by_cases c29:y120.length + (l0_1.take (a1:Int).toNat).length < 8796093022208
       ·rw [if_pos c29] at H
        have LMc29:=Aside0.mk c29
        clear c29
        obtain ⟨y124,hy124⟩:∃ y_:List ByteArray,y_ = (y120 ++ (l0_1.take (a1:Int).toNat)):=⟨_,rfl⟩
        replace H:(if a2 > 0 then (if a1 < (l0_1.length:Int) then (if 0 ≤ a2 then (if a2 ≤ ((rdOf ByteArray.empty l0_1 a1).size:Int) then (if 0 ≤ (wrap64 (16 - a2)) then (if (wrap64 (16 - a2):Int).toNat ≤ 281474976710656 then ((some (List.replicate (wrap64 (16 - a2):Int).toNat 0:List Int)).bind fun y129=>(if ((rdOf ByteArray.empty l0_1 a1).extract 0 (a2:Int).toNat).size + (strOfNums y129).size ≤ 9223372036854775807 then (if y124.length < 8796093022208 then (some ((y124 ++ [((rdOf ByteArray.empty l0_1 a1).extract 0 (a2:Int).toNat) ++ (strOfNums y129)]),([]:List ByteArray),true)) else (none)) else (none))) else (none)) else (none)) else (none)) else (none)) else (some (y124,([]:List ByteArray),true))) else (some (y124,([]:List ByteArray),true))) = some (r1,r2,r3):=by first|(rw [hy124];with_reducible exact H)|(have H2_:=(Option.bind_some _ _).symm.trans H;rw [hy124];with_reducible exact H2_)|(have H2_:=(Option.bind_some _ _).symm.trans H;with_reducible exact H2_)|with_reducible exact H|(rw [hy124];exact H)|exact H
        have Ny124:=Aside0.mk hy124
        clear hy124
        by_cases c30:a2 > 0
        ·rw [if_pos c30] at H
         have c30b0:decide (0 < a2) = true:=decide_eq_true c30
         clear c30
         by_cases c31:a1 < (l0_1.length:Int)
         ·rw [if_pos c31] at H
          have c31b0:=decide_eq_true c31
          clear c31
          by_cases c32:0 ≤ a2
          ·rw [if_pos c32] at H
           have c32b0:=eq_true c32
           have c32b1:=decide_eq_true c32
           clear c32
           by_cases c33:a2 ≤ ((rdOf ByteArray.empty l0_1 a1).size:Int)
           ·rw [if_pos c33] at H
            have c33b0:=eq_true c33
            have c33b1:=decide_eq_true c33
            clear c33
            obtain ⟨ji34,hji34⟩:∃ j_:Int,(wrap64 (16 - a2)) = j_:=⟨_,rfl⟩
            replace H:(if 0 ≤ (ji34) then (if (ji34:Int).toNat ≤ 281474976710656 then ((some (List.replicate (ji34:Int).toNat 0:List Int)).bind fun y129=>(if ((rdOf ByteArray.empty l0_1 a1).extract 0 (a2:Int).toNat).size + (strOfNums y129).size ≤ 9223372036854775807 then (if y124.length < 8796093022208 then (some ((y124 ++ [((rdOf ByteArray.empty l0_1 a1).extract 0 (a2:Int).toNat) ++ (strOfNums y129)]),([]:List ByteArray),true)) else (none)) else (none))) else (none)) else (none)) = some (r1,r2,r3):=by first|(rw [hji34] at H;exact H)|(simp only [hji34] at H ⊢;exact H)
            have hji34w:(IntKind.i64.wrap (16 - a2)) = ji34:=(i64_w _).trans hji34
            by_cases c35:0 ≤ (ji34)
            ·rw [if_pos c35] at H
             have c35b0:=eq_true c35
             have c35b1:=decide_eq_true c35
             clear c35
             by_cases c36:(ji34:Int).toNat ≤ 281474976710656
             ·rw [if_pos c36] at H
              have c36b0:=eq_true c36
              have c36b1:=decide_eq_true c36
              clear c36
              obtain ⟨y129,hy129⟩:∃ y_:List Int,y_ = (List.replicate (ji34:Int).toNat 0):=⟨_,rfl⟩
              replace H:(if ((rdOf ByteArray.empty l0_1 a1).extract 0 (a2:Int).toNat).size + (strOfNums y129).size ≤ 9223372036854775807 then (if y124.length < 8796093022208 then (some ((y124 ++ [((rdOf ByteArray.empty l0_1 a1).extract 0 (a2:Int).toNat) ++ (strOfNums y129)]),([]:List ByteArray),true)) else (none)) else (none)) = some (r1,r2,r3):=by first|(rw [hy129];with_reducible exact H)|(have H2_:=(Option.bind_some _ _).symm.trans H;rw [hy129];with_reducible exact H2_)|(have H2_:=(Option.bind_some _ _).symm.trans H;with_reducible exact H2_)|with_reducible exact H|(rw [hy129];exact H)|exact H
              have Ny129:=Aside0.mk hy129
              clear hy129
              by_cases c37:((rdOf ByteArray.empty l0_1 a1).extract 0 (a2:Int).toNat).size + (strOfNums y129).size ≤ 9223372036854775807
              ·rw [if_pos c37] at H
               have c37b0:=eq_true c37
               have c37b1:=decide_eq_true c37
               try have c37b2:(9223372036854775807 < ((rdOf ByteArray.empty l0_1 a1).extract 0 (a2:Int).toNat).size + (strOfNums y129).size) = False:=eq_false (Nat.not_lt.2 c37)
               try (have e_:((rdOf ByteArray.empty l0_1 a1).extract 0 (a2:Int).toNat).size = (a2:Int).toNat:=(by simp only [ByteArray.size_extract];have h_:a2 ≤ ((rdOf ByteArray.empty l0_1 a1).size:Int):=of_decide_eq_true (by assumption);omega);have c37b3:=c37b2;rw [e_] at c37b3)
               by_cases c38:y124.length < 8796093022208
               ·rw [if_pos c38] at H
                have LMc38:=Aside0.mk c38
                clear c38
                obtain ⟨y132,hy132⟩:∃ y_:List ByteArray,y_ = (y124 ++ [((rdOf ByteArray.empty l0_1 a1).extract 0 (a2:Int).toNat) ++ (strOfNums y129)]):=⟨_,rfl⟩
                replace H:(some (y132,([]:List ByteArray),true)) = some (r1,r2,r3):=by first|(rw [hy132];with_reducible exact H)|(have H2_:=(Option.bind_some _ _).symm.trans H;rw [hy132];with_reducible exact H2_)|(have H2_:=(Option.bind_some _ _).symm.trans H;with_reducible exact H2_)|with_reducible exact H|(rw [hy132];exact H)|exact H
                have Ny132:=Aside0.mk hy132
                clear hy132
                simp only [Option.some.injEq,Prod.mk.injEq] at H
                obtain ⟨rfl,rfl,rfl⟩:=H
                try go_wp2
                replace BK112:=Aside0.mk (blk_drew BK112.out);replace BK113:=Aside0.mk (blk_drew BK113.out);replace HB:=Aside0.mk (below_drew1 HB.out)
                obtain ⟨i040,hi040,_,hsz40,_⟩:=info_parts info9
                obtain ⟨hcut40,hA40,hC40⟩:=print_take_of (P:=Try.prog) Value.string (⟨#[]⟩:ByteArray) 24 9 .i64 Try.underlying24 hi040 hsz40 A0_1 c0_1 l0_1 a1 (oD) (oD) HC0_1.out
                have HR123:=Aside0.mk (Kd.C_of_reads (h1:=fun _=>rfl) (hA40 _ (Kd.reads_of_C HR0_1.out)))
                have HC123:=Aside0.mk hC40
                clear hA40 hC40 hi040 hsz40
                refine start_ (n:=12) (S:=fun w'=>w'.cell? ⟨gb112,0,none⟩ = some (.slice A0_0 l0_0.length c0_0) ∧ w'.cell? ⟨gb112,1,none⟩ = some (.slice A0_1 l0_1.length c0_1)) (ds:=[]) #[false,false,false,false,false,false,false,false,false,false,false,false] (by kernel_rfl) rfl rfl ⟨(blk_cell BK112.out 0).trans rfl,(blk_cell BK112.out 1).trans rfl⟩ (fun hHeld=>?_);refine with_tabW spec_CrashDisk.tab3 spec_CrashDisk.bits3 (fun HT_ HW_=>?_)
                generalize wc.drew = w39 at BK112 BK113 HB HR123 hHeld ⊢
                refine pU (i:=1) (N:=some 27) #[false,true,false,false,false,false,false,false,false,false,false,false] (any_of HT_.out (by kernel_rfl)) ?_
                refine pU (i:=4) (N:=some 30) #[false,true,false,false,true,false,false,false,false,false,false,false] (any_of HT_.out (by kernel_rfl)) ?_
                refine pU (i:=6) (N:=some 32) #[false,true,false,false,true,false,true,false,false,false,false,false] (any_of HT_.out (by kernel_rfl)) ?_
                refine take_ (i:=2) (N:=some 28) (v:=?_) (a':=?_) #[false,true,true,false,true,false,true,false,false,false,false,false] rfl rfl (take_ofW HT_.out HW_.out (by kernel_rfl)) (fun _ _ _ h=>h) (Or.inl ⟨by rfl,?_⟩) hHeld ?_ ?_
                rotate_left
                ·rintro w' ⟨s0,s1⟩
                 go_simp
                 with_reducible rfl
                rotate_left
                ·simp only [Act.put,List.setIfInBounds_toArray,List.set_cons_zero,List.set_cons_succ,i64_w,i32_w]
                 rfl
                refine take_ (i:=5) (N:=some 31) (v:=?_) (a':=?_) #[false,true,true,false,true,true,true,false,false,false,false,false] rfl rfl (take_ofW HT_.out HW_.out (by kernel_rfl)) (fun _ _ _ h=>h) (Or.inl ⟨by rfl,?_⟩) hHeld ?_ ?_
                rotate_left
                ·rintro w' ⟨s0,s1⟩
                 go_simp
                 with_reducible rfl
                rotate_left
                ·simp only [Act.put,List.setIfInBounds_toArray,List.set_cons_zero,List.set_cons_succ,i64_w,i32_w]
                 rfl
                refine pU (i:=7) (N:=some 33) #[false,true,true,false,true,true,true,true,false,false,false,false] (any_of HT_.out (by kernel_rfl)) ?_
                refine join_ (σ:=Value × Value × Value × Nat) 1 #[true,true,true,true,true,true,true,true,true,true,true,false] (fun s_=>[(26,s_.1),(29,s_.2.1),(34,s_.2.2.1),(8,.pointer (some ⟨s_.2.2.2,0,none⟩)),(35,.agg #[s_.2.2.1,.slice none 0 0])]) (fun s_ w'=>(w'.cell? ⟨gb112,0,none⟩ = some (.slice A0_0 l0_0.length c0_0) ∧ w'.cell? ⟨gb112,1,none⟩ = some (.slice A0_1 l0_1.length c0_1)) ∧ (Kd.R Kd.string 9 w' w.heap.size (fun _=>True) s_.2.2.1 y124) ∧ (w'.heap[gb112]? = some (.cells #[.slice A0_0 l0_0.length c0_0,.slice A0_1 l0_1.length c0_1] 26 (0,0))) ∧ (w'.heap[gb113]? = some (.cells #[.slice none 0 0,.slice none 0 0] 26 (0,0))) ∧ (w'.heap[s_.2.2.2]? = some (.cells #[.slice none 0 0,.slice none 0 0] 26 (0,0))) ∧ (w.heap.size ≤ s_.2.2.2) ∧ (w.heap.size ≤ s_.2.2.2) ∧ (gb112 ≠ s_.2.2.2) ∧ (s_.2.2.2 ≠ gb112) ∧ (gb113 ≠ s_.2.2.2) ∧ (s_.2.2.2 ≠ gb113) ∧ (Below w.heap.size w w')) ?_ ?_
                rotate_left
                ·intro hCont
                 refine two_ (i:=0) (j:=10) (Ni:=some 26) (Nj:=some 8) #[true,true,true,false,true,true,true,true,false,false,false,false] #[false,true,true,false,true,true,true,true,false,false,true,false] rfl rfl rfl rfl (two_of HT_.out (by kernel_rfl)) (by decide) (by decide) (fun K hK=>?_) (fun K hK=>?_)
                 ·skip
                  refine Kd.R_lit_step Kd.string _ 9 ?hg (N:=26) ?hd (xs:=([]:List ByteArray)) (inner:=[]) (ok:=fun _=>True) (okp:=fun _=>True) ?hr ?hp (fun _ hk=>hk) trivial (Below.refl _ _) (Nat.le_refl _) (by simp) ?_;(case hd=>rfl);(case hg=>rfl);(case hr=>exact Yg);(case hp=>exact ZN)
                  intro v118 w41 ho42 hb hg_ hnew_
                  clear hg_ hnew_
                  (first|rw [← Ny117.out] at ho42|(simp only [Int.reduceToNat] at ho42;rw [← Ny117.out] at ho42))
                  have HO119:=Aside0.mk (Kd.R_lower ho42 (below_size bH));replace BK112:=Aside0.mk (blk_below (bB BK112) hb);replace BK113:=Aside0.mk (blk_below (bB BK113) hb);replace HB:=Aside0.mk (below_step bH hb)
                  clear hb ho42
                  refine hK.out _ _ ⟨(blk_cell BK112.out 0).trans rfl,(blk_cell BK112.out 1).trans rfl⟩ (fun hHeld=>?_)
                  clear hK K
                  refine nM (N:=some 26) ?_
                  refine two_ (i:=3) (j:=10) (Ni:=some 29) (Nj:=some 8) #[true,true,true,true,true,true,true,true,false,false,false,false] #[true,true,true,false,true,true,true,true,false,false,true,false] rfl rfl rfl rfl (two_of HT_.out (by kernel_rfl)) (by decide) (by decide) (fun K hK=>?_) (fun K hK=>?_)
                  ·skip
                   refine Kd.R_append_rows_step Kd.string (w0:=w) w.heap.size (by rfl) (.tmp 26) (.tmp 28) 24 9 (.string ⟨#[]⟩) 16 rfl Try.underlying24 info9 rfl (by decide) Yy v118 y117 l0_0 _ _ _ (fun _=>True) (fun _=>False) rfl rfl ?aO ?aR (fun _ _ h=>h) (fun _ h=>h.elim) ?aF ?aB ?aS ?aL ?_
                   (case aR=>exact ZB)
                   (case aB=>exact bH)
                   (case aF=>exact YE)
                   (case aO=>exact (rR HO119))
                   (case aS=>exact YB)
                   (case aL=>have:=LMc26.out;omega)
                   intro v121 w43 ho hb hg hat
                   rw [← Ny120.out] at ho
                   have n0_:=Aside0.mk (blk_grown (bB BK112) hg (Kd.R_ne HO119.out BK112.out (by decide)));have n1_:=Aside0.mk (blk_grown (bB BK113) hg (Kd.R_ne HO119.out BK113.out (by decide)));have n2_:=Aside0.mk (hb);have n3_:=Aside0.mk (ho);clear BK112;clear BK113;clear HB;clear HO119;have BK112:=n0_;have BK113:=n1_;have HB:=n2_;have HO122:=n3_;clear n0_ n1_ n2_ n3_
                   clear ho hb hg hat
                   refine hK.out _ _ ⟨(blk_cell BK112.out 0).trans rfl,(blk_cell BK112.out 1).trans rfl⟩ (fun hHeld=>?_)
                   clear hK K
                   refine nM (N:=some 29) ?_
                   refine two_ (i:=8) (j:=10) (Ni:=some 34) (Nj:=some 8) #[true,true,true,true,true,true,true,true,true,false,false,false] #[true,true,true,true,true,true,true,true,false,false,true,false] rfl rfl rfl rfl (two_of HT_.out (by kernel_rfl)) (by decide) (by decide) (fun K hK=>?_) (fun K hK=>?_)
                   ·skip
                    refine Kd.R_append_rows_step Kd.string (w0:=w) w.heap.size (by rfl) (.tmp 29) (.tmp 33) 24 9 (.string ⟨#[]⟩) 16 rfl Try.underlying24 info9 rfl (by decide) Yy v121 y120 (l0_1.take (a1:Int).toNat) _ _ _ (fun _=>True) (fun _=>False) rfl rfl ?aO ?aR (fun _ _ h=>h) (fun _ h=>h.elim) ?aF ?aB ?aS ?aL ?_
                    (case aR=>first|(have q_:=Kd.C_below HR123.out HB.out;rw [show (l0_1.take (a1:Int).toNat).length = a1.toNat from (by rw [List.length_take];have h_:(a1:Int) ≤ (l0_1.length:Int):=oD;omega)] at q_;exact q_)|(rw [← show (l0_1.take (a1:Int).toNat).length = a1.toNat from (by rw [List.length_take];have h_:(a1:Int) ≤ (l0_1.length:Int):=oD;omega)];repeat (first|exact (Kd.C_below HR123.out HB.out)|(with_reducible refine Kd.C_alloc ?_ _)|(with_reducible refine Kd.C_drewN ?_ _)|(with_reducible refine Kd.C_drew ?_)))|(repeat (first|exact (Kd.C_below HR123.out HB.out)|(with_reducible refine Kd.C_alloc ?_ _)|(with_reducible refine Kd.C_drewN ?_ _)|(with_reducible refine Kd.C_drew ?_))))
                    (case aB=>exact bH)
                    (case aF=>exact YE)
                    (case aO=>exact (rR HO122))
                    (case aS=>exact YB)
                    (case aL=>exact Ym)
                    intro v125 w44 ho hb hg hat
                    rw [← Ny124.out] at ho
                    have n0_:=Aside0.mk (blk_grown (bB BK112) hg (Kd.R_ne HO122.out BK112.out (by decide)));have n1_:=Aside0.mk (blk_grown (bB BK113) hg (Kd.R_ne HO122.out BK113.out (by decide)));have n2_:=Aside0.mk (hb);have n3_:=Aside0.mk (ho);clear BK112;clear BK113;clear HB;clear HO122;have BK112:=n0_;have BK113:=n1_;have HB:=n2_;have HO126:=n3_;clear n0_ n1_ n2_ n3_
                    clear ho hb hg hat
                    obtain ⟨Ao45,co45,eo45⟩:=Kd.R_slice HO126.out
                    (first|subst eo45|(injection eo45 with f1_ f2_ f3_;have f4_:=f1_.symm;have f5_:=f3_.symm;clear f1_ f2_ f3_;subst f4_;subst f5_))
                    refine hK.out _ _ ⟨(blk_cell BK112.out 0).trans rfl,(blk_cell BK112.out 1).trans rfl⟩ (fun hHeld=>?_)
                    clear hK K
                    refine nM (N:=some 34) ?_
                    refine pU (i:=9) (N:=some 35) #[true,true,true,true,true,true,true,true,true,true,false,false] (any_of HT_.out (by kernel_rfl)) ?_
                    refine one_ (i:=10) (N:=some 8) #[true,true,true,true,true,true,true,true,true,true,true,false] rfl rfl (one_of HT_.out (by kernel_rfl)) (by decide) (fun K hK=>?_)
                    refine box_step ?hg (N:=8) ?hd (cs:=#[.slice none 0 0,.slice none 0 0]) (t:=26) ?hr ?_;(case hd=>rfl);(case hg=>rfl);(case hr=>exact Yg)
                    intro gb127 hg w46 hbox hb
                    replace HO126:=Aside0.mk (Kd.R_below (rR HO126) hb);have BK127:=Aside0.mk (hbox);have GW127:=Aside0.mk ((hZ:w.heap.size ≤ gb127));have GE127:=Aside0.mk ((hZ:w.heap.size ≤ gb127));replace HB:=Aside0.mk (below_step bH hb);have NB112_127:=Aside0.mk ((nL BK112:gb112 ≠ gb127));have NB127_112:=Aside0.mk ((nG BK112:gb127 ≠ gb112));replace BK112:=Aside0.mk (blk_below (bB BK112) hb);have NB113_127:=Aside0.mk ((nL BK113:gb113 ≠ gb127));have NB127_113:=Aside0.mk ((nG BK113:gb127 ≠ gb113));replace BK113:=Aside0.mk (blk_below (bB BK113) hb)
                    clear hb hbox hg
                    refine hK.out _ _ ⟨(blk_cell BK112.out 0).trans rfl,(blk_cell BK112.out 1).trans rfl⟩ (fun hHeld=>?_)
                    clear hK K
                    refine nM (N:=some 8) ?_
                    exact norm_ Yi (hCont (v118,v121,.slice Ao45 y124.length co45,gb127) _ ⟨hHeld,(rR HO126),(bB BK112),(bB BK113),(bB BK127),GW127.out,GE127.out,NB112_127.out,NB127_112.out,NB113_127.out,NB127_113.out,bH⟩)
                   ·skip
                    refine box_step ?hg (N:=8) ?hd (cs:=#[.slice none 0 0,.slice none 0 0]) (t:=26) ?hr ?_;(case hd=>rfl);(case hg=>rfl);(case hr=>exact Yg)
                    intro gb127 hg w44 hbox hb
                    replace HO122:=Aside0.mk (Kd.R_below (rR HO122) hb);have BK127:=Aside0.mk (hbox);have GW127:=Aside0.mk ((hZ:w.heap.size ≤ gb127));have GE127:=Aside0.mk ((hZ:w.heap.size ≤ gb127));replace HB:=Aside0.mk (below_step bH hb);have NB112_127:=Aside0.mk ((nL BK112:gb112 ≠ gb127));have NB127_112:=Aside0.mk ((nG BK112:gb127 ≠ gb112));replace BK112:=Aside0.mk (blk_below (bB BK112) hb);have NB113_127:=Aside0.mk ((nL BK113:gb113 ≠ gb127));have NB127_113:=Aside0.mk ((nG BK113:gb127 ≠ gb113));replace BK113:=Aside0.mk (blk_below (bB BK113) hb)
                    clear hb hbox hg
                    refine hK.out _ _ ⟨(blk_cell BK112.out 0).trans rfl,(blk_cell BK112.out 1).trans rfl⟩ (fun hHeld=>?_)
                    clear hK K
                    refine nM (N:=some 8) ?_
                    refine one_ (i:=8) (N:=some 34) #[true,true,true,true,true,true,true,true,true,false,true,false] rfl rfl (one_of HT_.out (by kernel_rfl)) (by decide) (fun K hK=>?_)
                    refine Kd.R_append_rows_step Kd.string (w0:=w) w.heap.size (by rfl) (.tmp 29) (.tmp 33) 24 9 (.string ⟨#[]⟩) 16 rfl Try.underlying24 info9 rfl (by decide) Yy v121 y120 (l0_1.take (a1:Int).toNat) _ _ _ (fun _=>True) (fun _=>False) rfl rfl ?aO ?aR (fun _ _ h=>h) (fun _ h=>h.elim) ?aF ?aB ?aS ?aL ?_
                    (case aR=>first|(have q_:=Kd.C_below HR123.out HB.out;rw [show (l0_1.take (a1:Int).toNat).length = a1.toNat from (by rw [List.length_take];have h_:(a1:Int) ≤ (l0_1.length:Int):=oD;omega)] at q_;exact q_)|(rw [← show (l0_1.take (a1:Int).toNat).length = a1.toNat from (by rw [List.length_take];have h_:(a1:Int) ≤ (l0_1.length:Int):=oD;omega)];repeat (first|exact (Kd.C_below HR123.out HB.out)|(with_reducible refine Kd.C_alloc ?_ _)|(with_reducible refine Kd.C_drewN ?_ _)|(with_reducible refine Kd.C_drew ?_)))|(repeat (first|exact (Kd.C_below HR123.out HB.out)|(with_reducible refine Kd.C_alloc ?_ _)|(with_reducible refine Kd.C_drewN ?_ _)|(with_reducible refine Kd.C_drew ?_))))
                    (case aB=>exact bH)
                    (case aF=>exact YE)
                    (case aO=>exact (rR HO122))
                    (case aS=>exact YB)
                    (case aL=>exact Ym)
                    intro v125 w45 ho hb hg hat
                    rw [← Ny124.out] at ho
                    have n0_:=Aside0.mk (blk_grown (bB BK112) hg (Kd.R_ne HO122.out BK112.out (by decide)));have n1_:=Aside0.mk (blk_grown (bB BK113) hg (Kd.R_ne HO122.out BK113.out (by decide)));have n2_:=Aside0.mk (blk_grown (bB BK127) hg (Kd.R_ne HO122.out BK127.out (by decide)));have n3_:=Aside0.mk (hb);have n4_:=Aside0.mk (ho);clear BK112;clear BK113;clear BK127;clear HB;clear HO122;have BK112:=n0_;have BK113:=n1_;have BK127:=n2_;have HB:=n3_;have HO126:=n4_;clear n0_ n1_ n2_ n3_ n4_
                    clear ho hb hg hat
                    obtain ⟨Ao46,co46,eo46⟩:=Kd.R_slice HO126.out
                    (first|subst eo46|(injection eo46 with f1_ f2_ f3_;have f4_:=f1_.symm;have f5_:=f3_.symm;clear f1_ f2_ f3_;subst f4_;subst f5_))
                    refine hK.out _ _ ⟨(blk_cell BK112.out 0).trans rfl,(blk_cell BK112.out 1).trans rfl⟩ (fun hHeld=>?_)
                    clear hK K
                    refine nM (N:=some 34) ?_
                    refine pU (i:=9) (N:=some 35) #[true,true,true,true,true,true,true,true,true,true,true,false] (any_of HT_.out (by kernel_rfl)) ?_
                    exact norm_ Yi (hCont (v118,v121,.slice Ao46 y124.length co46,gb127) _ ⟨hHeld,(rR HO126),(bB BK112),(bB BK113),(bB BK127),GW127.out,GE127.out,NB112_127.out,NB127_112.out,NB113_127.out,NB127_113.out,bH⟩)
                  ·skip
                   refine box_step ?hg (N:=8) ?hd (cs:=#[.slice none 0 0,.slice none 0 0]) (t:=26) ?hr ?_;(case hd=>rfl);(case hg=>rfl);(case hr=>exact Yg)
                   intro gb127 hg w43 hbox hb
                   replace HO119:=Aside0.mk (Kd.R_below (rR HO119) hb);have BK127:=Aside0.mk (hbox);have GW127:=Aside0.mk ((hZ:w.heap.size ≤ gb127));have GE127:=Aside0.mk ((hZ:w.heap.size ≤ gb127));replace HB:=Aside0.mk (below_step bH hb);have NB112_127:=Aside0.mk ((nL BK112:gb112 ≠ gb127));have NB127_112:=Aside0.mk ((nG BK112:gb127 ≠ gb112));replace BK112:=Aside0.mk (blk_below (bB BK112) hb);have NB113_127:=Aside0.mk ((nL BK113:gb113 ≠ gb127));have NB127_113:=Aside0.mk ((nG BK113:gb127 ≠ gb113));replace BK113:=Aside0.mk (blk_below (bB BK113) hb)
                   clear hb hbox hg
                   refine hK.out _ _ ⟨(blk_cell BK112.out 0).trans rfl,(blk_cell BK112.out 1).trans rfl⟩ (fun hHeld=>?_)
                   clear hK K
                   refine nM (N:=some 8) ?_
                   refine one_ (i:=3) (N:=some 29) #[true,true,true,true,true,true,true,true,false,false,true,false] rfl rfl (one_of HT_.out (by kernel_rfl)) (by decide) (fun K hK=>?_)
                   refine Kd.R_append_rows_step Kd.string (w0:=w) w.heap.size (by rfl) (.tmp 26) (.tmp 28) 24 9 (.string ⟨#[]⟩) 16 rfl Try.underlying24 info9 rfl (by decide) Yy v118 y117 l0_0 _ _ _ (fun _=>True) (fun _=>False) rfl rfl ?aO ?aR (fun _ _ h=>h) (fun _ h=>h.elim) ?aF ?aB ?aS ?aL ?_
                   (case aR=>exact ZB)
                   (case aB=>exact bH)
                   (case aF=>exact YE)
                   (case aO=>exact (rR HO119))
                   (case aS=>exact YB)
                   (case aL=>have:=LMc26.out;omega)
                   intro v121 w44 ho hb hg hat
                   rw [← Ny120.out] at ho
                   have n0_:=Aside0.mk (blk_grown (bB BK112) hg (Kd.R_ne HO119.out BK112.out (by decide)));have n1_:=Aside0.mk (blk_grown (bB BK113) hg (Kd.R_ne HO119.out BK113.out (by decide)));have n2_:=Aside0.mk (blk_grown (bB BK127) hg (Kd.R_ne HO119.out BK127.out (by decide)));have n3_:=Aside0.mk (hb);have n4_:=Aside0.mk (ho);clear BK112;clear BK113;clear BK127;clear HB;clear HO119;have BK112:=n0_;have BK113:=n1_;have BK127:=n2_;have HB:=n3_;have HO122:=n4_;clear n0_ n1_ n2_ n3_ n4_
                   clear ho hb hg hat
                   refine hK.out _ _ ⟨(blk_cell BK112.out 0).trans rfl,(blk_cell BK112.out 1).trans rfl⟩ (fun hHeld=>?_)
                   clear hK K
                   refine nM (N:=some 29) ?_
                   refine one_ (i:=8) (N:=some 34) #[true,true,true,true,true,true,true,true,true,false,true,false] rfl rfl (one_of HT_.out (by kernel_rfl)) (by decide) (fun K hK=>?_)
                   refine Kd.R_append_rows_step Kd.string (w0:=w) w.heap.size (by rfl) (.tmp 29) (.tmp 33) 24 9 (.string ⟨#[]⟩) 16 rfl Try.underlying24 info9 rfl (by decide) Yy v121 y120 (l0_1.take (a1:Int).toNat) _ _ _ (fun _=>True) (fun _=>False) rfl rfl ?aO ?aR (fun _ _ h=>h) (fun _ h=>h.elim) ?aF ?aB ?aS ?aL ?_
                   (case aR=>first|(have q_:=Kd.C_below HR123.out HB.out;rw [show (l0_1.take (a1:Int).toNat).length = a1.toNat from (by rw [List.length_take];have h_:(a1:Int) ≤ (l0_1.length:Int):=oD;omega)] at q_;exact q_)|(rw [← show (l0_1.take (a1:Int).toNat).length = a1.toNat from (by rw [List.length_take];have h_:(a1:Int) ≤ (l0_1.length:Int):=oD;omega)];repeat (first|exact (Kd.C_below HR123.out HB.out)|(with_reducible refine Kd.C_alloc ?_ _)|(with_reducible refine Kd.C_drewN ?_ _)|(with_reducible refine Kd.C_drew ?_)))|(repeat (first|exact (Kd.C_below HR123.out HB.out)|(with_reducible refine Kd.C_alloc ?_ _)|(with_reducible refine Kd.C_drewN ?_ _)|(with_reducible refine Kd.C_drew ?_))))
                   (case aB=>exact bH)
                   (case aF=>exact YE)
                   (case aO=>exact (rR HO122))
                   (case aS=>exact YB)
                   (case aL=>exact Ym)
                   intro v125 w45 ho hb hg hat
                   rw [← Ny124.out] at ho
                   have n0_:=Aside0.mk (blk_grown (bB BK112) hg (Kd.R_ne HO122.out BK112.out (by decide)));have n1_:=Aside0.mk (blk_grown (bB BK113) hg (Kd.R_ne HO122.out BK113.out (by decide)));have n2_:=Aside0.mk (blk_grown (bB BK127) hg (Kd.R_ne HO122.out BK127.out (by decide)));have n3_:=Aside0.mk (hb);have n4_:=Aside0.mk (ho);clear BK112;clear BK113;clear BK127;clear HB;clear HO122;have BK112:=n0_;have BK113:=n1_;have BK127:=n2_;have HB:=n3_;have HO126:=n4_;clear n0_ n1_ n2_ n3_ n4_
                   clear ho hb hg hat
                   obtain ⟨Ao46,co46,eo46⟩:=Kd.R_slice HO126.out
                   (first|subst eo46|(injection eo46 with f1_ f2_ f3_;have f4_:=f1_.symm;have f5_:=f3_.symm;clear f1_ f2_ f3_;subst f4_;subst f5_))
                   refine hK.out _ _ ⟨(blk_cell BK112.out 0).trans rfl,(blk_cell BK112.out 1).trans rfl⟩ (fun hHeld=>?_)
                   clear hK K
                   refine nM (N:=some 34) ?_
                   refine pU (i:=9) (N:=some 35) #[true,true,true,true,true,true,true,true,true,true,true,false] (any_of HT_.out (by kernel_rfl)) ?_
                   exact norm_ Yi (hCont (v118,v121,.slice Ao46 y124.length co46,gb127) _ ⟨hHeld,(rR HO126),(bB BK112),(bB BK113),(bB BK127),GW127.out,GE127.out,NB112_127.out,NB127_112.out,NB113_127.out,NB127_113.out,bH⟩)
                 ·skip
                  refine box_step ?hg (N:=8) ?hd (cs:=#[.slice none 0 0,.slice none 0 0]) (t:=26) ?hr ?_;(case hd=>rfl);(case hg=>rfl);(case hr=>exact Yg)
                  intro gb127 hg w41 hbox hb
                  have BK127:=Aside0.mk (hbox);have GW127:=Aside0.mk ((hZ:w.heap.size ≤ gb127));have GE127:=Aside0.mk ((hZ:w.heap.size ≤ gb127));replace HB:=Aside0.mk (below_step bH hb);have NB112_127:=Aside0.mk ((nL BK112:gb112 ≠ gb127));have NB127_112:=Aside0.mk ((nG BK112:gb127 ≠ gb112));replace BK112:=Aside0.mk (blk_below (bB BK112) hb);have NB113_127:=Aside0.mk ((nL BK113:gb113 ≠ gb127));have NB127_113:=Aside0.mk ((nG BK113:gb127 ≠ gb113));replace BK113:=Aside0.mk (blk_below (bB BK113) hb)
                  clear hb hbox hg
                  refine hK.out _ _ ⟨(blk_cell BK112.out 0).trans rfl,(blk_cell BK112.out 1).trans rfl⟩ (fun hHeld=>?_)
                  clear hK K
                  refine nM (N:=some 8) ?_
                  refine one_ (i:=0) (N:=some 26) #[true,true,true,false,true,true,true,true,false,false,true,false] rfl rfl (one_of HT_.out (by kernel_rfl)) (by decide) (fun K hK=>?_)
                  refine Kd.R_lit_step Kd.string _ 9 ?hg (N:=26) ?hd (xs:=([]:List ByteArray)) (inner:=[]) (ok:=fun _=>True) (okp:=fun _=>True) ?hr ?hp (fun _ hk=>hk) trivial (Below.refl _ _) (Nat.le_refl _) (by simp) ?_;(case hd=>rfl);(case hg=>rfl);(case hr=>exact Yg);(case hp=>exact ZN)
                  intro v118 w42 ho43 hb hg_ hnew_
                  clear hg_ hnew_
                  (first|rw [← Ny117.out] at ho43|(simp only [Int.reduceToNat] at ho43;rw [← Ny117.out] at ho43))
                  have HO119:=Aside0.mk (Kd.R_lower ho43 (below_size bH));replace BK112:=Aside0.mk (blk_below (bB BK112) hb);replace BK113:=Aside0.mk (blk_below (bB BK113) hb);replace BK127:=Aside0.mk (blk_below (bB BK127) hb);replace HB:=Aside0.mk (below_step bH hb)
                  clear hb ho43
                  refine hK.out _ _ ⟨(blk_cell BK112.out 0).trans rfl,(blk_cell BK112.out 1).trans rfl⟩ (fun hHeld=>?_)
                  clear hK K
                  refine nM (N:=some 26) ?_
                  refine one_ (i:=3) (N:=some 29) #[true,true,true,true,true,true,true,true,false,false,true,false] rfl rfl (one_of HT_.out (by kernel_rfl)) (by decide) (fun K hK=>?_)
                  refine Kd.R_append_rows_step Kd.string (w0:=w) w.heap.size (by rfl) (.tmp 26) (.tmp 28) 24 9 (.string ⟨#[]⟩) 16 rfl Try.underlying24 info9 rfl (by decide) Yy v118 y117 l0_0 _ _ _ (fun _=>True) (fun _=>False) rfl rfl ?aO ?aR (fun _ _ h=>h) (fun _ h=>h.elim) ?aF ?aB ?aS ?aL ?_
                  (case aR=>exact ZB)
                  (case aB=>exact bH)
                  (case aF=>exact YE)
                  (case aO=>exact (rR HO119))
                  (case aS=>exact YB)
                  (case aL=>have:=LMc26.out;omega)
                  intro v121 w44 ho hb hg hat
                  rw [← Ny120.out] at ho
                  have n0_:=Aside0.mk (blk_grown (bB BK112) hg (Kd.R_ne HO119.out BK112.out (by decide)));have n1_:=Aside0.mk (blk_grown (bB BK113) hg (Kd.R_ne HO119.out BK113.out (by decide)));have n2_:=Aside0.mk (blk_grown (bB BK127) hg (Kd.R_ne HO119.out BK127.out (by decide)));have n3_:=Aside0.mk (hb);have n4_:=Aside0.mk (ho);clear BK112;clear BK113;clear BK127;clear HB;clear HO119;have BK112:=n0_;have BK113:=n1_;have BK127:=n2_;have HB:=n3_;have HO122:=n4_;clear n0_ n1_ n2_ n3_ n4_
                  clear ho hb hg hat
                  refine hK.out _ _ ⟨(blk_cell BK112.out 0).trans rfl,(blk_cell BK112.out 1).trans rfl⟩ (fun hHeld=>?_)
                  clear hK K
                  refine nM (N:=some 29) ?_
                  refine one_ (i:=8) (N:=some 34) #[true,true,true,true,true,true,true,true,true,false,true,false] rfl rfl (one_of HT_.out (by kernel_rfl)) (by decide) (fun K hK=>?_)
                  refine Kd.R_append_rows_step Kd.string (w0:=w) w.heap.size (by rfl) (.tmp 29) (.tmp 33) 24 9 (.string ⟨#[]⟩) 16 rfl Try.underlying24 info9 rfl (by decide) Yy v121 y120 (l0_1.take (a1:Int).toNat) _ _ _ (fun _=>True) (fun _=>False) rfl rfl ?aO ?aR (fun _ _ h=>h) (fun _ h=>h.elim) ?aF ?aB ?aS ?aL ?_
                  (case aR=>first|(have q_:=Kd.C_below HR123.out HB.out;rw [show (l0_1.take (a1:Int).toNat).length = a1.toNat from (by rw [List.length_take];have h_:(a1:Int) ≤ (l0_1.length:Int):=oD;omega)] at q_;exact q_)|(rw [← show (l0_1.take (a1:Int).toNat).length = a1.toNat from (by rw [List.length_take];have h_:(a1:Int) ≤ (l0_1.length:Int):=oD;omega)];repeat (first|exact (Kd.C_below HR123.out HB.out)|(with_reducible refine Kd.C_alloc ?_ _)|(with_reducible refine Kd.C_drewN ?_ _)|(with_reducible refine Kd.C_drew ?_)))|(repeat (first|exact (Kd.C_below HR123.out HB.out)|(with_reducible refine Kd.C_alloc ?_ _)|(with_reducible refine Kd.C_drewN ?_ _)|(with_reducible refine Kd.C_drew ?_))))
                  (case aB=>exact bH)
                  (case aF=>exact YE)
                  (case aO=>exact (rR HO122))
                  (case aS=>exact YB)
                  (case aL=>exact Ym)
                  intro v125 w45 ho hb hg hat
                  rw [← Ny124.out] at ho
                  have n0_:=Aside0.mk (blk_grown (bB BK112) hg (Kd.R_ne HO122.out BK112.out (by decide)));have n1_:=Aside0.mk (blk_grown (bB BK113) hg (Kd.R_ne HO122.out BK113.out (by decide)));have n2_:=Aside0.mk (blk_grown (bB BK127) hg (Kd.R_ne HO122.out BK127.out (by decide)));have n3_:=Aside0.mk (hb);have n4_:=Aside0.mk (ho);clear BK112;clear BK113;clear BK127;clear HB;clear HO122;have BK112:=n0_;have BK113:=n1_;have BK127:=n2_;have HB:=n3_;have HO126:=n4_;clear n0_ n1_ n2_ n3_ n4_
                  clear ho hb hg hat
                  obtain ⟨Ao46,co46,eo46⟩:=Kd.R_slice HO126.out
                  (first|subst eo46|(injection eo46 with f1_ f2_ f3_;have f4_:=f1_.symm;have f5_:=f3_.symm;clear f1_ f2_ f3_;subst f4_;subst f5_))
                  refine hK.out _ _ ⟨(blk_cell BK112.out 0).trans rfl,(blk_cell BK112.out 1).trans rfl⟩ (fun hHeld=>?_)
                  clear hK K
                  refine nM (N:=some 34) ?_
                  refine pU (i:=9) (N:=some 35) #[true,true,true,true,true,true,true,true,true,true,true,false] (any_of HT_.out (by kernel_rfl)) ?_
                  exact norm_ Yi (hCont (v118,v121,.slice Ao46 y124.length co46,gb127) _ ⟨hHeld,(rR HO126),(bB BK112),(bB BK113),(bB BK127),GW127.out,GE127.out,NB112_127.out,NB127_112.out,NB113_127.out,NB127_113.out,bH⟩)
                rintro ⟨v118,v121,v125,gb127⟩ w47 ⟨hS_,h0_,h1_,h2_,h3_,h4_,h5_,h6_,h7_,h8_,h9_,h10_⟩
                have n0_:Aside0 (Kd.R Kd.string 9 w47 w.heap.size (fun _=>True) v125 y124):=⟨h0_⟩
                have n1_:Aside0 (w47.heap[gb112]? = some (.cells #[.slice A0_0 l0_0.length c0_0,.slice A0_1 l0_1.length c0_1] 26 (0,0))):=⟨h1_⟩
                have n2_:Aside0 (w47.heap[gb113]? = some (.cells #[.slice none 0 0,.slice none 0 0] 26 (0,0))):=⟨h2_⟩
                have n3_:Aside0 (w47.heap[gb127]? = some (.cells #[.slice none 0 0,.slice none 0 0] 26 (0,0))):=⟨h3_⟩
                have n4_:Aside0 (w.heap.size ≤ gb127):=⟨h4_⟩
                have n5_:Aside0 (w.heap.size ≤ gb127):=⟨h5_⟩
                have n6_:Aside0 (gb112 ≠ gb127):=⟨h6_⟩
                have n7_:Aside0 (gb127 ≠ gb112):=⟨h7_⟩
                have n8_:Aside0 (gb113 ≠ gb127):=⟨h8_⟩
                have n9_:Aside0 (gb127 ≠ gb113):=⟨h9_⟩
                have n10_:Aside0 (Below w.heap.size w w47):=⟨h10_⟩
                clear BK112
                clear BK113
                clear HB
                clear h0_ h1_ h2_ h3_ h4_ h5_ h6_ h7_ h8_ h9_ h10_
                have HO126:=n0_
                have BK112:=n1_
                have BK113:=n2_
                have BK127:=n3_
                have GW127:=n4_
                have GE127:=n5_
                have NB112_127:=n6_
                have NB127_112:=n7_
                have NB113_127:=n8_
                have NB127_113:=n9_
                have HB:=n10_
                clear n0_ n1_ n2_ n3_ n4_ n5_ n6_ n7_ n8_ n9_ n10_
                have hHeld:w47.cell? ⟨gb112,0,none⟩ = some (.slice A0_0 l0_0.length c0_0) ∧ w47.cell? ⟨gb112,1,none⟩ = some (.slice A0_1 l0_1.length c0_1):=hS_
                obtain ⟨Ao48,co48,eo48⟩:=Kd.R_slice HO126.out
                (first|subst eo48|(injection eo48 with f1_ f2_ f3_;have f4_:=f1_.symm;have f5_:=f3_.symm;clear f1_ f2_ f3_;subst f4_;subst f5_))
                refine norm_ (a':=?_) ?_ ?_
                rotate_left
                ·simp only [putAll,Act.put,List.setIfInBounds_toArray,List.set_cons_zero,List.set_cons_succ]
                 rfl
                refine one_ (i:=11) (N:=none) #[true,true,true,true,true,true,true,true,true,true,true,true] rfl rfl (one_of HT_.out (by kernel_rfl)) (by decide) (fun K hK=>?_)
                have hs49:w47.cell? ⟨gb127,0,none⟩ = some (.slice none 0 0):=(blk_cell BK127.out 0).trans rfl
                have hfs49:=blk_frozen BK127.out 0
                have hns49_0:=NB112_127.out
                have hns49_1:=NB113_127.out
                have hms49_0:=NB127_112.out
                have hms49_1:=NB127_113.out
                have hs50:w47.cell? ⟨gb127,1,none⟩ = some (.slice none 0 0):=(blk_cell BK127.out 1).trans rfl
                have hfs50:=blk_frozen BK127.out 1
                have hns50_0:=NB112_127.out
                have hns50_1:=NB113_127.out
                have hms50_0:=NB127_112.out
                have hms50_1:=NB127_113.out
                refine skip_ (w1:=?_) (by rfl) rfl ?_ ?_
                rotate_left
                ·go_simp
                 rfl
                refine hK.out _ _ ⟨((cell_far (p:=⟨gb127,_,none⟩) NB112_127.out _).trans (((cell_far (p:=⟨gb127,_,none⟩) NB112_127.out _).trans (hHeld.1)))),((cell_far (p:=⟨gb127,_,none⟩) NB112_127.out _).trans (((cell_far (p:=⟨gb127,_,none⟩) NB112_127.out _).trans (hHeld.2))))⟩ (fun hHeld=>?_)
                clear hK K
                refine done_ (done_of HT_.out (by kernel_rfl)) ?_
                have hnb51:=NB112_113.out
                have hnc51:=NB113_112.out
                have hnb52:=NB112_127.out
                have hnc52:=NB127_112.out
                have hcz53_0:w47.cell? ⟨gb112,0,none⟩ = some (.slice A0_0 l0_0.length c0_0):=(blk_cell BK112.out 0).trans rfl
                have hcz53_1:w47.cell? ⟨gb112,1,none⟩ = some (.slice A0_1 l0_1.length c0_1):=(blk_cell BK112.out 1).trans rfl
                have hfz53_0:=blk_frozen BK112.out 0
                have hfz53_1:=blk_frozen BK112.out 1
                try go_wp2
                have n0_:Aside0 (Kd.R Kd.string 9 ((w47.setCell ⟨gb127,0,none⟩ (.slice Ao48 y124.length co48)).setCell ⟨gb127,1,none⟩ (.slice none 0 0)) w.heap.size (fun _=>True) (.slice Ao48 y124.length co48) y124):=⟨by (with_reducible repeat (first|apply Kd.R_alloc|apply Kd.R_drewN|apply Kd.R_drew));exact Kd.R_mono (Kd.R_far (p:=⟨gb127,1,none⟩) (Kd.R_far (p:=⟨gb127,0,none⟩) (Kd.R_types HO126.out BK127.out (by decide)) (fun _ hk=>hk.2) (.slice Ao48 y124.length co48)) (fun _ hk=>hk.2) (.slice none 0 0)) (fun _ hk=>trivial)⟩
                have n1_:Aside0 (((w47.setCell ⟨gb127,0,none⟩ (.slice Ao48 y124.length co48)).setCell ⟨gb127,1,none⟩ (.slice none 0 0)).heap[gb112]? = some (.cells #[.slice A0_0 l0_0.length c0_0,.slice A0_1 l0_1.length c0_1] 26 (0,0))):=⟨by (with_reducible repeat (first|refine blk_drewN ?_ _|refine blk_drew ?_|refine blk_alloc ?_ _));refine blk_far ?_ NB112_127.out _;(with_reducible repeat (first|refine blk_drewN ?_ _|refine blk_drew ?_|refine blk_alloc ?_ _));refine blk_far ?_ NB112_127.out _;(with_reducible repeat (first|refine blk_drewN ?_ _|refine blk_drew ?_|refine blk_alloc ?_ _));exact BK112.out⟩
                have n2_:Aside0 (((w47.setCell ⟨gb127,0,none⟩ (.slice Ao48 y124.length co48)).setCell ⟨gb127,1,none⟩ (.slice none 0 0)).heap[gb113]? = some (.cells #[.slice none 0 0,.slice none 0 0] 26 (0,0))):=⟨by (with_reducible repeat (first|refine blk_drewN ?_ _|refine blk_drew ?_|refine blk_alloc ?_ _));refine blk_far ?_ NB113_127.out _;(with_reducible repeat (first|refine blk_drewN ?_ _|refine blk_drew ?_|refine blk_alloc ?_ _));refine blk_far ?_ NB113_127.out _;(with_reducible repeat (first|refine blk_drewN ?_ _|refine blk_drew ?_|refine blk_alloc ?_ _));exact BK113.out⟩
                have n3_:Aside0 (((w47.setCell ⟨gb127,0,none⟩ (.slice Ao48 y124.length co48)).setCell ⟨gb127,1,none⟩ (.slice none 0 0)).heap[gb127]? = some (.cells #[.slice Ao48 y124.length co48,.slice none 0 0] 26 (0,0))):=⟨by (with_reducible repeat (first|refine blk_drewN ?_ _|refine blk_drew ?_|refine blk_alloc ?_ _));refine blk_put (cs:=#[.slice Ao48 y124.length co48,.slice none 0 0]) ?_ 1 _ rfl;(with_reducible repeat (first|refine blk_drewN ?_ _|refine blk_drew ?_|refine blk_alloc ?_ _));refine blk_put (cs:=#[.slice none 0 0,.slice none 0 0]) ?_ 0 _ rfl;(with_reducible repeat (first|refine blk_drewN ?_ _|refine blk_drew ?_|refine blk_alloc ?_ _));exact BK127.out⟩
                have n4_:Aside0 (Below w.heap.size w ((w47.setCell ⟨gb127,0,none⟩ (.slice Ao48 y124.length co48)).setCell ⟨gb127,1,none⟩ (.slice none 0 0))):=⟨bH⟩
                (try clear HO126)
                (try clear BK112)
                (try clear BK113)
                (try clear BK127)
                (try clear HB)
                generalize ((w47.setCell ⟨gb127,0,none⟩ (.slice Ao48 y124.length co48)).setCell ⟨gb127,1,none⟩ (.slice none 0 0)) = w54 at n0_ n1_ n2_ n3_ n4_ ⊢
                have HO126:=n0_
                have BK112:=n1_
                have BK113:=n2_
                have BK127:=n3_
                have HB:=n4_
                clear n0_ n1_ n2_ n3_ n4_
                replace HO126:=Aside0.mk (Kd.R_drew HO126.out);replace BK112:=Aside0.mk (blk_drew BK112.out);replace BK113:=Aside0.mk (blk_drew BK113.out);replace BK127:=Aside0.mk (blk_drew BK127.out);replace HB:=Aside0.mk (below_drew1 HB.out)
                have p128:0 ≤ (a1:Int):=oD
                have q128:a1 < (l0_1.length:Int):=oD
                obtain ⟨ad128,e128,hx128_0⟩:=Kd.at_string HR0_1.out a1 p128 q128
                have hw128_0:=hx128_0
                cases e128
                replace hx128_0:=(HB.out.cell (World.block_lt_of_cell? w _ hx128_0)).trans hx128_0
                replace p128:=eq_true p128
                replace q128:=eq_true q128
                refine start_ (n:=18) (S:=fun w'=>w'.cell? ⟨gb127,0,none⟩ = some (.slice Ao48 y124.length co48) ∧ w'.cell? ⟨gb127,1,none⟩ = some (.slice none 0 0) ∧ w'.cell? ⟨gb112,0,none⟩ = some (.slice A0_0 l0_0.length c0_0) ∧ w'.cell? ⟨gb112,1,none⟩ = some (.slice (some ad128) l0_1.length c0_1) ∧ w'.cell? (ad128.add (a1).toNat) = some (.string (rdOf ByteArray.empty l0_1 a1))) (ds:=[17]) #[false,false,false,false,false,false,false,false,false,false,false,false,false,false,false,false,false,false] (by kernel_rfl) rfl rfl ⟨(blk_cell BK127.out 0).trans rfl,(blk_cell BK127.out 1).trans rfl,(blk_cell BK112.out 0).trans rfl,(blk_cell BK112.out 1).trans rfl,((HB.out.cell (World.block_lt_of_cell? w _ hw128_0)).trans hw128_0)⟩ (fun hHeld=>?_);refine with_tabW spec_CrashDisk.tab5 spec_CrashDisk.bits5 (fun HT_ HW_=>?_)
                generalize w54.drew = w55 at HO126 BK112 BK113 BK127 HB hx128_0 hHeld ⊢
                refine pU (i:=0) (N:=some 45) #[true,false,false,false,false,false,false,false,false,false,false,false,false,false,false,false,false,false] (any_of HT_.out (by kernel_rfl)) ?_
                refine pU (i:=2) (N:=some 47) #[true,false,true,false,false,false,false,false,false,false,false,false,false,false,false,false,false,false] (any_of HT_.out (by kernel_rfl)) ?_
                refine pU (i:=4) (N:=some 49) #[true,false,true,false,true,false,false,false,false,false,false,false,false,false,false,false,false,false] (any_of HT_.out (by kernel_rfl)) ?_
                refine pU (i:=7) (N:=some 52) #[true,false,true,false,true,false,false,true,false,false,false,false,false,false,false,false,false,false] (any_of HT_.out (by kernel_rfl)) ?_
                refine pU (i:=9) (N:=some 54) #[true,false,true,false,true,false,false,true,false,true,false,false,false,false,false,false,false,false] (any_of HT_.out (by kernel_rfl)) ?_
                refine pU (i:=10) (N:=some 55) #[true,false,true,false,true,false,false,true,false,true,true,false,false,false,false,false,false,false] (any_of HT_.out (by kernel_rfl)) ?_
                refine take_ (i:=1) (N:=some 46) (v:=?_) (a':=?_) #[true,true,true,false,true,false,false,true,false,true,true,false,false,false,false,false,false,false] rfl rfl (take_ofW HT_.out HW_.out (by kernel_rfl)) (fun _ _ _ h=>h) (Or.inl ⟨by rfl,?_⟩) hHeld ?_ ?_
                rotate_left
                ·rintro w' ⟨s0,s1,s2,s3,s4⟩
                 go_simp
                 with_reducible rfl
                rotate_left
                ·simp only [Act.put,List.setIfInBounds_toArray,List.set_cons_zero,List.set_cons_succ,i64_w,i32_w]
                 rfl
                refine take_ (i:=3) (N:=some 48) (v:=?_) (a':=?_) #[true,true,true,true,true,false,false,true,false,true,true,false,false,false,false,false,false,false] rfl rfl (take_ofW HT_.out HW_.out (by kernel_rfl)) (fun _ _ _ h=>h) (Or.inl ⟨by rfl,?_⟩) hHeld ?_ ?_
                rotate_left
                ·rintro w' ⟨s0,s1,s2,s3,s4⟩
                 go_simp
                 with_reducible rfl
                rotate_left
                ·simp only [Act.put,List.setIfInBounds_toArray,List.set_cons_zero,List.set_cons_succ,i64_w,i32_w]
                 rfl
                refine pU (i:=5) (N:=some 50) #[true,true,true,true,true,true,false,true,false,true,true,false,false,false,false,false,false,false] (any_of HT_.out (by kernel_rfl)) ?_
                refine take_ (i:=6) (N:=some 51) (v:=?_) (a':=?_) #[true,true,true,true,true,true,true,true,false,true,true,false,false,false,false,false,false,false] rfl rfl (take_ofW HT_.out HW_.out (by kernel_rfl)) (fun _ _ _ h=>h) (Or.inl ⟨by rfl,?_⟩) hHeld ?_ ?_
                rotate_left
                ·rintro w' ⟨s0,s1,s2,s3,s4⟩
                 go_simp
                 with_reducible rfl
                rotate_left
                ·simp only [Act.put,List.setIfInBounds_toArray,List.set_cons_zero,List.set_cons_succ,i64_w,i32_w]
                 rfl
                refine pU (i:=8) (N:=some 53) #[true,true,true,true,true,true,true,true,true,true,true,false,false,false,false,false,false,false] (any_of HT_.out (by kernel_rfl)) ?_
                refine one_ (i:=11) (N:=some 56) #[true,true,true,true,true,true,true,true,true,true,true,true,false,false,false,false,false,false] rfl rfl (one_of HT_.out (by kernel_rfl)) (by decide) (fun K hK=>?_)
                refine Kd.R_make_step (Kd.int .u8) _ 5 (by rfl) (N:=56) rfl 22 _ _ rfl ji34 rfl rfl Try.underlying22 (.int .u8 0) 1 info5 rfl (by decide) Yy 0 (ok:=fun _=>True) (okp:=fun _=>True) rfl (fun _ hk=>hk) trivial (oD) (Nat.le_trans (Nat.mul_le_mul_right _ (oD:ji34.toNat ≤ 281474976710656)) Yy) (Below.refl _ _) (Nat.le_refl _) ?_
                intro v130 w56 ho57 hb hg_ hnew_
                clear hg_ hnew_
                (first|rw [← Ny129.out] at ho57|(simp only [Int.reduceToNat] at ho57;rw [← Ny129.out] at ho57))
                replace HO126:=Aside0.mk (Kd.R_below (rR HO126) hb);have HO131:=Aside0.mk (Kd.R_lower ho57 (below_size bH));replace BK112:=Aside0.mk (blk_below (bB BK112) hb);replace BK113:=Aside0.mk (blk_below (bB BK113) hb);replace BK127:=Aside0.mk (blk_below (bB BK127) hb);replace HB:=Aside0.mk (below_step bH hb)
                clear hb ho57
                refine hK.out _ _ ⟨(blk_cell BK127.out 0).trans rfl,(blk_cell BK127.out 1).trans rfl,(blk_cell BK112.out 0).trans rfl,(blk_cell BK112.out 1).trans rfl,((HB.out.cell (World.block_lt_of_cell? w _ hw128_0)).trans hw128_0)⟩ (fun hHeld=>?_)
                clear hK K
                refine nM (N:=some 56) ?_
                refine one_ (i:=12) (N:=some 57) #[true,true,true,true,true,true,true,true,true,true,true,true,true,false,false,false,false,false] rfl rfl (one_of HT_.out (by kernel_rfl)) (by decide) (fun K hK=>?_)
                have hcv58:=own_string (P:=Try.prog) Try.underlying22 Try.underlying5 Try.underlying9 (Kd.own_of_R HO131.out)
                refine value_ (w1:=?_) (v:=?_) (by rfl) rfl ?_ ?_
                rotate_left 2
                ·go_simp
                 constructor
                 ·rfl
                 ·rfl
                clear hcv58
                refine hK.out _ _ ⟨(blk_cell BK127.out 0).trans rfl,(blk_cell BK127.out 1).trans rfl,(blk_cell BK112.out 0).trans rfl,(blk_cell BK112.out 1).trans rfl,((HB.out.cell (World.block_lt_of_cell? w _ hw128_0)).trans hw128_0)⟩ (fun hHeld=>?_)
                clear hK K
                refine nM (N:=some 57) ?_
                refine pU (i:=13) (N:=some 58) #[true,true,true,true,true,true,true,true,true,true,true,true,true,true,false,false,false,false] (any_of HT_.out (by kernel_rfl)) ?_
                refine one_ (i:=14) (N:=some 59) #[true,true,true,true,true,true,true,true,true,true,true,true,true,true,true,false,false,false] rfl rfl (one_of HT_.out (by kernel_rfl)) (by decide) (fun K hK=>?_)
                refine value_ (w1:=?_) (v:=?_) (by rfl) rfl ?_ ?_
                rotate_left 2
                ·go_simp
                 constructor
                 ·rfl
                 ·rfl
                refine hK.out _ _ ⟨(blk_cell (blk_alloc BK127.out _) 0).trans rfl,(blk_cell (blk_alloc BK127.out _) 1).trans rfl,(blk_cell (blk_alloc BK112.out _) 0).trans rfl,(blk_cell (blk_alloc BK112.out _) 1).trans rfl,(World.cell?_alloc_lt _ _ _ (World.block_lt_of_cell? _ _ (((HB.out.cell (World.block_lt_of_cell? w _ hw128_0)).trans hw128_0)))).trans (((HB.out.cell (World.block_lt_of_cell? w _ hw128_0)).trans hw128_0))⟩ (fun hHeld=>?_)
                clear hK K
                refine nM (N:=some 59) ?_
                refine one_ (i:=15) (N:=some 60) #[true,true,true,true,true,true,true,true,true,true,true,true,true,true,true,true,false,false] rfl rfl (one_of HT_.out (by kernel_rfl)) (by decide) (fun K hK=>?_)
                refine Kd.R_append_step Kd.string (w0:=w) w.heap.size (by rfl) (.tmp 46) (.tmp 59) 24 9 (.string ⟨#[]⟩) 16 rfl Try.underlying24 info9 rfl (by decide) Yy (.slice Ao48 y124.length co48) y124 (((rdOf ByteArray.empty l0_1 a1).extract 0 (a2:Int).toNat) ++ (strOfNums y129)) [.string (((rdOf ByteArray.empty l0_1 a1).extract 0 (a2:Int).toNat) ++ (strOfNums y129))] (fun _=>True) (fun _=>False) rfl rfl ?aP (fun _ hk=>hk.elim) ?aF ?aO ?aB ?aS ?aL ?_
                (case aP=>exact rfl)
                (case aB=>exact bH)
                (case aF=>exact YE)
                (case aO=>exact (rR HO126))
                (case aS=>exact YB)
                (case aL=>have:=LMc38.out;omega)
                intro v133 w59 ho hb hg hat
                rw [← Ny132.out] at ho
                have n0_:=Aside0.mk (blk_grown (bB BK112) hg (Kd.R_ne HO126.out BK112.out (by decide)));have n1_:=Aside0.mk (blk_grown (bB BK113) hg (Kd.R_ne HO126.out BK113.out (by decide)));have n2_:=Aside0.mk (blk_grown (bB BK127) hg (Kd.R_ne HO126.out BK127.out (by decide)));have n3_:=Aside0.mk (Kd.R_over' (rR HO131) (Kd.R_typed (rR HO126)) (by decide) hg);have n4_:=Aside0.mk (hb);have n5_:=Aside0.mk (ho);clear BK112;clear BK113;clear BK127;clear HO131;clear HB;clear HO126;have BK112:=n0_;have BK113:=n1_;have BK127:=n2_;have HO131:=n3_;have HB:=n4_;have HO134:=n5_;clear n0_ n1_ n2_ n3_ n4_ n5_
                clear ho hb hg hat
                obtain ⟨Ao60,co60,eo60⟩:=Kd.R_slice HO134.out
                (first|subst eo60|(injection eo60 with f1_ f2_ f3_;have f4_:=f1_.symm;have f5_:=f3_.symm;clear f1_ f2_ f3_;subst f4_;subst f5_))
                refine hK.out _ _ ⟨(blk_cell BK127.out 0).trans rfl,(blk_cell BK127.out 1).trans rfl,(blk_cell BK112.out 0).trans rfl,(blk_cell BK112.out 1).trans rfl,((HB.out.cell (World.block_lt_of_cell? w _ hw128_0)).trans hw128_0)⟩ (fun hHeld=>?_)
                clear hK K
                refine nM (N:=some 60) ?_
                refine pU (i:=16) (N:=some 61) #[true,true,true,true,true,true,true,true,true,true,true,true,true,true,true,true,true,false] (any_of HT_.out (by kernel_rfl)) ?_
                refine last_ (i:=17) (N:=none) #[true,true,true,true,true,true,true,true,true,true,true,true,true,true,true,true,true,true] rfl rfl (one_of HT_.out (by kernel_rfl)) (by decide) (fun K hK=>?_)
                have hs61:w59.cell? ⟨gb127,0,none⟩ = some (.slice Ao48 y124.length co48):=(blk_cell BK127.out 0).trans rfl
                have hfs61:=blk_frozen BK127.out 0
                have hns61_0:=NB112_127.out
                have hns61_1:=NB113_127.out
                have hms61_0:=NB127_112.out
                have hms61_1:=NB127_113.out
                refine skip_ (w1:=?_) (by rfl) rfl ?_ ?_
                rotate_left
                ·go_simp
                 rfl
                refine hK.out _ _ ?_
                clear hK K
                refine done_ (done_of HT_.out (by kernel_rfl)) ?_
                have hnb62:=NB127_113.out
                have hnc62:=NB113_127.out
                have hcz63_0:w59.cell? ⟨gb127,0,none⟩ = some (.slice Ao48 y124.length co48):=(blk_cell BK127.out 0).trans rfl
                have hcz63_1:w59.cell? ⟨gb127,1,none⟩ = some (.slice none 0 0):=(blk_cell BK127.out 1).trans rfl
                have hfz63_0:=blk_frozen BK127.out 0
                have hfz63_1:=blk_frozen BK127.out 1
                have hcz64_0:w59.cell? ⟨gb113,0,none⟩ = some (.slice none 0 0):=(blk_cell BK113.out 0).trans rfl
                have hcz64_1:w59.cell? ⟨gb113,1,none⟩ = some (.slice none 0 0):=(blk_cell BK113.out 1).trans rfl
                have hfz64_0:=blk_frozen BK113.out 0
                have hfz64_1:=blk_frozen BK113.out 1
                try go_wp2
                refine bodyPost_ret (results_ct rfl _ _ gb113 26 #[.slice Ao60 y132.length co60,.slice none 0 0] (0,0) _ rfl (by (with_reducible repeat (first|refine blk_drewN ?_ _|refine blk_drew ?_|refine blk_alloc ?_ _));refine blk_put (cs:=#[.slice Ao60 y132.length co60,.slice none 0 0]) ?_ 1 _ rfl;(with_reducible repeat (first|refine blk_drewN ?_ _|refine blk_drew ?_|refine blk_alloc ?_ _));refine blk_put (cs:=#[.slice none 0 0,.slice none 0 0]) ?_ 0 _ rfl;(with_reducible repeat (first|refine blk_drewN ?_ _|refine blk_drew ?_|refine blk_alloc ?_ _));refine blk_far ?_ NB113_127.out _;(with_reducible repeat (first|refine blk_drewN ?_ _|refine blk_drew ?_|refine blk_alloc ?_ _));exact BK113.out) Try.underlying26 rfl (by kernel_rfl)) rfl ?_
                exact ⟨_,_,by first|rfl|(simp [errW_none,errW_some] <;> rfl)|(simp only [← hji34];first|rfl|(simp [errW_none,errW_some] <;> rfl))|(simp [*,errW_none,errW_some] <;> rfl),by (with_reducible repeat (first|apply Kd.R_alloc|apply Kd.R_drewN|apply Kd.R_drew));exact Kd.R_mono (Kd.R_far (p:=⟨gb113,1,none⟩) (Kd.R_far (p:=⟨gb113,0,none⟩) (Kd.R_far (p:=⟨gb127,0,none⟩) (Kd.R_types (Kd.R_types HO134.out BK127.out (by decide)) BK113.out (by decide)) (fun _ hk=>hk.1.2) (.slice Ao60 y132.length co60)) (fun _ hk=>hk.2) (.slice Ao60 y132.length co60)) (fun _ hk=>hk.2) (.slice none 0 0)) (fun _ hk=>ZR),Yd,bH⟩
               ·rw [if_neg c38] at H
                exact absurd H (by simp)
              ·rw [if_neg c37] at H
               exact absurd H (by simp)
             ·rw [if_neg c36] at H
              exact absurd H (by simp)
            ·rw [if_neg c35] at H
             exact absurd H (by simp)
           ·rw [if_neg c33] at H
            exact absurd H (by simp)
          ·rw [if_neg c32] at H
           exact absurd H (by simp)
         ·rw [if_neg c31] at H
          have c31b0:decide (a1 < (l0_1.length:Int)) = false:=decide_eq_false c31
          clear c31
          simp only [Option.some.injEq,Prod.mk.injEq] at H
          obtain ⟨rfl,rfl,rfl⟩:=H
          try go_wp2
          replace BK112:=Aside0.mk (blk_drew BK112.out);replace BK113:=Aside0.mk (blk_drew BK113.out);replace HB:=Aside0.mk (below_drew1 HB.out)
          obtain ⟨i066,hi066,_,hsz66,_⟩:=info_parts info9
          obtain ⟨hcut66,hA66,hC66⟩:=print_take_of (P:=Try.prog) Value.string (⟨#[]⟩:ByteArray) 24 9 .i64 Try.underlying24 hi066 hsz66 A0_1 c0_1 l0_1 a1 (oD) (oD) HC0_1.out
          have HR123:=Aside0.mk (Kd.C_of_reads (h1:=fun _=>rfl) (hA66 _ (Kd.reads_of_C HR0_1.out)))
          have HC123:=Aside0.mk hC66
          clear hA66 hC66 hi066 hsz66
          refine start_ (n:=12) (S:=fun w'=>w'.cell? ⟨gb112,0,none⟩ = some (.slice A0_0 l0_0.length c0_0) ∧ w'.cell? ⟨gb112,1,none⟩ = some (.slice A0_1 l0_1.length c0_1)) (ds:=[]) #[false,false,false,false,false,false,false,false,false,false,false,false] (by kernel_rfl) rfl rfl ⟨(blk_cell BK112.out 0).trans rfl,(blk_cell BK112.out 1).trans rfl⟩ (fun hHeld=>?_);refine with_tabW spec_CrashDisk.tab3 spec_CrashDisk.bits3 (fun HT_ HW_=>?_)
          generalize wc.drew = w65 at BK112 BK113 HB HR123 hHeld ⊢
          refine pU (i:=1) (N:=some 27) #[false,true,false,false,false,false,false,false,false,false,false,false] (any_of HT_.out (by kernel_rfl)) ?_
          refine pU (i:=4) (N:=some 30) #[false,true,false,false,true,false,false,false,false,false,false,false] (any_of HT_.out (by kernel_rfl)) ?_
          refine pU (i:=6) (N:=some 32) #[false,true,false,false,true,false,true,false,false,false,false,false] (any_of HT_.out (by kernel_rfl)) ?_
          refine take_ (i:=2) (N:=some 28) (v:=?_) (a':=?_) #[false,true,true,false,true,false,true,false,false,false,false,false] rfl rfl (take_ofW HT_.out HW_.out (by kernel_rfl)) (fun _ _ _ h=>h) (Or.inl ⟨by rfl,?_⟩) hHeld ?_ ?_
          rotate_left
          ·rintro w' ⟨s0,s1⟩
           go_simp
           with_reducible rfl
          rotate_left
          ·simp only [Act.put,List.setIfInBounds_toArray,List.set_cons_zero,List.set_cons_succ,i64_w,i32_w]
           rfl
          refine take_ (i:=5) (N:=some 31) (v:=?_) (a':=?_) #[false,true,true,false,true,true,true,false,false,false,false,false] rfl rfl (take_ofW HT_.out HW_.out (by kernel_rfl)) (fun _ _ _ h=>h) (Or.inl ⟨by rfl,?_⟩) hHeld ?_ ?_
          rotate_left
          ·rintro w' ⟨s0,s1⟩
           go_simp
           with_reducible rfl
          rotate_left
          ·simp only [Act.put,List.setIfInBounds_toArray,List.set_cons_zero,List.set_cons_succ,i64_w,i32_w]
           rfl
          refine pU (i:=7) (N:=some 33) #[false,true,true,false,true,true,true,true,false,false,false,false] (any_of HT_.out (by kernel_rfl)) ?_
          refine join_ (σ:=Value × Value × Value × Nat) 1 #[true,true,true,true,true,true,true,true,true,true,true,false] (fun s_=>[(26,s_.1),(29,s_.2.1),(34,s_.2.2.1),(8,.pointer (some ⟨s_.2.2.2,0,none⟩)),(35,.agg #[s_.2.2.1,.slice none 0 0])]) (fun s_ w'=>(w'.cell? ⟨gb112,0,none⟩ = some (.slice A0_0 l0_0.length c0_0) ∧ w'.cell? ⟨gb112,1,none⟩ = some (.slice A0_1 l0_1.length c0_1)) ∧ (Kd.R Kd.string 9 w' w.heap.size (fun _=>True) s_.2.2.1 y124) ∧ (w'.heap[gb112]? = some (.cells #[.slice A0_0 l0_0.length c0_0,.slice A0_1 l0_1.length c0_1] 26 (0,0))) ∧ (w'.heap[gb113]? = some (.cells #[.slice none 0 0,.slice none 0 0] 26 (0,0))) ∧ (w'.heap[s_.2.2.2]? = some (.cells #[.slice none 0 0,.slice none 0 0] 26 (0,0))) ∧ (w.heap.size ≤ s_.2.2.2) ∧ (w.heap.size ≤ s_.2.2.2) ∧ (gb112 ≠ s_.2.2.2) ∧ (s_.2.2.2 ≠ gb112) ∧ (gb113 ≠ s_.2.2.2) ∧ (s_.2.2.2 ≠ gb113) ∧ (Below w.heap.size w w')) ?_ ?_
          rotate_left
          ·intro hCont
           refine two_ (i:=0) (j:=10) (Ni:=some 26) (Nj:=some 8) #[true,true,true,false,true,true,true,true,false,false,false,false] #[false,true,true,false,true,true,true,true,false,false,true,false] rfl rfl rfl rfl (two_of HT_.out (by kernel_rfl)) (by decide) (by decide) (fun K hK=>?_) (fun K hK=>?_)
           ·skip
            refine Kd.R_lit_step Kd.string _ 9 ?hg (N:=26) ?hd (xs:=([]:List ByteArray)) (inner:=[]) (ok:=fun _=>True) (okp:=fun _=>True) ?hr ?hp (fun _ hk=>hk) trivial (Below.refl _ _) (Nat.le_refl _) (by simp) ?_;(case hd=>rfl);(case hg=>rfl);(case hr=>exact Yg);(case hp=>exact ZN)
            intro v118 w67 ho68 hb hg_ hnew_
            clear hg_ hnew_
            (first|rw [← Ny117.out] at ho68|(simp only [Int.reduceToNat] at ho68;rw [← Ny117.out] at ho68))
            have HO119:=Aside0.mk (Kd.R_lower ho68 (below_size bH));replace BK112:=Aside0.mk (blk_below (bB BK112) hb);replace BK113:=Aside0.mk (blk_below (bB BK113) hb);replace HB:=Aside0.mk (below_step bH hb)
            clear hb ho68
            refine hK.out _ _ ⟨(blk_cell BK112.out 0).trans rfl,(blk_cell BK112.out 1).trans rfl⟩ (fun hHeld=>?_)
            clear hK K
            refine nM (N:=some 26) ?_
            refine two_ (i:=3) (j:=10) (Ni:=some 29) (Nj:=some 8) #[true,true,true,true,true,true,true,true,false,false,false,false] #[true,true,true,false,true,true,true,true,false,false,true,false] rfl rfl rfl rfl (two_of HT_.out (by kernel_rfl)) (by decide) (by decide) (fun K hK=>?_) (fun K hK=>?_)
            ·skip
             refine Kd.R_append_rows_step Kd.string (w0:=w) w.heap.size (by rfl) (.tmp 26) (.tmp 28) 24 9 (.string ⟨#[]⟩) 16 rfl Try.underlying24 info9 rfl (by decide) Yy v118 y117 l0_0 _ _ _ (fun _=>True) (fun _=>False) rfl rfl ?aO ?aR (fun _ _ h=>h) (fun _ h=>h.elim) ?aF ?aB ?aS ?aL ?_
             (case aR=>exact ZB)
             (case aB=>exact bH)
             (case aF=>exact YE)
             (case aO=>exact (rR HO119))
             (case aS=>exact YB)
             (case aL=>have:=LMc26.out;omega)
             intro v121 w69 ho hb hg hat
             rw [← Ny120.out] at ho
             have n0_:=Aside0.mk (blk_grown (bB BK112) hg (Kd.R_ne HO119.out BK112.out (by decide)));have n1_:=Aside0.mk (blk_grown (bB BK113) hg (Kd.R_ne HO119.out BK113.out (by decide)));have n2_:=Aside0.mk (hb);have n3_:=Aside0.mk (ho);clear BK112;clear BK113;clear HB;clear HO119;have BK112:=n0_;have BK113:=n1_;have HB:=n2_;have HO122:=n3_;clear n0_ n1_ n2_ n3_
             clear ho hb hg hat
             refine hK.out _ _ ⟨(blk_cell BK112.out 0).trans rfl,(blk_cell BK112.out 1).trans rfl⟩ (fun hHeld=>?_)
             clear hK K
             refine nM (N:=some 29) ?_
             refine two_ (i:=8) (j:=10) (Ni:=some 34) (Nj:=some 8) #[true,true,true,true,true,true,true,true,true,false,false,false] #[true,true,true,true,true,true,true,true,false,false,true,false] rfl rfl rfl rfl (two_of HT_.out (by kernel_rfl)) (by decide) (by decide) (fun K hK=>?_) (fun K hK=>?_)
             ·skip
              refine Kd.R_append_rows_step Kd.string (w0:=w) w.heap.size (by rfl) (.tmp 29) (.tmp 33) 24 9 (.string ⟨#[]⟩) 16 rfl Try.underlying24 info9 rfl (by decide) Yy v121 y120 (l0_1.take (a1:Int).toNat) _ _ _ (fun _=>True) (fun _=>False) rfl rfl ?aO ?aR (fun _ _ h=>h) (fun _ h=>h.elim) ?aF ?aB ?aS ?aL ?_
              (case aR=>first|(have q_:=Kd.C_below HR123.out HB.out;rw [show (l0_1.take (a1:Int).toNat).length = a1.toNat from (by rw [List.length_take];have h_:(a1:Int) ≤ (l0_1.length:Int):=oD;omega)] at q_;exact q_)|(rw [← show (l0_1.take (a1:Int).toNat).length = a1.toNat from (by rw [List.length_take];have h_:(a1:Int) ≤ (l0_1.length:Int):=oD;omega)];repeat (first|exact (Kd.C_below HR123.out HB.out)|(with_reducible refine Kd.C_alloc ?_ _)|(with_reducible refine Kd.C_drewN ?_ _)|(with_reducible refine Kd.C_drew ?_)))|(repeat (first|exact (Kd.C_below HR123.out HB.out)|(with_reducible refine Kd.C_alloc ?_ _)|(with_reducible refine Kd.C_drewN ?_ _)|(with_reducible refine Kd.C_drew ?_))))
              (case aB=>exact bH)
              (case aF=>exact YE)
              (case aO=>exact (rR HO122))
              (case aS=>exact YB)
              (case aL=>exact Ym)
              intro v125 w70 ho hb hg hat
              rw [← Ny124.out] at ho
              have n0_:=Aside0.mk (blk_grown (bB BK112) hg (Kd.R_ne HO122.out BK112.out (by decide)));have n1_:=Aside0.mk (blk_grown (bB BK113) hg (Kd.R_ne HO122.out BK113.out (by decide)));have n2_:=Aside0.mk (hb);have n3_:=Aside0.mk (ho);clear BK112;clear BK113;clear HB;clear HO122;have BK112:=n0_;have BK113:=n1_;have HB:=n2_;have HO126:=n3_;clear n0_ n1_ n2_ n3_
              clear ho hb hg hat
              obtain ⟨Ao71,co71,eo71⟩:=Kd.R_slice HO126.out
              (first|subst eo71|(injection eo71 with f1_ f2_ f3_;have f4_:=f1_.symm;have f5_:=f3_.symm;clear f1_ f2_ f3_;subst f4_;subst f5_))
              refine hK.out _ _ ⟨(blk_cell BK112.out 0).trans rfl,(blk_cell BK112.out 1).trans rfl⟩ (fun hHeld=>?_)
              clear hK K
              refine nM (N:=some 34) ?_
              refine pU (i:=9) (N:=some 35) #[true,true,true,true,true,true,true,true,true,true,false,false] (any_of HT_.out (by kernel_rfl)) ?_
              refine one_ (i:=10) (N:=some 8) #[true,true,true,true,true,true,true,true,true,true,true,false] rfl rfl (one_of HT_.out (by kernel_rfl)) (by decide) (fun K hK=>?_)
              refine box_step ?hg (N:=8) ?hd (cs:=#[.slice none 0 0,.slice none 0 0]) (t:=26) ?hr ?_;(case hd=>rfl);(case hg=>rfl);(case hr=>exact Yg)
              intro gb127 hg w72 hbox hb
              replace HO126:=Aside0.mk (Kd.R_below (rR HO126) hb);have BK127:=Aside0.mk (hbox);have GW127:=Aside0.mk ((hZ:w.heap.size ≤ gb127));have GE127:=Aside0.mk ((hZ:w.heap.size ≤ gb127));replace HB:=Aside0.mk (below_step bH hb);have NB112_127:=Aside0.mk ((nL BK112:gb112 ≠ gb127));have NB127_112:=Aside0.mk ((nG BK112:gb127 ≠ gb112));replace BK112:=Aside0.mk (blk_below (bB BK112) hb);have NB113_127:=Aside0.mk ((nL BK113:gb113 ≠ gb127));have NB127_113:=Aside0.mk ((nG BK113:gb127 ≠ gb113));replace BK113:=Aside0.mk (blk_below (bB BK113) hb)
              clear hb hbox hg
              refine hK.out _ _ ⟨(blk_cell BK112.out 0).trans rfl,(blk_cell BK112.out 1).trans rfl⟩ (fun hHeld=>?_)
              clear hK K
              refine nM (N:=some 8) ?_
              exact norm_ Yi (hCont (v118,v121,.slice Ao71 y124.length co71,gb127) _ ⟨hHeld,(rR HO126),(bB BK112),(bB BK113),(bB BK127),GW127.out,GE127.out,NB112_127.out,NB127_112.out,NB113_127.out,NB127_113.out,bH⟩)
             ·skip
              refine box_step ?hg (N:=8) ?hd (cs:=#[.slice none 0 0,.slice none 0 0]) (t:=26) ?hr ?_;(case hd=>rfl);(case hg=>rfl);(case hr=>exact Yg)
              intro gb127 hg w70 hbox hb
              replace HO122:=Aside0.mk (Kd.R_below (rR HO122) hb);have BK127:=Aside0.mk (hbox);have GW127:=Aside0.mk ((hZ:w.heap.size ≤ gb127));have GE127:=Aside0.mk ((hZ:w.heap.size ≤ gb127));replace HB:=Aside0.mk (below_step bH hb);have NB112_127:=Aside0.mk ((nL BK112:gb112 ≠ gb127));have NB127_112:=Aside0.mk ((nG BK112:gb127 ≠ gb112));replace BK112:=Aside0.mk (blk_below (bB BK112) hb);have NB113_127:=Aside0.mk ((nL BK113:gb113 ≠ gb127));have NB127_113:=Aside0.mk ((nG BK113:gb127 ≠ gb113));replace BK113:=Aside0.mk (blk_below (bB BK113) hb)
              clear hb hbox hg
              refine hK.out _ _ ⟨(blk_cell BK112.out 0).trans rfl,(blk_cell BK112.out 1).trans rfl⟩ (fun hHeld=>?_)
              clear hK K
              refine nM (N:=some 8) ?_
              refine one_ (i:=8) (N:=some 34) #[true,true,true,true,true,true,true,true,true,false,true,false] rfl rfl (one_of HT_.out (by kernel_rfl)) (by decide) (fun K hK=>?_)
              refine Kd.R_append_rows_step Kd.string (w0:=w) w.heap.size (by rfl) (.tmp 29) (.tmp 33) 24 9 (.string ⟨#[]⟩) 16 rfl Try.underlying24 info9 rfl (by decide) Yy v121 y120 (l0_1.take (a1:Int).toNat) _ _ _ (fun _=>True) (fun _=>False) rfl rfl ?aO ?aR (fun _ _ h=>h) (fun _ h=>h.elim) ?aF ?aB ?aS ?aL ?_
              (case aR=>first|(have q_:=Kd.C_below HR123.out HB.out;rw [show (l0_1.take (a1:Int).toNat).length = a1.toNat from (by rw [List.length_take];have h_:(a1:Int) ≤ (l0_1.length:Int):=oD;omega)] at q_;exact q_)|(rw [← show (l0_1.take (a1:Int).toNat).length = a1.toNat from (by rw [List.length_take];have h_:(a1:Int) ≤ (l0_1.length:Int):=oD;omega)];repeat (first|exact (Kd.C_below HR123.out HB.out)|(with_reducible refine Kd.C_alloc ?_ _)|(with_reducible refine Kd.C_drewN ?_ _)|(with_reducible refine Kd.C_drew ?_)))|(repeat (first|exact (Kd.C_below HR123.out HB.out)|(with_reducible refine Kd.C_alloc ?_ _)|(with_reducible refine Kd.C_drewN ?_ _)|(with_reducible refine Kd.C_drew ?_))))
              (case aB=>exact bH)
              (case aF=>exact YE)
              (case aO=>exact (rR HO122))
              (case aS=>exact YB)
              (case aL=>exact Ym)
              intro v125 w71 ho hb hg hat
              rw [← Ny124.out] at ho
              have n0_:=Aside0.mk (blk_grown (bB BK112) hg (Kd.R_ne HO122.out BK112.out (by decide)));have n1_:=Aside0.mk (blk_grown (bB BK113) hg (Kd.R_ne HO122.out BK113.out (by decide)));have n2_:=Aside0.mk (blk_grown (bB BK127) hg (Kd.R_ne HO122.out BK127.out (by decide)));have n3_:=Aside0.mk (hb);have n4_:=Aside0.mk (ho);clear BK112;clear BK113;clear BK127;clear HB;clear HO122;have BK112:=n0_;have BK113:=n1_;have BK127:=n2_;have HB:=n3_;have HO126:=n4_;clear n0_ n1_ n2_ n3_ n4_
              clear ho hb hg hat
              obtain ⟨Ao72,co72,eo72⟩:=Kd.R_slice HO126.out
              (first|subst eo72|(injection eo72 with f1_ f2_ f3_;have f4_:=f1_.symm;have f5_:=f3_.symm;clear f1_ f2_ f3_;subst f4_;subst f5_))
              refine hK.out _ _ ⟨(blk_cell BK112.out 0).trans rfl,(blk_cell BK112.out 1).trans rfl⟩ (fun hHeld=>?_)
              clear hK K
              refine nM (N:=some 34) ?_
              refine pU (i:=9) (N:=some 35) #[true,true,true,true,true,true,true,true,true,true,true,false] (any_of HT_.out (by kernel_rfl)) ?_
              exact norm_ Yi (hCont (v118,v121,.slice Ao72 y124.length co72,gb127) _ ⟨hHeld,(rR HO126),(bB BK112),(bB BK113),(bB BK127),GW127.out,GE127.out,NB112_127.out,NB127_112.out,NB113_127.out,NB127_113.out,bH⟩)
            ·skip
             refine box_step ?hg (N:=8) ?hd (cs:=#[.slice none 0 0,.slice none 0 0]) (t:=26) ?hr ?_;(case hd=>rfl);(case hg=>rfl);(case hr=>exact Yg)
             intro gb127 hg w69 hbox hb
             replace HO119:=Aside0.mk (Kd.R_below (rR HO119) hb);have BK127:=Aside0.mk (hbox);have GW127:=Aside0.mk ((hZ:w.heap.size ≤ gb127));have GE127:=Aside0.mk ((hZ:w.heap.size ≤ gb127));replace HB:=Aside0.mk (below_step bH hb);have NB112_127:=Aside0.mk ((nL BK112:gb112 ≠ gb127));have NB127_112:=Aside0.mk ((nG BK112:gb127 ≠ gb112));replace BK112:=Aside0.mk (blk_below (bB BK112) hb);have NB113_127:=Aside0.mk ((nL BK113:gb113 ≠ gb127));have NB127_113:=Aside0.mk ((nG BK113:gb127 ≠ gb113));replace BK113:=Aside0.mk (blk_below (bB BK113) hb)
             clear hb hbox hg
             refine hK.out _ _ ⟨(blk_cell BK112.out 0).trans rfl,(blk_cell BK112.out 1).trans rfl⟩ (fun hHeld=>?_)
             clear hK K
             refine nM (N:=some 8) ?_
             refine one_ (i:=3) (N:=some 29) #[true,true,true,true,true,true,true,true,false,false,true,false] rfl rfl (one_of HT_.out (by kernel_rfl)) (by decide) (fun K hK=>?_)
             refine Kd.R_append_rows_step Kd.string (w0:=w) w.heap.size (by rfl) (.tmp 26) (.tmp 28) 24 9 (.string ⟨#[]⟩) 16 rfl Try.underlying24 info9 rfl (by decide) Yy v118 y117 l0_0 _ _ _ (fun _=>True) (fun _=>False) rfl rfl ?aO ?aR (fun _ _ h=>h) (fun _ h=>h.elim) ?aF ?aB ?aS ?aL ?_
             (case aR=>exact ZB)
             (case aB=>exact bH)
             (case aF=>exact YE)
             (case aO=>exact (rR HO119))
             (case aS=>exact YB)
             (case aL=>have:=LMc26.out;omega)
             intro v121 w70 ho hb hg hat
             rw [← Ny120.out] at ho
             have n0_:=Aside0.mk (blk_grown (bB BK112) hg (Kd.R_ne HO119.out BK112.out (by decide)));have n1_:=Aside0.mk (blk_grown (bB BK113) hg (Kd.R_ne HO119.out BK113.out (by decide)));have n2_:=Aside0.mk (blk_grown (bB BK127) hg (Kd.R_ne HO119.out BK127.out (by decide)));have n3_:=Aside0.mk (hb);have n4_:=Aside0.mk (ho);clear BK112;clear BK113;clear BK127;clear HB;clear HO119;have BK112:=n0_;have BK113:=n1_;have BK127:=n2_;have HB:=n3_;have HO122:=n4_;clear n0_ n1_ n2_ n3_ n4_
             clear ho hb hg hat
             refine hK.out _ _ ⟨(blk_cell BK112.out 0).trans rfl,(blk_cell BK112.out 1).trans rfl⟩ (fun hHeld=>?_)
             clear hK K
             refine nM (N:=some 29) ?_
             refine one_ (i:=8) (N:=some 34) #[true,true,true,true,true,true,true,true,true,false,true,false] rfl rfl (one_of HT_.out (by kernel_rfl)) (by decide) (fun K hK=>?_)
             refine Kd.R_append_rows_step Kd.string (w0:=w) w.heap.size (by rfl) (.tmp 29) (.tmp 33) 24 9 (.string ⟨#[]⟩) 16 rfl Try.underlying24 info9 rfl (by decide) Yy v121 y120 (l0_1.take (a1:Int).toNat) _ _ _ (fun _=>True) (fun _=>False) rfl rfl ?aO ?aR (fun _ _ h=>h) (fun _ h=>h.elim) ?aF ?aB ?aS ?aL ?_
             (case aR=>first|(have q_:=Kd.C_below HR123.out HB.out;rw [show (l0_1.take (a1:Int).toNat).length = a1.toNat from (by rw [List.length_take];have h_:(a1:Int) ≤ (l0_1.length:Int):=oD;omega)] at q_;exact q_)|(rw [← show (l0_1.take (a1:Int).toNat).length = a1.toNat from (by rw [List.length_take];have h_:(a1:Int) ≤ (l0_1.length:Int):=oD;omega)];repeat (first|exact (Kd.C_below HR123.out HB.out)|(with_reducible refine Kd.C_alloc ?_ _)|(with_reducible refine Kd.C_drewN ?_ _)|(with_reducible refine Kd.C_drew ?_)))|(repeat (first|exact (Kd.C_below HR123.out HB.out)|(with_reducible refine Kd.C_alloc ?_ _)|(with_reducible refine Kd.C_drewN ?_ _)|(with_reducible refine Kd.C_drew ?_))))
             (case aB=>exact bH)
             (case aF=>exact YE)
             (case aO=>exact (rR HO122))
             (case aS=>exact YB)
             (case aL=>exact Ym)
             intro v125 w71 ho hb hg hat
             rw [← Ny124.out] at ho
             have n0_:=Aside0.mk (blk_grown (bB BK112) hg (Kd.R_ne HO122.out BK112.out (by decide)));have n1_:=Aside0.mk (blk_grown (bB BK113) hg (Kd.R_ne HO122.out BK113.out (by decide)));have n2_:=Aside0.mk (blk_grown (bB BK127) hg (Kd.R_ne HO122.out BK127.out (by decide)));have n3_:=Aside0.mk (hb);have n4_:=Aside0.mk (ho);clear BK112;clear BK113;clear BK127;clear HB;clear HO122;have BK112:=n0_;have BK113:=n1_;have BK127:=n2_;have HB:=n3_;have HO126:=n4_;clear n0_ n1_ n2_ n3_ n4_
             clear ho hb hg hat
             obtain ⟨Ao72,co72,eo72⟩:=Kd.R_slice HO126.out
             (first|subst eo72|(injection eo72 with f1_ f2_ f3_;have f4_:=f1_.symm;have f5_:=f3_.symm;clear f1_ f2_ f3_;subst f4_;subst f5_))
             refine hK.out _ _ ⟨(blk_cell BK112.out 0).trans rfl,(blk_cell BK112.out 1).trans rfl⟩ (fun hHeld=>?_)
             clear hK K
             refine nM (N:=some 34) ?_
             refine pU (i:=9) (N:=some 35) #[true,true,true,true,true,true,true,true,true,true,true,false] (any_of HT_.out (by kernel_rfl)) ?_
             exact norm_ Yi (hCont (v118,v121,.slice Ao72 y124.length co72,gb127) _ ⟨hHeld,(rR HO126),(bB BK112),(bB BK113),(bB BK127),GW127.out,GE127.out,NB112_127.out,NB127_112.out,NB113_127.out,NB127_113.out,bH⟩)
           ·skip
            refine box_step ?hg (N:=8) ?hd (cs:=#[.slice none 0 0,.slice none 0 0]) (t:=26) ?hr ?_;(case hd=>rfl);(case hg=>rfl);(case hr=>exact Yg)
            intro gb127 hg w67 hbox hb
            have BK127:=Aside0.mk (hbox);have GW127:=Aside0.mk ((hZ:w.heap.size ≤ gb127));have GE127:=Aside0.mk ((hZ:w.heap.size ≤ gb127));replace HB:=Aside0.mk (below_step bH hb);have NB112_127:=Aside0.mk ((nL BK112:gb112 ≠ gb127));have NB127_112:=Aside0.mk ((nG BK112:gb127 ≠ gb112));replace BK112:=Aside0.mk (blk_below (bB BK112) hb);have NB113_127:=Aside0.mk ((nL BK113:gb113 ≠ gb127));have NB127_113:=Aside0.mk ((nG BK113:gb127 ≠ gb113));replace BK113:=Aside0.mk (blk_below (bB BK113) hb)
            clear hb hbox hg
            refine hK.out _ _ ⟨(blk_cell BK112.out 0).trans rfl,(blk_cell BK112.out 1).trans rfl⟩ (fun hHeld=>?_)
            clear hK K
            refine nM (N:=some 8) ?_
            refine one_ (i:=0) (N:=some 26) #[true,true,true,false,true,true,true,true,false,false,true,false] rfl rfl (one_of HT_.out (by kernel_rfl)) (by decide) (fun K hK=>?_)
            refine Kd.R_lit_step Kd.string _ 9 ?hg (N:=26) ?hd (xs:=([]:List ByteArray)) (inner:=[]) (ok:=fun _=>True) (okp:=fun _=>True) ?hr ?hp (fun _ hk=>hk) trivial (Below.refl _ _) (Nat.le_refl _) (by simp) ?_;(case hd=>rfl);(case hg=>rfl);(case hr=>exact Yg);(case hp=>exact ZN)
            intro v118 w68 ho69 hb hg_ hnew_
            clear hg_ hnew_
            (first|rw [← Ny117.out] at ho69|(simp only [Int.reduceToNat] at ho69;rw [← Ny117.out] at ho69))
            have HO119:=Aside0.mk (Kd.R_lower ho69 (below_size bH));replace BK112:=Aside0.mk (blk_below (bB BK112) hb);replace BK113:=Aside0.mk (blk_below (bB BK113) hb);replace BK127:=Aside0.mk (blk_below (bB BK127) hb);replace HB:=Aside0.mk (below_step bH hb)
            clear hb ho69
            refine hK.out _ _ ⟨(blk_cell BK112.out 0).trans rfl,(blk_cell BK112.out 1).trans rfl⟩ (fun hHeld=>?_)
            clear hK K
            refine nM (N:=some 26) ?_
            refine one_ (i:=3) (N:=some 29) #[true,true,true,true,true,true,true,true,false,false,true,false] rfl rfl (one_of HT_.out (by kernel_rfl)) (by decide) (fun K hK=>?_)
            refine Kd.R_append_rows_step Kd.string (w0:=w) w.heap.size (by rfl) (.tmp 26) (.tmp 28) 24 9 (.string ⟨#[]⟩) 16 rfl Try.underlying24 info9 rfl (by decide) Yy v118 y117 l0_0 _ _ _ (fun _=>True) (fun _=>False) rfl rfl ?aO ?aR (fun _ _ h=>h) (fun _ h=>h.elim) ?aF ?aB ?aS ?aL ?_
            (case aR=>exact ZB)
            (case aB=>exact bH)
            (case aF=>exact YE)
            (case aO=>exact (rR HO119))
            (case aS=>exact YB)
            (case aL=>have:=LMc26.out;omega)
            intro v121 w70 ho hb hg hat
            rw [← Ny120.out] at ho
            have n0_:=Aside0.mk (blk_grown (bB BK112) hg (Kd.R_ne HO119.out BK112.out (by decide)));have n1_:=Aside0.mk (blk_grown (bB BK113) hg (Kd.R_ne HO119.out BK113.out (by decide)));have n2_:=Aside0.mk (blk_grown (bB BK127) hg (Kd.R_ne HO119.out BK127.out (by decide)));have n3_:=Aside0.mk (hb);have n4_:=Aside0.mk (ho);clear BK112;clear BK113;clear BK127;clear HB;clear HO119;have BK112:=n0_;have BK113:=n1_;have BK127:=n2_;have HB:=n3_;have HO122:=n4_;clear n0_ n1_ n2_ n3_ n4_
            clear ho hb hg hat
            refine hK.out _ _ ⟨(blk_cell BK112.out 0).trans rfl,(blk_cell BK112.out 1).trans rfl⟩ (fun hHeld=>?_)
            clear hK K
            refine nM (N:=some 29) ?_
            refine one_ (i:=8) (N:=some 34) #[true,true,true,true,true,true,true,true,true,false,true,false] rfl rfl (one_of HT_.out (by kernel_rfl)) (by decide) (fun K hK=>?_)
            refine Kd.R_append_rows_step Kd.string (w0:=w) w.heap.size (by rfl) (.tmp 29) (.tmp 33) 24 9 (.string ⟨#[]⟩) 16 rfl Try.underlying24 info9 rfl (by decide) Yy v121 y120 (l0_1.take (a1:Int).toNat) _ _ _ (fun _=>True) (fun _=>False) rfl rfl ?aO ?aR (fun _ _ h=>h) (fun _ h=>h.elim) ?aF ?aB ?aS ?aL ?_
            (case aR=>first|(have q_:=Kd.C_below HR123.out HB.out;rw [show (l0_1.take (a1:Int).toNat).length = a1.toNat from (by rw [List.length_take];have h_:(a1:Int) ≤ (l0_1.length:Int):=oD;omega)] at q_;exact q_)|(rw [← show (l0_1.take (a1:Int).toNat).length = a1.toNat from (by rw [List.length_take];have h_:(a1:Int) ≤ (l0_1.length:Int):=oD;omega)];repeat (first|exact (Kd.C_below HR123.out HB.out)|(with_reducible refine Kd.C_alloc ?_ _)|(with_reducible refine Kd.C_drewN ?_ _)|(with_reducible refine Kd.C_drew ?_)))|(repeat (first|exact (Kd.C_below HR123.out HB.out)|(with_reducible refine Kd.C_alloc ?_ _)|(with_reducible refine Kd.C_drewN ?_ _)|(with_reducible refine Kd.C_drew ?_))))
            (case aB=>exact bH)
            (case aF=>exact YE)
            (case aO=>exact (rR HO122))
            (case aS=>exact YB)
            (case aL=>exact Ym)
            intro v125 w71 ho hb hg hat
            rw [← Ny124.out] at ho
            have n0_:=Aside0.mk (blk_grown (bB BK112) hg (Kd.R_ne HO122.out BK112.out (by decide)));have n1_:=Aside0.mk (blk_grown (bB BK113) hg (Kd.R_ne HO122.out BK113.out (by decide)));have n2_:=Aside0.mk (blk_grown (bB BK127) hg (Kd.R_ne HO122.out BK127.out (by decide)));have n3_:=Aside0.mk (hb);have n4_:=Aside0.mk (ho);clear BK112;clear BK113;clear BK127;clear HB;clear HO122;have BK112:=n0_;have BK113:=n1_;have BK127:=n2_;have HB:=n3_;have HO126:=n4_;clear n0_ n1_ n2_ n3_ n4_
            clear ho hb hg hat
            obtain ⟨Ao72,co72,eo72⟩:=Kd.R_slice HO126.out
            (first|subst eo72|(injection eo72 with f1_ f2_ f3_;have f4_:=f1_.symm;have f5_:=f3_.symm;clear f1_ f2_ f3_;subst f4_;subst f5_))
            refine hK.out _ _ ⟨(blk_cell BK112.out 0).trans rfl,(blk_cell BK112.out 1).trans rfl⟩ (fun hHeld=>?_)
            clear hK K
            refine nM (N:=some 34) ?_
            refine pU (i:=9) (N:=some 35) #[true,true,true,true,true,true,true,true,true,true,true,false] (any_of HT_.out (by kernel_rfl)) ?_
            exact norm_ Yi (hCont (v118,v121,.slice Ao72 y124.length co72,gb127) _ ⟨hHeld,(rR HO126),(bB BK112),(bB BK113),(bB BK127),GW127.out,GE127.out,NB112_127.out,NB127_112.out,NB113_127.out,NB127_113.out,bH⟩)
          rintro ⟨v118,v121,v125,gb127⟩ w73 ⟨hS_,h0_,h1_,h2_,h3_,h4_,h5_,h6_,h7_,h8_,h9_,h10_⟩
          have n0_:Aside0 (Kd.R Kd.string 9 w73 w.heap.size (fun _=>True) v125 y124):=⟨h0_⟩
          have n1_:Aside0 (w73.heap[gb112]? = some (.cells #[.slice A0_0 l0_0.length c0_0,.slice A0_1 l0_1.length c0_1] 26 (0,0))):=⟨h1_⟩
          have n2_:Aside0 (w73.heap[gb113]? = some (.cells #[.slice none 0 0,.slice none 0 0] 26 (0,0))):=⟨h2_⟩
          have n3_:Aside0 (w73.heap[gb127]? = some (.cells #[.slice none 0 0,.slice none 0 0] 26 (0,0))):=⟨h3_⟩
          have n4_:Aside0 (w.heap.size ≤ gb127):=⟨h4_⟩
          have n5_:Aside0 (w.heap.size ≤ gb127):=⟨h5_⟩
          have n6_:Aside0 (gb112 ≠ gb127):=⟨h6_⟩
          have n7_:Aside0 (gb127 ≠ gb112):=⟨h7_⟩
          have n8_:Aside0 (gb113 ≠ gb127):=⟨h8_⟩
          have n9_:Aside0 (gb127 ≠ gb113):=⟨h9_⟩
          have n10_:Aside0 (Below w.heap.size w w73):=⟨h10_⟩
          clear BK112
          clear BK113
          clear HB
          clear h0_ h1_ h2_ h3_ h4_ h5_ h6_ h7_ h8_ h9_ h10_
          have HO126:=n0_
          have BK112:=n1_
          have BK113:=n2_
          have BK127:=n3_
          have GW127:=n4_
          have GE127:=n5_
          have NB112_127:=n6_
          have NB127_112:=n7_
          have NB113_127:=n8_
          have NB127_113:=n9_
          have HB:=n10_
          clear n0_ n1_ n2_ n3_ n4_ n5_ n6_ n7_ n8_ n9_ n10_
          have hHeld:w73.cell? ⟨gb112,0,none⟩ = some (.slice A0_0 l0_0.length c0_0) ∧ w73.cell? ⟨gb112,1,none⟩ = some (.slice A0_1 l0_1.length c0_1):=hS_
          obtain ⟨Ao74,co74,eo74⟩:=Kd.R_slice HO126.out
          (first|subst eo74|(injection eo74 with f1_ f2_ f3_;have f4_:=f1_.symm;have f5_:=f3_.symm;clear f1_ f2_ f3_;subst f4_;subst f5_))
          refine norm_ (a':=?_) ?_ ?_
          rotate_left
          ·simp only [putAll,Act.put,List.setIfInBounds_toArray,List.set_cons_zero,List.set_cons_succ]
           rfl
          refine one_ (i:=11) (N:=none) #[true,true,true,true,true,true,true,true,true,true,true,true] rfl rfl (one_of HT_.out (by kernel_rfl)) (by decide) (fun K hK=>?_)
          have hs75:w73.cell? ⟨gb127,0,none⟩ = some (.slice none 0 0):=(blk_cell BK127.out 0).trans rfl
          have hfs75:=blk_frozen BK127.out 0
          have hns75_0:=NB112_127.out
          have hns75_1:=NB113_127.out
          have hms75_0:=NB127_112.out
          have hms75_1:=NB127_113.out
          have hs76:w73.cell? ⟨gb127,1,none⟩ = some (.slice none 0 0):=(blk_cell BK127.out 1).trans rfl
          have hfs76:=blk_frozen BK127.out 1
          have hns76_0:=NB112_127.out
          have hns76_1:=NB113_127.out
          have hms76_0:=NB127_112.out
          have hms76_1:=NB127_113.out
          refine skip_ (w1:=?_) (by rfl) rfl ?_ ?_
          rotate_left
          ·go_simp
           rfl
          refine hK.out _ _ ⟨((cell_far (p:=⟨gb127,_,none⟩) NB112_127.out _).trans (((cell_far (p:=⟨gb127,_,none⟩) NB112_127.out _).trans (hHeld.1)))),((cell_far (p:=⟨gb127,_,none⟩) NB112_127.out _).trans (((cell_far (p:=⟨gb127,_,none⟩) NB112_127.out _).trans (hHeld.2))))⟩ (fun hHeld=>?_)
          clear hK K
          refine done_ (done_of HT_.out (by kernel_rfl)) ?_
          have hnb77:=NB112_113.out
          have hnc77:=NB113_112.out
          have hnb78:=NB112_127.out
          have hnc78:=NB127_112.out
          have hcz79_0:w73.cell? ⟨gb112,0,none⟩ = some (.slice A0_0 l0_0.length c0_0):=(blk_cell BK112.out 0).trans rfl
          have hcz79_1:w73.cell? ⟨gb112,1,none⟩ = some (.slice A0_1 l0_1.length c0_1):=(blk_cell BK112.out 1).trans rfl
          have hfz79_0:=blk_frozen BK112.out 0
          have hfz79_1:=blk_frozen BK112.out 1
          have hnb80:=NB127_113.out
          have hnc80:=NB113_127.out
          have hcz81_0:w73.cell? ⟨gb127,0,none⟩ = some (.slice none 0 0):=(blk_cell BK127.out 0).trans rfl
          have hcz81_1:w73.cell? ⟨gb127,1,none⟩ = some (.slice none 0 0):=(blk_cell BK127.out 1).trans rfl
          have hfz81_0:=blk_frozen BK127.out 0
          have hfz81_1:=blk_frozen BK127.out 1
          have hcz82_0:w73.cell? ⟨gb113,0,none⟩ = some (.slice none 0 0):=(blk_cell BK113.out 0).trans rfl
          have hcz82_1:w73.cell? ⟨gb113,1,none⟩ = some (.slice none 0 0):=(blk_cell BK113.out 1).trans rfl
          have hfz82_0:=blk_frozen BK113.out 0
          have hfz82_1:=blk_frozen BK113.out 1
          try go_wp2
          refine bodyPost_ret (results_ct rfl _ _ gb113 26 #[.slice Ao74 y124.length co74,.slice none 0 0] (0,0) _ rfl (by (with_reducible repeat (first|refine blk_drewN ?_ _|refine blk_drew ?_|refine blk_alloc ?_ _));refine blk_put (cs:=#[.slice Ao74 y124.length co74,.slice none 0 0]) ?_ 1 _ rfl;(with_reducible repeat (first|refine blk_drewN ?_ _|refine blk_drew ?_|refine blk_alloc ?_ _));refine blk_put (cs:=#[.slice none 0 0,.slice none 0 0]) ?_ 0 _ rfl;(with_reducible repeat (first|refine blk_drewN ?_ _|refine blk_drew ?_|refine blk_alloc ?_ _));refine blk_far ?_ NB113_127.out _;(with_reducible repeat (first|refine blk_drewN ?_ _|refine blk_drew ?_|refine blk_alloc ?_ _));refine blk_far ?_ NB113_127.out _;(with_reducible repeat (first|refine blk_drewN ?_ _|refine blk_drew ?_|refine blk_alloc ?_ _));exact BK113.out) Try.underlying26 rfl (by kernel_rfl)) rfl ?_
          exact ⟨_,_,Yb,by (with_reducible repeat (first|apply Kd.R_alloc|apply Kd.R_drewN|apply Kd.R_drew));exact Kd.R_mono (Kd.R_far (p:=⟨gb113,1,none⟩) (Kd.R_far (p:=⟨gb113,0,none⟩) (Kd.R_far (p:=⟨gb127,1,none⟩) (Kd.R_far (p:=⟨gb127,0,none⟩) (Kd.R_types (Kd.R_types HO126.out BK127.out (by decide)) BK113.out (by decide)) (fun _ hk=>hk.1.2) (.slice Ao74 y124.length co74)) (fun _ hk=>hk.1.2) (.slice none 0 0)) (fun _ hk=>hk.2) (.slice Ao74 y124.length co74)) (fun _ hk=>hk.2) (.slice none 0 0)) (fun _ hk=>ZR),Yd,bH⟩
        ·rw [if_neg c30] at H
         have c30b0:decide (0 < a2) = false:=decide_eq_false c30
         clear c30
         simp only [Option.some.injEq,Prod.mk.injEq] at H
         obtain ⟨rfl,rfl,rfl⟩:=H
         try go_wp2
         replace BK112:=Aside0.mk (blk_drew BK112.out);replace BK113:=Aside0.mk (blk_drew BK113.out);replace HB:=Aside0.mk (below_drew1 HB.out)
         obtain ⟨i084,hi084,_,hsz84,_⟩:=info_parts info9
         obtain ⟨hcut84,hA84,hC84⟩:=print_take_of (P:=Try.prog) Value.string (⟨#[]⟩:ByteArray) 24 9 .i64 Try.underlying24 hi084 hsz84 A0_1 c0_1 l0_1 a1 (oD) (oD) HC0_1.out
         have HR123:=Aside0.mk (Kd.C_of_reads (h1:=fun _=>rfl) (hA84 _ (Kd.reads_of_C HR0_1.out)))
         have HC123:=Aside0.mk hC84
         clear hA84 hC84 hi084 hsz84
         refine start_ (n:=12) (S:=fun w'=>w'.cell? ⟨gb112,0,none⟩ = some (.slice A0_0 l0_0.length c0_0) ∧ w'.cell? ⟨gb112,1,none⟩ = some (.slice A0_1 l0_1.length c0_1)) (ds:=[]) #[false,false,false,false,false,false,false,false,false,false,false,false] (by kernel_rfl) rfl rfl ⟨(blk_cell BK112.out 0).trans rfl,(blk_cell BK112.out 1).trans rfl⟩ (fun hHeld=>?_);refine with_tabW spec_CrashDisk.tab3 spec_CrashDisk.bits3 (fun HT_ HW_=>?_)
         generalize wc.drew = w83 at BK112 BK113 HB HR123 hHeld ⊢
         refine pU (i:=1) (N:=some 27) #[false,true,false,false,false,false,false,false,false,false,false,false] (any_of HT_.out (by kernel_rfl)) ?_
         refine pU (i:=4) (N:=some 30) #[false,true,false,false,true,false,false,false,false,false,false,false] (any_of HT_.out (by kernel_rfl)) ?_
         refine pU (i:=6) (N:=some 32) #[false,true,false,false,true,false,true,false,false,false,false,false] (any_of HT_.out (by kernel_rfl)) ?_
         refine take_ (i:=2) (N:=some 28) (v:=?_) (a':=?_) #[false,true,true,false,true,false,true,false,false,false,false,false] rfl rfl (take_ofW HT_.out HW_.out (by kernel_rfl)) (fun _ _ _ h=>h) (Or.inl ⟨by rfl,?_⟩) hHeld ?_ ?_
         rotate_left
         ·rintro w' ⟨s0,s1⟩
          go_simp
          with_reducible rfl
         rotate_left
         ·simp only [Act.put,List.setIfInBounds_toArray,List.set_cons_zero,List.set_cons_succ,i64_w,i32_w]
          rfl
         refine take_ (i:=5) (N:=some 31) (v:=?_) (a':=?_) #[false,true,true,false,true,true,true,false,false,false,false,false] rfl rfl (take_ofW HT_.out HW_.out (by kernel_rfl)) (fun _ _ _ h=>h) (Or.inl ⟨by rfl,?_⟩) hHeld ?_ ?_
         rotate_left
         ·rintro w' ⟨s0,s1⟩
          go_simp
          with_reducible rfl
         rotate_left
         ·simp only [Act.put,List.setIfInBounds_toArray,List.set_cons_zero,List.set_cons_succ,i64_w,i32_w]
          rfl
         refine pU (i:=7) (N:=some 33) #[false,true,true,false,true,true,true,true,false,false,false,false] (any_of HT_.out (by kernel_rfl)) ?_
         refine join_ (σ:=Value × Value × Value × Nat) 1 #[true,true,true,true,true,true,true,true,true,true,true,false] (fun s_=>[(26,s_.1),(29,s_.2.1),(34,s_.2.2.1),(8,.pointer (some ⟨s_.2.2.2,0,none⟩)),(35,.agg #[s_.2.2.1,.slice none 0 0])]) (fun s_ w'=>(w'.cell? ⟨gb112,0,none⟩ = some (.slice A0_0 l0_0.length c0_0) ∧ w'.cell? ⟨gb112,1,none⟩ = some (.slice A0_1 l0_1.length c0_1)) ∧ (Kd.R Kd.string 9 w' w.heap.size (fun _=>True) s_.2.2.1 y124) ∧ (w'.heap[gb112]? = some (.cells #[.slice A0_0 l0_0.length c0_0,.slice A0_1 l0_1.length c0_1] 26 (0,0))) ∧ (w'.heap[gb113]? = some (.cells #[.slice none 0 0,.slice none 0 0] 26 (0,0))) ∧ (w'.heap[s_.2.2.2]? = some (.cells #[.slice none 0 0,.slice none 0 0] 26 (0,0))) ∧ (w.heap.size ≤ s_.2.2.2) ∧ (w.heap.size ≤ s_.2.2.2) ∧ (gb112 ≠ s_.2.2.2) ∧ (s_.2.2.2 ≠ gb112) ∧ (gb113 ≠ s_.2.2.2) ∧ (s_.2.2.2 ≠ gb113) ∧ (Below w.heap.size w w')) ?_ ?_
         rotate_left
         ·intro hCont
          refine two_ (i:=0) (j:=10) (Ni:=some 26) (Nj:=some 8) #[true,true,true,false,true,true,true,true,false,false,false,false] #[false,true,true,false,true,true,true,true,false,false,true,false] rfl rfl rfl rfl (two_of HT_.out (by kernel_rfl)) (by decide) (by decide) (fun K hK=>?_) (fun K hK=>?_)
          ·skip
           refine Kd.R_lit_step Kd.string _ 9 ?hg (N:=26) ?hd (xs:=([]:List ByteArray)) (inner:=[]) (ok:=fun _=>True) (okp:=fun _=>True) ?hr ?hp (fun _ hk=>hk) trivial (Below.refl _ _) (Nat.le_refl _) (by simp) ?_;(case hd=>rfl);(case hg=>rfl);(case hr=>exact Yg);(case hp=>exact ZN)
           intro v118 w85 ho86 hb hg_ hnew_
           clear hg_ hnew_
           (first|rw [← Ny117.out] at ho86|(simp only [Int.reduceToNat] at ho86;rw [← Ny117.out] at ho86))
           have HO119:=Aside0.mk (Kd.R_lower ho86 (below_size bH));replace BK112:=Aside0.mk (blk_below (bB BK112) hb);replace BK113:=Aside0.mk (blk_below (bB BK113) hb);replace HB:=Aside0.mk (below_step bH hb)
           clear hb ho86
           refine hK.out _ _ ⟨(blk_cell BK112.out 0).trans rfl,(blk_cell BK112.out 1).trans rfl⟩ (fun hHeld=>?_)
           clear hK K
           refine nM (N:=some 26) ?_
           refine two_ (i:=3) (j:=10) (Ni:=some 29) (Nj:=some 8) #[true,true,true,true,true,true,true,true,false,false,false,false] #[true,true,true,false,true,true,true,true,false,false,true,false] rfl rfl rfl rfl (two_of HT_.out (by kernel_rfl)) (by decide) (by decide) (fun K hK=>?_) (fun K hK=>?_)
           ·skip
            refine Kd.R_append_rows_step Kd.string (w0:=w) w.heap.size (by rfl) (.tmp 26) (.tmp 28) 24 9 (.string ⟨#[]⟩) 16 rfl Try.underlying24 info9 rfl (by decide) Yy v118 y117 l0_0 _ _ _ (fun _=>True) (fun _=>False) rfl rfl ?aO ?aR (fun _ _ h=>h) (fun _ h=>h.elim) ?aF ?aB ?aS ?aL ?_
            (case aR=>exact ZB)
            (case aB=>exact bH)
            (case aF=>exact YE)
            (case aO=>exact (rR HO119))
            (case aS=>exact YB)
            (case aL=>have:=LMc26.out;omega)
            intro v121 w87 ho hb hg hat
            rw [← Ny120.out] at ho
            have n0_:=Aside0.mk (blk_grown (bB BK112) hg (Kd.R_ne HO119.out BK112.out (by decide)));have n1_:=Aside0.mk (blk_grown (bB BK113) hg (Kd.R_ne HO119.out BK113.out (by decide)));have n2_:=Aside0.mk (hb);have n3_:=Aside0.mk (ho);clear BK112;clear BK113;clear HB;clear HO119;have BK112:=n0_;have BK113:=n1_;have HB:=n2_;have HO122:=n3_;clear n0_ n1_ n2_ n3_
            clear ho hb hg hat
            refine hK.out _ _ ⟨(blk_cell BK112.out 0).trans rfl,(blk_cell BK112.out 1).trans rfl⟩ (fun hHeld=>?_)
            clear hK K
            refine nM (N:=some 29) ?_
            refine two_ (i:=8) (j:=10) (Ni:=some 34) (Nj:=some 8) #[true,true,true,true,true,true,true,true,true,false,false,false] #[true,true,true,true,true,true,true,true,false,false,true,false] rfl rfl rfl rfl (two_of HT_.out (by kernel_rfl)) (by decide) (by decide) (fun K hK=>?_) (fun K hK=>?_)
            ·skip
             refine Kd.R_append_rows_step Kd.string (w0:=w) w.heap.size (by rfl) (.tmp 29) (.tmp 33) 24 9 (.string ⟨#[]⟩) 16 rfl Try.underlying24 info9 rfl (by decide) Yy v121 y120 (l0_1.take (a1:Int).toNat) _ _ _ (fun _=>True) (fun _=>False) rfl rfl ?aO ?aR (fun _ _ h=>h) (fun _ h=>h.elim) ?aF ?aB ?aS ?aL ?_
             (case aR=>first|(have q_:=Kd.C_below HR123.out HB.out;rw [show (l0_1.take (a1:Int).toNat).length = a1.toNat from (by rw [List.length_take];have h_:(a1:Int) ≤ (l0_1.length:Int):=oD;omega)] at q_;exact q_)|(rw [← show (l0_1.take (a1:Int).toNat).length = a1.toNat from (by rw [List.length_take];have h_:(a1:Int) ≤ (l0_1.length:Int):=oD;omega)];repeat (first|exact (Kd.C_below HR123.out HB.out)|(with_reducible refine Kd.C_alloc ?_ _)|(with_reducible refine Kd.C_drewN ?_ _)|(with_reducible refine Kd.C_drew ?_)))|(repeat (first|exact (Kd.C_below HR123.out HB.out)|(with_reducible refine Kd.C_alloc ?_ _)|(with_reducible refine Kd.C_drewN ?_ _)|(with_reducible refine Kd.C_drew ?_))))
             (case aB=>exact bH)
             (case aF=>exact YE)
             (case aO=>exact (rR HO122))
             (case aS=>exact YB)
             (case aL=>exact Ym)
             intro v125 w88 ho hb hg hat
             rw [← Ny124.out] at ho
             have n0_:=Aside0.mk (blk_grown (bB BK112) hg (Kd.R_ne HO122.out BK112.out (by decide)));have n1_:=Aside0.mk (blk_grown (bB BK113) hg (Kd.R_ne HO122.out BK113.out (by decide)));have n2_:=Aside0.mk (hb);have n3_:=Aside0.mk (ho);clear BK112;clear BK113;clear HB;clear HO122;have BK112:=n0_;have BK113:=n1_;have HB:=n2_;have HO126:=n3_;clear n0_ n1_ n2_ n3_
             clear ho hb hg hat
             obtain ⟨Ao89,co89,eo89⟩:=Kd.R_slice HO126.out
             (first|subst eo89|(injection eo89 with f1_ f2_ f3_;have f4_:=f1_.symm;have f5_:=f3_.symm;clear f1_ f2_ f3_;subst f4_;subst f5_))
             refine hK.out _ _ ⟨(blk_cell BK112.out 0).trans rfl,(blk_cell BK112.out 1).trans rfl⟩ (fun hHeld=>?_)
             clear hK K
             refine nM (N:=some 34) ?_
             refine pU (i:=9) (N:=some 35) #[true,true,true,true,true,true,true,true,true,true,false,false] (any_of HT_.out (by kernel_rfl)) ?_
             refine one_ (i:=10) (N:=some 8) #[true,true,true,true,true,true,true,true,true,true,true,false] rfl rfl (one_of HT_.out (by kernel_rfl)) (by decide) (fun K hK=>?_)
             refine box_step ?hg (N:=8) ?hd (cs:=#[.slice none 0 0,.slice none 0 0]) (t:=26) ?hr ?_;(case hd=>rfl);(case hg=>rfl);(case hr=>exact Yg)
             intro gb127 hg w90 hbox hb
             replace HO126:=Aside0.mk (Kd.R_below (rR HO126) hb);have BK127:=Aside0.mk (hbox);have GW127:=Aside0.mk ((hZ:w.heap.size ≤ gb127));have GE127:=Aside0.mk ((hZ:w.heap.size ≤ gb127));replace HB:=Aside0.mk (below_step bH hb);have NB112_127:=Aside0.mk ((nL BK112:gb112 ≠ gb127));have NB127_112:=Aside0.mk ((nG BK112:gb127 ≠ gb112));replace BK112:=Aside0.mk (blk_below (bB BK112) hb);have NB113_127:=Aside0.mk ((nL BK113:gb113 ≠ gb127));have NB127_113:=Aside0.mk ((nG BK113:gb127 ≠ gb113));replace BK113:=Aside0.mk (blk_below (bB BK113) hb)
             clear hb hbox hg
             refine hK.out _ _ ⟨(blk_cell BK112.out 0).trans rfl,(blk_cell BK112.out 1).trans rfl⟩ (fun hHeld=>?_)
             clear hK K
             refine nM (N:=some 8) ?_
             exact norm_ Yi (hCont (v118,v121,.slice Ao89 y124.length co89,gb127) _ ⟨hHeld,(rR HO126),(bB BK112),(bB BK113),(bB BK127),GW127.out,GE127.out,NB112_127.out,NB127_112.out,NB113_127.out,NB127_113.out,bH⟩)
            ·skip
             refine box_step ?hg (N:=8) ?hd (cs:=#[.slice none 0 0,.slice none 0 0]) (t:=26) ?hr ?_;(case hd=>rfl);(case hg=>rfl);(case hr=>exact Yg)
             intro gb127 hg w88 hbox hb
             replace HO122:=Aside0.mk (Kd.R_below (rR HO122) hb);have BK127:=Aside0.mk (hbox);have GW127:=Aside0.mk ((hZ:w.heap.size ≤ gb127));have GE127:=Aside0.mk ((hZ:w.heap.size ≤ gb127));replace HB:=Aside0.mk (below_step bH hb);have NB112_127:=Aside0.mk ((nL BK112:gb112 ≠ gb127));have NB127_112:=Aside0.mk ((nG BK112:gb127 ≠ gb112));replace BK112:=Aside0.mk (blk_below (bB BK112) hb);have NB113_127:=Aside0.mk ((nL BK113:gb113 ≠ gb127));have NB127_113:=Aside0.mk ((nG BK113:gb127 ≠ gb113));replace BK113:=Aside0.mk (blk_below (bB BK113) hb)
             clear hb hbox hg
             refine hK.out _ _ ⟨(blk_cell BK112.out 0).trans rfl,(blk_cell BK112.out 1).trans rfl⟩ (fun hHeld=>?_)
             clear hK K
             refine nM (N:=some 8) ?_
             refine one_ (i:=8) (N:=some 34) #[true,true,true,true,true,true,true,true,true,false,true,false] rfl rfl (one_of HT_.out (by kernel_rfl)) (by decide) (fun K hK=>?_)
             refine Kd.R_append_rows_step Kd.string (w0:=w) w.heap.size (by rfl) (.tmp 29) (.tmp 33) 24 9 (.string ⟨#[]⟩) 16 rfl Try.underlying24 info9 rfl (by decide) Yy v121 y120 (l0_1.take (a1:Int).toNat) _ _ _ (fun _=>True) (fun _=>False) rfl rfl ?aO ?aR (fun _ _ h=>h) (fun _ h=>h.elim) ?aF ?aB ?aS ?aL ?_
             (case aR=>first|(have q_:=Kd.C_below HR123.out HB.out;rw [show (l0_1.take (a1:Int).toNat).length = a1.toNat from (by rw [List.length_take];have h_:(a1:Int) ≤ (l0_1.length:Int):=oD;omega)] at q_;exact q_)|(rw [← show (l0_1.take (a1:Int).toNat).length = a1.toNat from (by rw [List.length_take];have h_:(a1:Int) ≤ (l0_1.length:Int):=oD;omega)];repeat (first|exact (Kd.C_below HR123.out HB.out)|(with_reducible refine Kd.C_alloc ?_ _)|(with_reducible refine Kd.C_drewN ?_ _)|(with_reducible refine Kd.C_drew ?_)))|(repeat (first|exact (Kd.C_below HR123.out HB.out)|(with_reducible refine Kd.C_alloc ?_ _)|(with_reducible refine Kd.C_drewN ?_ _)|(with_reducible refine Kd.C_drew ?_))))
             (case aB=>exact bH)
             (case aF=>exact YE)
             (case aO=>exact (rR HO122))
             (case aS=>exact YB)
             (case aL=>exact Ym)
             intro v125 w89 ho hb hg hat
             rw [← Ny124.out] at ho
             have n0_:=Aside0.mk (blk_grown (bB BK112) hg (Kd.R_ne HO122.out BK112.out (by decide)));have n1_:=Aside0.mk (blk_grown (bB BK113) hg (Kd.R_ne HO122.out BK113.out (by decide)));have n2_:=Aside0.mk (blk_grown (bB BK127) hg (Kd.R_ne HO122.out BK127.out (by decide)));have n3_:=Aside0.mk (hb);have n4_:=Aside0.mk (ho);clear BK112;clear BK113;clear BK127;clear HB;clear HO122;have BK112:=n0_;have BK113:=n1_;have BK127:=n2_;have HB:=n3_;have HO126:=n4_;clear n0_ n1_ n2_ n3_ n4_
             clear ho hb hg hat
             obtain ⟨Ao90,co90,eo90⟩:=Kd.R_slice HO126.out
             (first|subst eo90|(injection eo90 with f1_ f2_ f3_;have f4_:=f1_.symm;have f5_:=f3_.symm;clear f1_ f2_ f3_;subst f4_;subst f5_))
             refine hK.out _ _ ⟨(blk_cell BK112.out 0).trans rfl,(blk_cell BK112.out 1).trans rfl⟩ (fun hHeld=>?_)
             clear hK K
             refine nM (N:=some 34) ?_
             refine pU (i:=9) (N:=some 35) #[true,true,true,true,true,true,true,true,true,true,true,false] (any_of HT_.out (by kernel_rfl)) ?_
             exact norm_ Yi (hCont (v118,v121,.slice Ao90 y124.length co90,gb127) _ ⟨hHeld,(rR HO126),(bB BK112),(bB BK113),(bB BK127),GW127.out,GE127.out,NB112_127.out,NB127_112.out,NB113_127.out,NB127_113.out,bH⟩)
           ·skip
            refine box_step ?hg (N:=8) ?hd (cs:=#[.slice none 0 0,.slice none 0 0]) (t:=26) ?hr ?_;(case hd=>rfl);(case hg=>rfl);(case hr=>exact Yg)
            intro gb127 hg w87 hbox hb
            replace HO119:=Aside0.mk (Kd.R_below (rR HO119) hb);have BK127:=Aside0.mk (hbox);have GW127:=Aside0.mk ((hZ:w.heap.size ≤ gb127));have GE127:=Aside0.mk ((hZ:w.heap.size ≤ gb127));replace HB:=Aside0.mk (below_step bH hb);have NB112_127:=Aside0.mk ((nL BK112:gb112 ≠ gb127));have NB127_112:=Aside0.mk ((nG BK112:gb127 ≠ gb112));replace BK112:=Aside0.mk (blk_below (bB BK112) hb);have NB113_127:=Aside0.mk ((nL BK113:gb113 ≠ gb127));have NB127_113:=Aside0.mk ((nG BK113:gb127 ≠ gb113));replace BK113:=Aside0.mk (blk_below (bB BK113) hb)
            clear hb hbox hg
            refine hK.out _ _ ⟨(blk_cell BK112.out 0).trans rfl,(blk_cell BK112.out 1).trans rfl⟩ (fun hHeld=>?_)
            clear hK K
            refine nM (N:=some 8) ?_
            refine one_ (i:=3) (N:=some 29) #[true,true,true,true,true,true,true,true,false,false,true,false] rfl rfl (one_of HT_.out (by kernel_rfl)) (by decide) (fun K hK=>?_)
            refine Kd.R_append_rows_step Kd.string (w0:=w) w.heap.size (by rfl) (.tmp 26) (.tmp 28) 24 9 (.string ⟨#[]⟩) 16 rfl Try.underlying24 info9 rfl (by decide) Yy v118 y117 l0_0 _ _ _ (fun _=>True) (fun _=>False) rfl rfl ?aO ?aR (fun _ _ h=>h) (fun _ h=>h.elim) ?aF ?aB ?aS ?aL ?_
            (case aR=>exact ZB)
            (case aB=>exact bH)
            (case aF=>exact YE)
            (case aO=>exact (rR HO119))
            (case aS=>exact YB)
            (case aL=>have:=LMc26.out;omega)
            intro v121 w88 ho hb hg hat
            rw [← Ny120.out] at ho
            have n0_:=Aside0.mk (blk_grown (bB BK112) hg (Kd.R_ne HO119.out BK112.out (by decide)));have n1_:=Aside0.mk (blk_grown (bB BK113) hg (Kd.R_ne HO119.out BK113.out (by decide)));have n2_:=Aside0.mk (blk_grown (bB BK127) hg (Kd.R_ne HO119.out BK127.out (by decide)));have n3_:=Aside0.mk (hb);have n4_:=Aside0.mk (ho);clear BK112;clear BK113;clear BK127;clear HB;clear HO119;have BK112:=n0_;have BK113:=n1_;have BK127:=n2_;have HB:=n3_;have HO122:=n4_;clear n0_ n1_ n2_ n3_ n4_
            clear ho hb hg hat
            refine hK.out _ _ ⟨(blk_cell BK112.out 0).trans rfl,(blk_cell BK112.out 1).trans rfl⟩ (fun hHeld=>?_)
            clear hK K
            refine nM (N:=some 29) ?_
            refine one_ (i:=8) (N:=some 34) #[true,true,true,true,true,true,true,true,true,false,true,false] rfl rfl (one_of HT_.out (by kernel_rfl)) (by decide) (fun K hK=>?_)
            refine Kd.R_append_rows_step Kd.string (w0:=w) w.heap.size (by rfl) (.tmp 29) (.tmp 33) 24 9 (.string ⟨#[]⟩) 16 rfl Try.underlying24 info9 rfl (by decide) Yy v121 y120 (l0_1.take (a1:Int).toNat) _ _ _ (fun _=>True) (fun _=>False) rfl rfl ?aO ?aR (fun _ _ h=>h) (fun _ h=>h.elim) ?aF ?aB ?aS ?aL ?_
            (case aR=>first|(have q_:=Kd.C_below HR123.out HB.out;rw [show (l0_1.take (a1:Int).toNat).length = a1.toNat from (by rw [List.length_take];have h_:(a1:Int) ≤ (l0_1.length:Int):=oD;omega)] at q_;exact q_)|(rw [← show (l0_1.take (a1:Int).toNat).length = a1.toNat from (by rw [List.length_take];have h_:(a1:Int) ≤ (l0_1.length:Int):=oD;omega)];repeat (first|exact (Kd.C_below HR123.out HB.out)|(with_reducible refine Kd.C_alloc ?_ _)|(with_reducible refine Kd.C_drewN ?_ _)|(with_reducible refine Kd.C_drew ?_)))|(repeat (first|exact (Kd.C_below HR123.out HB.out)|(with_reducible refine Kd.C_alloc ?_ _)|(with_reducible refine Kd.C_drewN ?_ _)|(with_reducible refine Kd.C_drew ?_))))
            (case aB=>exact bH)
            (case aF=>exact YE)
            (case aO=>exact (rR HO122))
            (case aS=>exact YB)
            (case aL=>exact Ym)
            intro v125 w89 ho hb hg hat
            rw [← Ny124.out] at ho
            have n0_:=Aside0.mk (blk_grown (bB BK112) hg (Kd.R_ne HO122.out BK112.out (by decide)));have n1_:=Aside0.mk (blk_grown (bB BK113) hg (Kd.R_ne HO122.out BK113.out (by decide)));have n2_:=Aside0.mk (blk_grown (bB BK127) hg (Kd.R_ne HO122.out BK127.out (by decide)));have n3_:=Aside0.mk (hb);have n4_:=Aside0.mk (ho);clear BK112;clear BK113;clear BK127;clear HB;clear HO122;have BK112:=n0_;have BK113:=n1_;have BK127:=n2_;have HB:=n3_;have HO126:=n4_;clear n0_ n1_ n2_ n3_ n4_
            clear ho hb hg hat
            obtain ⟨Ao90,co90,eo90⟩:=Kd.R_slice HO126.out
            (first|subst eo90|(injection eo90 with f1_ f2_ f3_;have f4_:=f1_.symm;have f5_:=f3_.symm;clear f1_ f2_ f3_;subst f4_;subst f5_))
            refine hK.out _ _ ⟨(blk_cell BK112.out 0).trans rfl,(blk_cell BK112.out 1).trans rfl⟩ (fun hHeld=>?_)
            clear hK K
            refine nM (N:=some 34) ?_
            refine pU (i:=9) (N:=some 35) #[true,true,true,true,true,true,true,true,true,true,true,false] (any_of HT_.out (by kernel_rfl)) ?_
            exact norm_ Yi (hCont (v118,v121,.slice Ao90 y124.length co90,gb127) _ ⟨hHeld,(rR HO126),(bB BK112),(bB BK113),(bB BK127),GW127.out,GE127.out,NB112_127.out,NB127_112.out,NB113_127.out,NB127_113.out,bH⟩)
          ·skip
           refine box_step ?hg (N:=8) ?hd (cs:=#[.slice none 0 0,.slice none 0 0]) (t:=26) ?hr ?_;(case hd=>rfl);(case hg=>rfl);(case hr=>exact Yg)
           intro gb127 hg w85 hbox hb
           have BK127:=Aside0.mk (hbox);have GW127:=Aside0.mk ((hZ:w.heap.size ≤ gb127));have GE127:=Aside0.mk ((hZ:w.heap.size ≤ gb127));replace HB:=Aside0.mk (below_step bH hb);have NB112_127:=Aside0.mk ((nL BK112:gb112 ≠ gb127));have NB127_112:=Aside0.mk ((nG BK112:gb127 ≠ gb112));replace BK112:=Aside0.mk (blk_below (bB BK112) hb);have NB113_127:=Aside0.mk ((nL BK113:gb113 ≠ gb127));have NB127_113:=Aside0.mk ((nG BK113:gb127 ≠ gb113));replace BK113:=Aside0.mk (blk_below (bB BK113) hb)
           clear hb hbox hg
           refine hK.out _ _ ⟨(blk_cell BK112.out 0).trans rfl,(blk_cell BK112.out 1).trans rfl⟩ (fun hHeld=>?_)
           clear hK K
           refine nM (N:=some 8) ?_
           refine one_ (i:=0) (N:=some 26) #[true,true,true,false,true,true,true,true,false,false,true,false] rfl rfl (one_of HT_.out (by kernel_rfl)) (by decide) (fun K hK=>?_)
           refine Kd.R_lit_step Kd.string _ 9 ?hg (N:=26) ?hd (xs:=([]:List ByteArray)) (inner:=[]) (ok:=fun _=>True) (okp:=fun _=>True) ?hr ?hp (fun _ hk=>hk) trivial (Below.refl _ _) (Nat.le_refl _) (by simp) ?_;(case hd=>rfl);(case hg=>rfl);(case hr=>exact Yg);(case hp=>exact ZN)
           intro v118 w86 ho87 hb hg_ hnew_
           clear hg_ hnew_
           (first|rw [← Ny117.out] at ho87|(simp only [Int.reduceToNat] at ho87;rw [← Ny117.out] at ho87))
           have HO119:=Aside0.mk (Kd.R_lower ho87 (below_size bH));replace BK112:=Aside0.mk (blk_below (bB BK112) hb);replace BK113:=Aside0.mk (blk_below (bB BK113) hb);replace BK127:=Aside0.mk (blk_below (bB BK127) hb);replace HB:=Aside0.mk (below_step bH hb)
           clear hb ho87
           refine hK.out _ _ ⟨(blk_cell BK112.out 0).trans rfl,(blk_cell BK112.out 1).trans rfl⟩ (fun hHeld=>?_)
           clear hK K
           refine nM (N:=some 26) ?_
           refine one_ (i:=3) (N:=some 29) #[true,true,true,true,true,true,true,true,false,false,true,false] rfl rfl (one_of HT_.out (by kernel_rfl)) (by decide) (fun K hK=>?_)
           refine Kd.R_append_rows_step Kd.string (w0:=w) w.heap.size (by rfl) (.tmp 26) (.tmp 28) 24 9 (.string ⟨#[]⟩) 16 rfl Try.underlying24 info9 rfl (by decide) Yy v118 y117 l0_0 _ _ _ (fun _=>True) (fun _=>False) rfl rfl ?aO ?aR (fun _ _ h=>h) (fun _ h=>h.elim) ?aF ?aB ?aS ?aL ?_
           (case aR=>exact ZB)
           (case aB=>exact bH)
           (case aF=>exact YE)
           (case aO=>exact (rR HO119))
           (case aS=>exact YB)
           (case aL=>have:=LMc26.out;omega)
           intro v121 w88 ho hb hg hat
           rw [← Ny120.out] at ho
           have n0_:=Aside0.mk (blk_grown (bB BK112) hg (Kd.R_ne HO119.out BK112.out (by decide)));have n1_:=Aside0.mk (blk_grown (bB BK113) hg (Kd.R_ne HO119.out BK113.out (by decide)));have n2_:=Aside0.mk (blk_grown (bB BK127) hg (Kd.R_ne HO119.out BK127.out (by decide)));have n3_:=Aside0.mk (hb);have n4_:=Aside0.mk (ho);clear BK112;clear BK113;clear BK127;clear HB;clear HO119;have BK112:=n0_;have BK113:=n1_;have BK127:=n2_;have HB:=n3_;have HO122:=n4_;clear n0_ n1_ n2_ n3_ n4_
           clear ho hb hg hat
           refine hK.out _ _ ⟨(blk_cell BK112.out 0).trans rfl,(blk_cell BK112.out 1).trans rfl⟩ (fun hHeld=>?_)
           clear hK K
           refine nM (N:=some 29) ?_
           refine one_ (i:=8) (N:=some 34) #[true,true,true,true,true,true,true,true,true,false,true,false] rfl rfl (one_of HT_.out (by kernel_rfl)) (by decide) (fun K hK=>?_)
           refine Kd.R_append_rows_step Kd.string (w0:=w) w.heap.size (by rfl) (.tmp 29) (.tmp 33) 24 9 (.string ⟨#[]⟩) 16 rfl Try.underlying24 info9 rfl (by decide) Yy v121 y120 (l0_1.take (a1:Int).toNat) _ _ _ (fun _=>True) (fun _=>False) rfl rfl ?aO ?aR (fun _ _ h=>h) (fun _ h=>h.elim) ?aF ?aB ?aS ?aL ?_
           (case aR=>first|(have q_:=Kd.C_below HR123.out HB.out;rw [show (l0_1.take (a1:Int).toNat).length = a1.toNat from (by rw [List.length_take];have h_:(a1:Int) ≤ (l0_1.length:Int):=oD;omega)] at q_;exact q_)|(rw [← show (l0_1.take (a1:Int).toNat).length = a1.toNat from (by rw [List.length_take];have h_:(a1:Int) ≤ (l0_1.length:Int):=oD;omega)];repeat (first|exact (Kd.C_below HR123.out HB.out)|(with_reducible refine Kd.C_alloc ?_ _)|(with_reducible refine Kd.C_drewN ?_ _)|(with_reducible refine Kd.C_drew ?_)))|(repeat (first|exact (Kd.C_below HR123.out HB.out)|(with_reducible refine Kd.C_alloc ?_ _)|(with_reducible refine Kd.C_drewN ?_ _)|(with_reducible refine Kd.C_drew ?_))))
           (case aB=>exact bH)
           (case aF=>exact YE)
           (case aO=>exact (rR HO122))
           (case aS=>exact YB)
           (case aL=>exact Ym)
           intro v125 w89 ho hb hg hat
           rw [← Ny124.out] at ho
           have n0_:=Aside0.mk (blk_grown (bB BK112) hg (Kd.R_ne HO122.out BK112.out (by decide)));have n1_:=Aside0.mk (blk_grown (bB BK113) hg (Kd.R_ne HO122.out BK113.out (by decide)));have n2_:=Aside0.mk (blk_grown (bB BK127) hg (Kd.R_ne HO122.out BK127.out (by decide)));have n3_:=Aside0.mk (hb);have n4_:=Aside0.mk (ho);clear BK112;clear BK113;clear BK127;clear HB;clear HO122;have BK112:=n0_;have BK113:=n1_;have BK127:=n2_;have HB:=n3_;have HO126:=n4_;clear n0_ n1_ n2_ n3_ n4_
           clear ho hb hg hat
           obtain ⟨Ao90,co90,eo90⟩:=Kd.R_slice HO126.out
           (first|subst eo90|(injection eo90 with f1_ f2_ f3_;have f4_:=f1_.symm;have f5_:=f3_.symm;clear f1_ f2_ f3_;subst f4_;subst f5_))
           refine hK.out _ _ ⟨(blk_cell BK112.out 0).trans rfl,(blk_cell BK112.out 1).trans rfl⟩ (fun hHeld=>?_)
           clear hK K
           refine nM (N:=some 34) ?_
           refine pU (i:=9) (N:=some 35) #[true,true,true,true,true,true,true,true,true,true,true,false] (any_of HT_.out (by kernel_rfl)) ?_
           exact norm_ Yi (hCont (v118,v121,.slice Ao90 y124.length co90,gb127) _ ⟨hHeld,(rR HO126),(bB BK112),(bB BK113),(bB BK127),GW127.out,GE127.out,NB112_127.out,NB127_112.out,NB113_127.out,NB127_113.out,bH⟩)
         rintro ⟨v118,v121,v125,gb127⟩ w91 ⟨hS_,h0_,h1_,h2_,h3_,h4_,h5_,h6_,h7_,h8_,h9_,h10_⟩
         have n0_:Aside0 (Kd.R Kd.string 9 w91 w.heap.size (fun _=>True) v125 y124):=⟨h0_⟩
         have n1_:Aside0 (w91.heap[gb112]? = some (.cells #[.slice A0_0 l0_0.length c0_0,.slice A0_1 l0_1.length c0_1] 26 (0,0))):=⟨h1_⟩
         have n2_:Aside0 (w91.heap[gb113]? = some (.cells #[.slice none 0 0,.slice none 0 0] 26 (0,0))):=⟨h2_⟩
         have n3_:Aside0 (w91.heap[gb127]? = some (.cells #[.slice none 0 0,.slice none 0 0] 26 (0,0))):=⟨h3_⟩
         have n4_:Aside0 (w.heap.size ≤ gb127):=⟨h4_⟩
         have n5_:Aside0 (w.heap.size ≤ gb127):=⟨h5_⟩
         have n6_:Aside0 (gb112 ≠ gb127):=⟨h6_⟩
         have n7_:Aside0 (gb127 ≠ gb112):=⟨h7_⟩
         have n8_:Aside0 (gb113 ≠ gb127):=⟨h8_⟩
         have n9_:Aside0 (gb127 ≠ gb113):=⟨h9_⟩
         have n10_:Aside0 (Below w.heap.size w w91):=⟨h10_⟩
         clear BK112
         clear BK113
         clear HB
         clear h0_ h1_ h2_ h3_ h4_ h5_ h6_ h7_ h8_ h9_ h10_
         have HO126:=n0_
         have BK112:=n1_
         have BK113:=n2_
         have BK127:=n3_
         have GW127:=n4_
         have GE127:=n5_
         have NB112_127:=n6_
         have NB127_112:=n7_
         have NB113_127:=n8_
         have NB127_113:=n9_
         have HB:=n10_
         clear n0_ n1_ n2_ n3_ n4_ n5_ n6_ n7_ n8_ n9_ n10_
         have hHeld:w91.cell? ⟨gb112,0,none⟩ = some (.slice A0_0 l0_0.length c0_0) ∧ w91.cell? ⟨gb112,1,none⟩ = some (.slice A0_1 l0_1.length c0_1):=hS_
         obtain ⟨Ao92,co92,eo92⟩:=Kd.R_slice HO126.out
         (first|subst eo92|(injection eo92 with f1_ f2_ f3_;have f4_:=f1_.symm;have f5_:=f3_.symm;clear f1_ f2_ f3_;subst f4_;subst f5_))
         refine norm_ (a':=?_) ?_ ?_
         rotate_left
         ·simp only [putAll,Act.put,List.setIfInBounds_toArray,List.set_cons_zero,List.set_cons_succ]
          rfl
         refine one_ (i:=11) (N:=none) #[true,true,true,true,true,true,true,true,true,true,true,true] rfl rfl (one_of HT_.out (by kernel_rfl)) (by decide) (fun K hK=>?_)
         have hs93:w91.cell? ⟨gb127,0,none⟩ = some (.slice none 0 0):=(blk_cell BK127.out 0).trans rfl
         have hfs93:=blk_frozen BK127.out 0
         have hns93_0:=NB112_127.out
         have hns93_1:=NB113_127.out
         have hms93_0:=NB127_112.out
         have hms93_1:=NB127_113.out
         have hs94:w91.cell? ⟨gb127,1,none⟩ = some (.slice none 0 0):=(blk_cell BK127.out 1).trans rfl
         have hfs94:=blk_frozen BK127.out 1
         have hns94_0:=NB112_127.out
         have hns94_1:=NB113_127.out
         have hms94_0:=NB127_112.out
         have hms94_1:=NB127_113.out
         refine skip_ (w1:=?_) (by rfl) rfl ?_ ?_
         rotate_left
         ·go_simp
          rfl
         refine hK.out _ _ ⟨((cell_far (p:=⟨gb127,_,none⟩) NB112_127.out _).trans (((cell_far (p:=⟨gb127,_,none⟩) NB112_127.out _).trans (hHeld.1)))),((cell_far (p:=⟨gb127,_,none⟩) NB112_127.out _).trans (((cell_far (p:=⟨gb127,_,none⟩) NB112_127.out _).trans (hHeld.2))))⟩ (fun hHeld=>?_)
         clear hK K
         refine done_ (done_of HT_.out (by kernel_rfl)) ?_
         have hnb95:=NB127_112.out
         have hnc95:=NB112_127.out
         have hnb96:=NB127_113.out
         have hnc96:=NB113_127.out
         have hcz97_0:w91.cell? ⟨gb127,0,none⟩ = some (.slice none 0 0):=(blk_cell BK127.out 0).trans rfl
         have hcz97_1:w91.cell? ⟨gb127,1,none⟩ = some (.slice none 0 0):=(blk_cell BK127.out 1).trans rfl
         have hfz97_0:=blk_frozen BK127.out 0
         have hfz97_1:=blk_frozen BK127.out 1
         have hnb98:=NB113_112.out
         have hnc98:=NB112_113.out
         have hcz99_0:w91.cell? ⟨gb113,0,none⟩ = some (.slice none 0 0):=(blk_cell BK113.out 0).trans rfl
         have hcz99_1:w91.cell? ⟨gb113,1,none⟩ = some (.slice none 0 0):=(blk_cell BK113.out 1).trans rfl
         have hfz99_0:=blk_frozen BK113.out 0
         have hfz99_1:=blk_frozen BK113.out 1
         try go_wp2
         refine bodyPost_ret (results_ct rfl _ _ gb113 26 #[.slice Ao92 y124.length co92,.slice none 0 0] (0,0) _ rfl (by (with_reducible repeat (first|refine blk_drewN ?_ _|refine blk_drew ?_|refine blk_alloc ?_ _));refine blk_put (cs:=#[.slice Ao92 y124.length co92,.slice none 0 0]) ?_ 1 _ rfl;(with_reducible repeat (first|refine blk_drewN ?_ _|refine blk_drew ?_|refine blk_alloc ?_ _));refine blk_put (cs:=#[.slice none 0 0,.slice none 0 0]) ?_ 0 _ rfl;(with_reducible repeat (first|refine blk_drewN ?_ _|refine blk_drew ?_|refine blk_alloc ?_ _));refine blk_far ?_ NB113_127.out _;(with_reducible repeat (first|refine blk_drewN ?_ _|refine blk_drew ?_|refine blk_alloc ?_ _));refine blk_far ?_ NB113_127.out _;(with_reducible repeat (first|refine blk_drewN ?_ _|refine blk_drew ?_|refine blk_alloc ?_ _));exact BK113.out) Try.underlying26 rfl (by kernel_rfl)) rfl ?_
         exact ⟨_,_,Yb,by (with_reducible repeat (first|apply Kd.R_alloc|apply Kd.R_drewN|apply Kd.R_drew));exact Kd.R_mono (Kd.R_far (p:=⟨gb113,1,none⟩) (Kd.R_far (p:=⟨gb113,0,none⟩) (Kd.R_far (p:=⟨gb127,1,none⟩) (Kd.R_far (p:=⟨gb127,0,none⟩) (Kd.R_types (Kd.R_types HO126.out BK127.out (by decide)) BK113.out (by decide)) (fun _ hk=>hk.1.2) (.slice Ao92 y124.length co92)) (fun _ hk=>hk.1.2) (.slice none 0 0)) (fun _ hk=>hk.2) (.slice Ao92 y124.length co92)) (fun _ hk=>hk.2) (.slice none 0 0)) (fun _ hk=>ZR),Yd,bH⟩
       ·rw [if_neg c29] at H
        exact absurd H (by simp)
      ·rw [if_neg c28] at H
       exact absurd H (by simp)
     ·rw [if_neg c27] at H
      exact absurd H (by simp)
    ·rw [if_neg c26] at H
     exact absurd H (by simp)

end Go.Proofs.Ytmgkflkfoccgkab.QFnDisk
