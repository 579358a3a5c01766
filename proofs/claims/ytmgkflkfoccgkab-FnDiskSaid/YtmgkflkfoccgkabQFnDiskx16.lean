-- Written by this session's own program (wip/x/xprint.py, over the kit's printer); Lean checks it.
import Derived.Test.YtmgkflkfoccgkabQFnDiskx0
import Derived.Test.YtmgkflkfoccgkabQFnDiskx2
import Derived.Test.YtmgkflkfoccgkabQFnDiskx6
import Derived.Test.YtmgkflkfoccgkabQFnDiskx7
import Derived.Test.YtmgkflkfoccgkabQFnDiskx8
namespace Go.Proofs.Ytmgkflkfoccgkab.QFnDisk
open Go.RowKit Go.Proofs.YtmgkflkfoccgkabW.PrintWords Go.Proofs.YtmgkflkfoccgkabW.PrintLast Go.Proofs.YtmgkflkfoccgkabW.PrintMore
attribute [local go_sem] max2_int min2_int max_two min_two max_three min_three max_four min_four   -- for this text's walks alone
set_option linter.unusedVariables false
set_option linter.unusedSimpArgs false

/-! ### spec_DrawMendDisk: function 21 -/
def spec_DrawMendDisk.f (k:Nat) (l0:List Int):Option (List ByteArray × List ByteArray):=(spec_l1Cur_disk.f k l0 0 0).bind fun bt503=>((spec_l1Cur_pick.f l0 bt503.2.2.1 bt503.2.2.2 (wrap64 ((bt503.2.1.length:Int) + 1))).bind fun bt512=>((spec_l1Cur_pick.f l0 bt512.2.1 bt512.2.2 17).bind fun bt515=>((spec_CrashDisk.f k bt503.1 bt503.2.1 bt512.1 bt515.1).bind fun bt518=>(if bt518.2.2 = true then ((spec_l1Cur_one.f l0 bt515.2.1 bt515.2.2 6).bind fun bt526=>(if bt526.1 = true then (some (bt503.1,bt503.2.1)) else (some (bt518.1,bt518.2.1)))) else (some (bt503.1,bt503.2.1))))))
theorem spec_DrawMendDisk.mono:∀ a0 k,LeO (spec_DrawMendDisk.f k a0) (spec_DrawMendDisk.f (k + 1) a0):=by
 intro a0 k
 unfold spec_DrawMendDisk.f
 have m0:=@spec_CrashDisk.mono
 have m1:=@spec_l1Cur_disk.mono
 exact mO
def spec_DrawMendDisk.T3:Bool × List (List Nat × List Nat):=(true,[([],[]),([],[]),([],[]),([2],[2]),([3],[3]),([4],[4]),([1,5],[1,5]),([],[]),([7,6],[7]),([0,6,8,8],[0,6,8]),([9],[9]),([10],[10]),([10],[10]),([],[]),([13,11,9,0,1,2,3,4,5,6,7,8,9,10,11,13],[11,13]),([12,14,0,1,2,3,4,5,6,7,8,9,10,11,12,13,14],[12])])
def spec_DrawMendDisk.B3:List Nat:=[0,0,0,4,12,28,62,0,254,511,1023,2047,2047,0,12287,32767]
theorem spec_DrawMendDisk.tab3:rtab .any (opsOf Try.f21 3) = spec_DrawMendDisk.T3:=by kernel_rfl
theorem spec_DrawMendDisk.bits3:waitsOk spec_DrawMendDisk.T3.2 spec_DrawMendDisk.B3 = true:=by kernel_rfl
set_option maxHeartbeats 8000000 in
set_option maxRecDepth 100000 in
theorem spec_DrawMendDisk.calls (k:Nat) (A0:Option Addr) (c0:Nat) (l0:List Int) (r1:List ByteArray) (r2:List ByteArray) (w:World) (hr0:Kd.C (Kd.int .u8) w A0 l0.length l0) (hc0:l0.length ≤ c0) (h:spec_DrawMendDisk.f k l0 = some (r1,r2)) :
  Calls Try.prog 21 #[.slice A0 l0.length c0] w fun e w'=>∃ v0_ v1_:Value,e = .returned (.agg #[v0_,v1_]) ∧ Kd.R Kd.string 9 w' w.heap.size (fun k_=>some k_ ≠ (v1_:Value).ownBlock) v0_ r1 ∧ Kd.R Kd.string 9 w' w.heap.size (fun k_=>some k_ ≠ (v0_:Value).ownBlock) v1_ r2 ∧ Below w.heap.size w w':=by
 have hu26:=Try.underlying26
 have hu57:=Try.underlying57
 have HR0:=Aside0.mk hr0
 have HC0:=Aside0.mk hc0
 clear hr0 hc0
 have HB:=Aside0.mk (Below.refl w.heap.size w)
 have H:((spec_l1Cur_disk.f k l0 0 0).bind fun bt503=>((spec_l1Cur_pick.f l0 bt503.2.2.1 bt503.2.2.2 (wrap64 ((bt503.2.1.length:Int) + 1))).bind fun bt512=>((spec_l1Cur_pick.f l0 bt512.2.1 bt512.2.2 17).bind fun bt515=>((spec_CrashDisk.f k bt503.1 bt503.2.1 bt512.1 bt515.1).bind fun bt518=>(if bt518.2.2 = true then ((spec_l1Cur_one.f l0 bt515.2.1 bt515.2.2 6).bind fun bt526=>(if bt526.1 = true then (some (bt503.1,bt503.2.1)) else (some (bt518.1,bt518.2.1)))) else (some (bt503.1,bt503.2.1))))))) = some (r1,r2):=h
 clear h
 replace H:=Option.bind_eq_some_iff.mp H
 obtain ⟨⟨t503,t506,t509,t510⟩,A20,H⟩:=H
 replace H:((spec_l1Cur_pick.f l0 t509 t510 (wrap64 ((t506.length:Int) + 1))).bind fun bt512=>((spec_l1Cur_pick.f l0 bt512.2.1 bt512.2.2 17).bind fun bt515=>((spec_CrashDisk.f k t503 t506 bt512.1 bt515.1).bind fun bt518=>(if bt518.2.2 = true then ((spec_l1Cur_one.f l0 bt515.2.1 bt515.2.2 6).bind fun bt526=>(if bt526.1 = true then (some (t503,t506)) else (some (bt518.1,bt518.2.1)))) else (some (t503,t506)))))) = some (r1,r2):=H
 have A2:=Aside0.mk A20
 clear A20
 replace H:=Option.bind_eq_some_iff.mp H
 obtain ⟨⟨t512,t513,t514⟩,A30,H⟩:=H
 replace H:((spec_l1Cur_pick.f l0 t513 t514 17).bind fun bt515=>((spec_CrashDisk.f k t503 t506 t512 bt515.1).bind fun bt518=>(if bt518.2.2 = true then ((spec_l1Cur_one.f l0 bt515.2.1 bt515.2.2 6).bind fun bt526=>(if bt526.1 = true then (some (t503,t506)) else (some (bt518.1,bt518.2.1)))) else (some (t503,t506))))) = some (r1,r2):=H
 have A3:=Aside0.mk A30
 clear A30
 replace H:=Option.bind_eq_some_iff.mp H
 obtain ⟨⟨t515,t516,t517⟩,A40,H⟩:=H
 replace H:((spec_CrashDisk.f k t503 t506 t512 t515).bind fun bt518=>(if bt518.2.2 = true then ((spec_l1Cur_one.f l0 t516 t517 6).bind fun bt526=>(if bt526.1 = true then (some (t503,t506)) else (some (bt518.1,bt518.2.1)))) else (some (t503,t506)))) = some (r1,r2):=H
 have A4:=Aside0.mk A40
 clear A40
 replace H:=Option.bind_eq_some_iff.mp H
 obtain ⟨⟨t518,t521,t524⟩,A50,H⟩:=H
 replace H:(if t524 = true then ((spec_l1Cur_one.f l0 t516 t517 6).bind fun bt526=>(if bt526.1 = true then (some (t503,t506)) else (some (t518,t521)))) else (some (t503,t506))) = some (r1,r2):=H
 have A5:=Aside0.mk A50
 clear A50
 have HLATE:=Aside0.mk H
 clear H
 go_enter Try.func21,Try.ntmps21
 try go_wp2_with (first|((with_reducible refine gate_dst (N:=2) rfl ?_);refine box_event ?hg (N:=2) ?hd (cs:=#[.slice none 0 0,.slice none 0 0]) (t:=26) ?hr ?_;(case hd=>rfl);(case hg=>rfl);(case hr=>exact Yg);intro gb501 hg w9 hbox hb;have BK501:=Aside0.mk (hbox);have GW501:=Aside0.mk ((hZ:w.heap.size ≤ gb501));have GE501:=Aside0.mk ((hZ:w.heap.size ≤ gb501));replace HB:=Aside0.mk (below_step bH hb);clear hb hbox hg)|((with_reducible refine gate_dst (N:=9) rfl ?_);refine box_event ?hg (N:=9) ?hd (cs:=#[.slice A0 l0.length c0,.int .i64 0,.int .u64 0]) (t:=57) ?hr ?_;(case hd=>rfl);(case hg=>rfl);(case hr=>exact Yg);intro gb502 hg w10 hbox hb;have BK502:=Aside0.mk (hbox);have GW502:=Aside0.mk ((hZ:w.heap.size ≤ gb502));have GE502:=Aside0.mk ((hZ:w.heap.size ≤ gb502));replace HB:=Aside0.mk (below_step bH hb);have NB501_502:=Aside0.mk ((nL BK501:gb501 ≠ gb502));have NB502_501:=Aside0.mk ((nG BK501:gb502 ≠ gb501));replace BK501:=Aside0.mk (blk_below (bB BK501) hb);clear hb hbox hg;have HI502:=Aside0.mk (show IsS57 w w10 gb502 l0 0 0 from ⟨_,_,BK502.out,GW502.out,HR0.out⟩);clear BK502)|((with_reducible refine gate_callee (f:=42) rfl ?_);refine goesL_ (some 11) rfl rfl Try.func42 (by kernel_rfl) rfl #[.pointer (some ⟨gb502,0,none⟩)] rfl Ya ?_;(with_reducible refine (spec_l1Cur_disk.calls k gb502 l0 0 0 t503 t506 t509 t510 w _ ?side1 ?side2 A2.out).mono ?_);(case side1=>exact Ze);(case side2=>exact bH);rintro e w11 ⟨v504,v507,rfl,ho0,ho1,hi,hb,hk⟩;refine ⟨_,rfl,?_⟩;replace BK501:=Aside0.mk (KeepBut.blk hk (g':=gb501) (o:=.cells #[.slice none 0 0,.slice none 0 0] 26 (0,0)) (bB BK501) NB501_502.out (by simp));have HO505:=Aside0.mk (Kd.R_lower ho0 (below_size bH));have HO508:=Aside0.mk (Kd.R_lower ho1 (below_size bH));replace HB:=Aside0.mk (hb);replace HI502:=Aside0.mk (hi);(try clear hb);(try clear hb2);(try clear hk);(try clear hi);(try clear ho0);(try clear ho1))|((with_reducible refine gate_dst (N:=4) rfl ?_);refine box_event ?hg (N:=4) ?hd (cs:=#[.slice none 0 0,.slice none 0 0]) (t:=26) ?hr ?_;(case hd=>rfl);(case hg=>rfl);(case hr=>exact Yg);intro gb511 hg w12 hbox hb;replace HO505:=Aside0.mk (Kd.R_below (rR HO505) hb);replace HO508:=Aside0.mk (Kd.R_below (rR HO508) hb);have BK511:=Aside0.mk (hbox);have GW511:=Aside0.mk ((by rw [hg];exact (below_size bH):w.heap.size ≤ gb511));have GE511:=Aside0.mk ((by rw [hg];exact (below_size bH):w.heap.size ≤ gb511));replace HB:=Aside0.mk (below_step bH hb);have NB501_511:=Aside0.mk ((nL BK501:gb501 ≠ gb511));have NB511_501:=Aside0.mk ((nG BK501:gb511 ≠ gb501));replace BK501:=Aside0.mk (blk_below (bB BK501) hb);have NB502_511:=Aside0.mk ((by rw [hg];exact Nat.ne_of_lt (IsS57.lt (show IsS57 w _ gb502 l0 t509 t510 from Ze)):gb502 ≠ gb511));have NB511_502:=Aside0.mk ((by rw [hg];exact Nat.ne_of_gt (IsS57.lt (show IsS57 w _ gb502 l0 t509 t510 from Ze)):gb511 ≠ gb502));replace HI502:=Aside0.mk (IsS57.below Ze hb);clear hb hbox hg;obtain ⟨Ao13,co13,eo13⟩:=Kd.R_slice HO505.out;subst eo13;have hnb14:=NB511_501.out;have hnc14:=NB501_511.out;have hnb15:=NB511_502.out;have hnc15:=NB502_511.out;have hcz16_0:w12.cell? ⟨gb511,0,none⟩ = some (.slice none 0 0):=(blk_cell BK511.out 0).trans rfl;have hcz16_1:w12.cell? ⟨gb511,1,none⟩ = some (.slice none 0 0):=(blk_cell BK511.out 1).trans rfl;have hfz16_0:=blk_frozen BK511.out 0;have hfz16_1:=blk_frozen BK511.out 1;obtain ⟨Ao17,co17,eo17⟩:=Kd.R_slice HO508.out;subst eo17))
 have n0_:Aside0 (Kd.R Kd.string 9 ((w12.setCell ⟨gb511,0,none⟩ (.slice Ao13 t503.length co13)).setCell ⟨gb511,1,none⟩ (.slice Ao17 t506.length co17)) w.heap.size (fun k_=>some k_ ≠ (.slice Ao17 t506.length co17:Value).ownBlock) (.slice Ao13 t503.length co13) t503):=⟨by (with_reducible repeat (first|apply Kd.R_alloc|apply Kd.R_drewN|apply Kd.R_drew));exact Kd.R_mono (Kd.R_far (p:=⟨gb511,1,none⟩) (Kd.R_far (p:=⟨gb511,0,none⟩) (Kd.R_types HO505.out BK511.out (by decide)) (fun _ hk=>hk.2) (.slice Ao13 t503.length co13)) (fun _ hk=>hk.2) (.slice Ao17 t506.length co17)) (fun _ hk=>hk.1)⟩
 have n1_:Aside0 (Kd.R Kd.string 9 ((w12.setCell ⟨gb511,0,none⟩ (.slice Ao13 t503.length co13)).setCell ⟨gb511,1,none⟩ (.slice Ao17 t506.length co17)) w.heap.size (fun k_=>some k_ ≠ (.slice Ao13 t503.length co13:Value).ownBlock) (.slice Ao17 t506.length co17) t506):=⟨by (with_reducible repeat (first|apply Kd.R_alloc|apply Kd.R_drewN|apply Kd.R_drew));exact Kd.R_mono (Kd.R_far (p:=⟨gb511,1,none⟩) (Kd.R_far (p:=⟨gb511,0,none⟩) (Kd.R_types HO508.out BK511.out (by decide)) (fun _ hk=>hk.2) (.slice Ao13 t503.length co13)) (fun _ hk=>hk.2) (.slice Ao17 t506.length co17)) (fun _ hk=>hk.1)⟩
 have n2_:Aside0 (((w12.setCell ⟨gb511,0,none⟩ (.slice Ao13 t503.length co13)).setCell ⟨gb511,1,none⟩ (.slice Ao17 t506.length co17)).heap[gb501]? = some (.cells #[.slice none 0 0,.slice none 0 0] 26 (0,0))):=⟨by (with_reducible repeat (first|refine blk_drewN ?_ _|refine blk_drew ?_|refine blk_alloc ?_ _));refine blk_far ?_ NB501_511.out _;(with_reducible repeat (first|refine blk_drewN ?_ _|refine blk_drew ?_|refine blk_alloc ?_ _));refine blk_far ?_ NB501_511.out _;(with_reducible repeat (first|refine blk_drewN ?_ _|refine blk_drew ?_|refine blk_alloc ?_ _));exact BK501.out⟩
 have n3_:Aside0 (((w12.setCell ⟨gb511,0,none⟩ (.slice Ao13 t503.length co13)).setCell ⟨gb511,1,none⟩ (.slice Ao17 t506.length co17)).heap[gb511]? = some (.cells #[.slice Ao13 t503.length co13,.slice Ao17 t506.length co17] 26 (0,0))):=⟨by (with_reducible repeat (first|refine blk_drewN ?_ _|refine blk_drew ?_|refine blk_alloc ?_ _));refine blk_put (cs:=#[.slice Ao13 t503.length co13,.slice none 0 0]) ?_ 1 _ rfl;(with_reducible repeat (first|refine blk_drewN ?_ _|refine blk_drew ?_|refine blk_alloc ?_ _));refine blk_put (cs:=#[.slice none 0 0,.slice none 0 0]) ?_ 0 _ rfl;(with_reducible repeat (first|refine blk_drewN ?_ _|refine blk_drew ?_|refine blk_alloc ?_ _));exact BK511.out⟩
 have n4_:Aside0 (IsS57 w ((w12.setCell ⟨gb511,0,none⟩ (.slice Ao13 t503.length co13)).setCell ⟨gb511,1,none⟩ (.slice Ao17 t506.length co17)) gb502 l0 t509 t510):=⟨Yf⟩
 have n5_:Aside0 (Below w.heap.size w ((w12.setCell ⟨gb511,0,none⟩ (.slice Ao13 t503.length co13)).setCell ⟨gb511,1,none⟩ (.slice Ao17 t506.length co17))):=⟨bH⟩
 (try clear HO505)
 (try clear HO508)
 (try clear BK501)
 (try clear BK511)
 (try clear HI502)
 (try clear HB)
 generalize ((w12.setCell ⟨gb511,0,none⟩ (.slice Ao13 t503.length co13)).setCell ⟨gb511,1,none⟩ (.slice Ao17 t506.length co17)) = w18 at n0_ n1_ n2_ n3_ n4_ n5_ ⊢
 have HO505:=n0_
 have HO508:=n1_
 have BK501:=n2_
 have BK511:=n3_
 have HI502:=n4_
 have HB:=n5_
 clear n0_ n1_ n2_ n3_ n4_ n5_
 replace HO505:=Aside0.mk (Kd.R_drew HO505.out);replace HO508:=Aside0.mk (Kd.R_drew HO508.out);replace BK501:=Aside0.mk (blk_drew BK501.out);replace BK511:=Aside0.mk (blk_drew BK511.out);replace HI502:=Aside0.mk (IsS57.drew HI502.out);replace HB:=Aside0.mk (below_drew1 HB.out)
 refine start_ (n:=16) (S:=fun w'=>w'.cell? ⟨gb511,0,none⟩ = some (.slice Ao13 t503.length co13) ∧ w'.cell? ⟨gb511,1,none⟩ = some (.slice Ao17 t506.length co17)) (ds:=[]) #[false,false,false,false,false,false,false,false,false,false,false,false,false,false,false,false] (by kernel_rfl) rfl rfl ⟨(blk_cell BK511.out 0).trans rfl,(blk_cell BK511.out 1).trans rfl⟩ (fun hHeld=>?_);refine with_tabW spec_DrawMendDisk.tab3 spec_DrawMendDisk.bits3 (fun HT_ HW_=>?_)
 generalize w18.drew = w19 at HO505 HO508 BK501 BK511 HI502 HB hHeld ⊢
 refine pU (i:=1) (N:=some 14) #[false,true,false,false,false,false,false,false,false,false,false,false,false,false,false,false] (any_of HT_.out (by kernel_rfl)) ?_
 refine pU (i:=2) (N:=some 15) #[false,true,true,false,false,false,false,false,false,false,false,false,false,false,false,false] (any_of HT_.out (by kernel_rfl)) ?_
 refine pU (i:=7) (N:=some 20) #[false,true,true,false,false,false,false,true,false,false,false,false,false,false,false,false] (any_of HT_.out (by kernel_rfl)) ?_
 refine take_ (i:=0) (N:=some 13) (v:=?_) (a':=?_) #[true,true,true,false,false,false,false,true,false,false,false,false,false,false,false,false] rfl rfl (take_ofW HT_.out HW_.out (by kernel_rfl)) (fun _ _ _ h=>h) (Or.inl ⟨by rfl,?_⟩) hHeld ?_ ?_
 rotate_left
 ·rintro w' ⟨s0,s1⟩
  go_simp
  with_reducible rfl
 rotate_left
 ·simp only [Act.put,List.setIfInBounds_toArray,List.set_cons_zero,List.set_cons_succ,i64_w,i32_w]
  rfl
 refine take_ (i:=3) (N:=some 16) (v:=?_) (a':=?_) #[true,true,true,true,false,false,false,true,false,false,false,false,false,false,false,false] rfl rfl (take_ofW HT_.out HW_.out (by kernel_rfl)) (fun _ _ _ h=>h) (Or.inl ⟨by rfl,?_⟩) hHeld ?_ ?_
 rotate_left
 ·rintro w' ⟨s0,s1⟩
  go_simp
  with_reducible rfl
 rotate_left
 ·simp only [Act.put,List.setIfInBounds_toArray,List.set_cons_zero,List.set_cons_succ,i64_w,i32_w]
  rfl
 refine pU (i:=4) (N:=some 17) #[true,true,true,true,true,false,false,true,false,false,false,false,false,false,false,false] (any_of HT_.out (by kernel_rfl)) ?_
 refine pU (i:=5) (N:=some 18) #[true,true,true,true,true,true,false,true,false,false,false,false,false,false,false,false] (any_of HT_.out (by kernel_rfl)) ?_
 refine join_ (σ:=Value × Value × Nat) 2 #[true,true,true,true,true,true,true,true,true,true,true,true,true,true,false,false] (fun s_=>[(19,.int .i64 t512),(21,.int .i64 t515),(22,.tuple #[.agg #[s_.1,s_.2.1],.bool t524]),(5,.pointer (some ⟨s_.2.2,0,none⟩)),(12,.tuple #[.agg #[s_.1,s_.2.1],.bool t524]),(23,.agg #[s_.1,s_.2.1]),(24,.bool t524)]) (fun s_ w'=>(w'.cell? ⟨gb511,0,none⟩ = some (.slice Ao13 t503.length co13) ∧ w'.cell? ⟨gb511,1,none⟩ = some (.slice Ao17 t506.length co17)) ∧ (Kd.R Kd.string 9 w' w.heap.size (fun k_=>some k_ ≠ (.slice Ao17 t506.length co17:Value).ownBlock ∧ some k_ ≠ (s_.1:Value).ownBlock ∧ some k_ ≠ (s_.2.1:Value).ownBlock) (.slice Ao13 t503.length co13) t503) ∧ (Kd.R Kd.string 9 w' w.heap.size (fun k_=>some k_ ≠ (.slice Ao13 t503.length co13:Value).ownBlock ∧ some k_ ≠ (s_.1:Value).ownBlock ∧ some k_ ≠ (s_.2.1:Value).ownBlock) (.slice Ao17 t506.length co17) t506) ∧ (Kd.R Kd.string 9 w' w.heap.size (fun k_=>some k_ ≠ (.slice Ao13 t503.length co13:Value).ownBlock ∧ some k_ ≠ (.slice Ao17 t506.length co17:Value).ownBlock ∧ some k_ ≠ (s_.2.1:Value).ownBlock) s_.1 t518) ∧ (Kd.R Kd.string 9 w' w.heap.size (fun k_=>some k_ ≠ (.slice Ao13 t503.length co13:Value).ownBlock ∧ some k_ ≠ (.slice Ao17 t506.length co17:Value).ownBlock ∧ some k_ ≠ (s_.1:Value).ownBlock) s_.2.1 t521) ∧ (w'.heap[gb501]? = some (.cells #[.slice none 0 0,.slice none 0 0] 26 (0,0))) ∧ (w'.heap[gb511]? = some (.cells #[.slice Ao13 t503.length co13,.slice Ao17 t506.length co17] 26 (0,0))) ∧ (w'.heap[s_.2.2]? = some (.cells #[.slice none 0 0,.slice none 0 0] 26 (0,0))) ∧ (w.heap.size ≤ s_.2.2) ∧ (w.heap.size ≤ s_.2.2) ∧ (gb502 ≠ s_.2.2) ∧ (s_.2.2 ≠ gb502) ∧ (gb501 ≠ s_.2.2) ∧ (s_.2.2 ≠ gb501) ∧ (gb511 ≠ s_.2.2) ∧ (s_.2.2 ≠ gb511) ∧ (IsS57 w w' gb502 l0 t516 t517) ∧ (Below w.heap.size w w')) ?_ ?_
 rotate_left
 ·intro hCont
  refine two_ (i:=6) (j:=13) (Ni:=some 19) (Nj:=some 5) #[true,true,true,true,true,true,true,true,false,false,false,false,false,false,false,false] #[true,true,true,true,true,true,false,true,false,false,false,false,false,true,false,false] rfl rfl rfl rfl (two_of HT_.out (by kernel_rfl)) (by decide) (by decide) (fun K hK=>?_) (fun K hK=>?_)
  ·skip
   refine goes_ Try.func43 (by kernel_rfl) rfl #[.pointer (some ⟨gb502,0,none⟩),.int .i64 (wrap64 ((t506.length:Int) + 1))] (by rfl) rfl rfl Ya ?_
   with_reducible refine (spec_l1Cur_pick.calls gb502 l0 t509 t510 (wrap64 ((t506.length:Int) + 1)) t512 t513 t514 w _ ?side1 ?side2 A3.out).mono ?_
   (case side1=>exact Yf)
   (case side2=>exact bH)
   rintro e w20 ⟨rfl,hi,hb,hk⟩
   refine ⟨_,rfl,?_⟩
   replace BK501:=Aside0.mk (KeepBut.blk hk (g':=gb501) (o:=.cells #[.slice none 0 0,.slice none 0 0] 26 (0,0)) (bB BK501) NB501_502.out (by simp));replace HO505:=Aside0.mk (Kd.R_mono (Kd.R_keep (IsS57.apart (show IsS57 w _ gb502 l0 t509 t510 from Yf) (rR HO505) (by decide)) hk (fun _ h=>h.2)) (fun _ h=>h.1));replace HO508:=Aside0.mk (Kd.R_mono (Kd.R_keep (IsS57.apart (show IsS57 w _ gb502 l0 t509 t510 from Yf) (rR HO508) (by decide)) hk (fun _ h=>h.2)) (fun _ h=>h.1));replace BK511:=Aside0.mk (KeepBut.blk hk (g':=gb511) (o:=.cells #[.slice Ao13 t503.length co13,.slice Ao17 t506.length co17] 26 (0,0)) (bB BK511) NB511_502.out (by simp));replace HB:=Aside0.mk (hb);replace HI502:=Aside0.mk (hi)
   (try clear hb)
   (try clear hb2)
   (try clear hk)
   (try clear hi)
   refine hK.out _ _ ⟨(blk_cell BK511.out 0).trans rfl,(blk_cell BK511.out 1).trans rfl⟩ (fun hHeld=>?_)
   clear hK K
   refine nM (N:=some 19) ?_
   refine two_ (i:=8) (j:=13) (Ni:=some 21) (Nj:=some 5) #[true,true,true,true,true,true,true,true,true,false,false,false,false,false,false,false] #[true,true,true,true,true,true,true,true,false,false,false,false,false,true,false,false] rfl rfl rfl rfl (two_of HT_.out (by kernel_rfl)) (by decide) (by decide) (fun K hK=>?_) (fun K hK=>?_)
   ·skip
    refine goes_ Try.func43 (by kernel_rfl) rfl #[.pointer (some ⟨gb502,0,none⟩),.int .i64 17] (by rfl) rfl rfl Ya ?_
    with_reducible refine (spec_l1Cur_pick.calls gb502 l0 t513 t514 17 t515 t516 t517 w _ ?side1 ?side2 A4.out).mono ?_
    (case side1=>exact Yf)
    (case side2=>exact bH)
    rintro e w21 ⟨rfl,hi,hb,hk⟩
    refine ⟨_,rfl,?_⟩
    replace BK501:=Aside0.mk (KeepBut.blk hk (g':=gb501) (o:=.cells #[.slice none 0 0,.slice none 0 0] 26 (0,0)) (bB BK501) NB501_502.out (by simp));replace HO505:=Aside0.mk (Kd.R_mono (Kd.R_keep (IsS57.apart (show IsS57 w _ gb502 l0 t513 t514 from Yf) (rR HO505) (by decide)) hk (fun _ h=>h.2)) (fun _ h=>h.1));replace HO508:=Aside0.mk (Kd.R_mono (Kd.R_keep (IsS57.apart (show IsS57 w _ gb502 l0 t513 t514 from Yf) (rR HO508) (by decide)) hk (fun _ h=>h.2)) (fun _ h=>h.1));replace BK511:=Aside0.mk (KeepBut.blk hk (g':=gb511) (o:=.cells #[.slice Ao13 t503.length co13,.slice Ao17 t506.length co17] 26 (0,0)) (bB BK511) NB511_502.out (by simp));replace HB:=Aside0.mk (hb);replace HI502:=Aside0.mk (hi)
    (try clear hb)
    (try clear hb2)
    (try clear hk)
    (try clear hi)
    refine hK.out _ _ ⟨(blk_cell BK511.out 0).trans rfl,(blk_cell BK511.out 1).trans rfl⟩ (fun hHeld=>?_)
    clear hK K
    refine nM (N:=some 21) ?_
    refine two_ (i:=9) (j:=13) (Ni:=some 22) (Nj:=some 5) #[true,true,true,true,true,true,true,true,true,true,false,false,false,false,false,false] #[true,true,true,true,true,true,true,true,true,false,false,false,false,true,false,false] rfl rfl rfl rfl (two_of HT_.out (by kernel_rfl)) (by decide) (by decide) (fun K hK=>?_) (fun K hK=>?_)
    ·skip
     refine goes_ Try.func9 (by kernel_rfl) rfl #[.agg #[.slice Ao13 t503.length co13,.slice Ao17 t506.length co17],.int .i64 t512,.int .i64 t515] (by rfl) rfl rfl Ya ?_
     with_reducible refine (spec_CrashDisk.calls k _ _ t503 _ _ t506 t512 t515 t518 t521 t524 _ ?side1 ?side2 ?side3 ?side4 A5.out).mono ?_
     (case side1=>repeat (first|exact (Kd.R_reads' HO505.out).2.2|(with_reducible refine Kd.C_alloc ?_ _)|(with_reducible refine Kd.C_drewN ?_ _)|(with_reducible refine Kd.C_drew ?_)))
     (case side2=>exact (Kd.R_reads' HO505.out).2.1)
     (case side3=>repeat (first|exact (Kd.R_reads' HO508.out).2.2|(with_reducible refine Kd.C_alloc ?_ _)|(with_reducible refine Kd.C_drewN ?_ _)|(with_reducible refine Kd.C_drew ?_)))
     (case side4=>exact (Kd.R_reads' HO508.out).2.1)
     rintro e w22 ⟨v519,v522,rfl,ho0,ho1,hb⟩
     refine ⟨_,rfl,?_⟩
     have HO520:=Aside0.mk (Kd.R_lower (Kd.R_new' (Kd.R_new' ho0 (Kd.R_lt (rR HO505))) (Kd.R_lt (rR HO508))) (below_size bH));have HO523:=Aside0.mk (Kd.R_lower (Kd.R_new' (Kd.R_new' ho1 (Kd.R_lt (rR HO505))) (Kd.R_lt (rR HO508))) (below_size bH));replace HO505:=Aside0.mk (Kd.R_mono (Kd.R_told (Kd.R_told (Kd.R_old (rR HO505) hb) (Kd.R_base ho0)) (Kd.R_base ho1)) (fun _ h_=>h_.1));replace HO508:=Aside0.mk (Kd.R_mono (Kd.R_told (Kd.R_told (Kd.R_old (rR HO508) hb) (Kd.R_base ho0)) (Kd.R_base ho1)) (fun _ h_=>h_.1));replace BK501:=Aside0.mk (blk_below (bB BK501) hb);replace BK511:=Aside0.mk (blk_below (bB BK511) hb);replace HB:=Aside0.mk (below_step bH hb);replace HI502:=Aside0.mk (IsS57.below Yf hb)
     (try clear hb)
     (try clear hb2)
     (try clear hk)
     (try clear hi)
     (try clear ho0)
     (try clear ho1)
     refine hK.out _ _ ⟨(blk_cell BK511.out 0).trans rfl,(blk_cell BK511.out 1).trans rfl⟩ (fun hHeld=>?_)
     clear hK K
     refine nM (N:=some 22) ?_
     refine pU (i:=10) (N:=some 12) #[true,true,true,true,true,true,true,true,true,true,true,false,false,false,false,false] (any_of HT_.out (by kernel_rfl)) ?_
     refine pU (i:=11) (N:=some 23) #[true,true,true,true,true,true,true,true,true,true,true,true,false,false,false,false] (any_of HT_.out (by kernel_rfl)) ?_
     refine pU (i:=12) (N:=some 24) #[true,true,true,true,true,true,true,true,true,true,true,true,true,false,false,false] (any_of HT_.out (by kernel_rfl)) ?_
     refine one_ (i:=13) (N:=some 5) #[true,true,true,true,true,true,true,true,true,true,true,true,true,true,false,false] rfl rfl (one_of HT_.out (by kernel_rfl)) (by decide) (fun K hK=>?_)
     refine box_step ?hg (N:=5) ?hd (cs:=#[.slice none 0 0,.slice none 0 0]) (t:=26) ?hr ?_;(case hd=>rfl);(case hg=>rfl);(case hr=>exact Yg)
     intro gb525 hg w23 hbox hb
     replace HO505:=Aside0.mk (Kd.R_below (rR HO505) hb);replace HO508:=Aside0.mk (Kd.R_below (rR HO508) hb);replace HO520:=Aside0.mk (Kd.R_below (rR HO520) hb);replace HO523:=Aside0.mk (Kd.R_below (rR HO523) hb);have BK525:=Aside0.mk (hbox);have GW525:=Aside0.mk ((by rw [hg];exact (below_size bH):w.heap.size ≤ gb525));have GE525:=Aside0.mk ((by rw [hg];exact (below_size bH):w.heap.size ≤ gb525));replace HB:=Aside0.mk (below_step bH hb);have NB501_525:=Aside0.mk ((nL BK501:gb501 ≠ gb525));have NB525_501:=Aside0.mk ((nG BK501:gb525 ≠ gb501));replace BK501:=Aside0.mk (blk_below (bB BK501) hb);have NB511_525:=Aside0.mk ((nL BK511:gb511 ≠ gb525));have NB525_511:=Aside0.mk ((nG BK511:gb525 ≠ gb511));replace BK511:=Aside0.mk (blk_below (bB BK511) hb);have NB502_525:=Aside0.mk ((by rw [hg];exact Nat.ne_of_lt (IsS57.lt (show IsS57 w _ gb502 l0 t516 t517 from Yf)):gb502 ≠ gb525));have NB525_502:=Aside0.mk ((by rw [hg];exact Nat.ne_of_gt (IsS57.lt (show IsS57 w _ gb502 l0 t516 t517 from Yf)):gb525 ≠ gb502));replace HI502:=Aside0.mk (IsS57.below Yf hb)
     clear hb hbox hg
     refine hK.out _ _ ⟨(blk_cell BK511.out 0).trans rfl,(blk_cell BK511.out 1).trans rfl⟩ (fun hHeld=>?_)
     clear hK K
     refine nM (N:=some 5) ?_
     exact norm_ Yi (hCont (v519,v522,gb525) _ ⟨hHeld,YL,YK,YJ,YI,(bB BK501),(bB BK511),(bB BK525),GW525.out,GE525.out,NB502_525.out,NB525_502.out,NB501_525.out,NB525_501.out,NB511_525.out,NB525_511.out,Yc,bH⟩)
    ·skip
     refine box_step ?hg (N:=5) ?hd (cs:=#[.slice none 0 0,.slice none 0 0]) (t:=26) ?hr ?_;(case hd=>rfl);(case hg=>rfl);(case hr=>exact Yg)
     intro gb525 hg w22 hbox hb
     replace HO505:=Aside0.mk (Kd.R_below (rR HO505) hb);replace HO508:=Aside0.mk (Kd.R_below (rR HO508) hb);have BK525:=Aside0.mk (hbox);have GW525:=Aside0.mk ((by rw [hg];exact (below_size bH):w.heap.size ≤ gb525));have GE525:=Aside0.mk ((by rw [hg];exact (below_size bH):w.heap.size ≤ gb525));replace HB:=Aside0.mk (below_step bH hb);have NB501_525:=Aside0.mk ((nL BK501:gb501 ≠ gb525));have NB525_501:=Aside0.mk ((nG BK501:gb525 ≠ gb501));replace BK501:=Aside0.mk (blk_below (bB BK501) hb);have NB511_525:=Aside0.mk ((nL BK511:gb511 ≠ gb525));have NB525_511:=Aside0.mk ((nG BK511:gb525 ≠ gb511));replace BK511:=Aside0.mk (blk_below (bB BK511) hb);have NB502_525:=Aside0.mk ((by rw [hg];exact Nat.ne_of_lt (IsS57.lt (show IsS57 w _ gb502 l0 t516 t517 from Yf)):gb502 ≠ gb525));have NB525_502:=Aside0.mk ((by rw [hg];exact Nat.ne_of_gt (IsS57.lt (show IsS57 w _ gb502 l0 t516 t517 from Yf)):gb525 ≠ gb502));replace HI502:=Aside0.mk (IsS57.below Yf hb)
     clear hb hbox hg
     refine hK.out _ _ ⟨(blk_cell BK511.out 0).trans rfl,(blk_cell BK511.out 1).trans rfl⟩ (fun hHeld=>?_)
     clear hK K
     refine nM (N:=some 5) ?_
     refine one_ (i:=9) (N:=some 22) #[true,true,true,true,true,true,true,true,true,true,false,false,false,true,false,false] rfl rfl (one_of HT_.out (by kernel_rfl)) (by decide) (fun K hK=>?_)
     refine goes_ Try.func9 (by kernel_rfl) rfl #[.agg #[.slice Ao13 t503.length co13,.slice Ao17 t506.length co17],.int .i64 t512,.int .i64 t515] (by rfl) rfl rfl Ya ?_
     with_reducible refine (spec_CrashDisk.calls k _ _ t503 _ _ t506 t512 t515 t518 t521 t524 _ ?side1 ?side2 ?side3 ?side4 A5.out).mono ?_
     (case side1=>repeat (first|exact (Kd.R_reads' HO505.out).2.2|(with_reducible refine Kd.C_alloc ?_ _)|(with_reducible refine Kd.C_drewN ?_ _)|(with_reducible refine Kd.C_drew ?_)))
     (case side2=>exact (Kd.R_reads' HO505.out).2.1)
     (case side3=>repeat (first|exact (Kd.R_reads' HO508.out).2.2|(with_reducible refine Kd.C_alloc ?_ _)|(with_reducible refine Kd.C_drewN ?_ _)|(with_reducible refine Kd.C_drew ?_)))
     (case side4=>exact (Kd.R_reads' HO508.out).2.1)
     rintro e w23 ⟨v519,v522,rfl,ho0,ho1,hb⟩
     refine ⟨_,rfl,?_⟩
     have HO520:=Aside0.mk (Kd.R_lower (Kd.R_new' (Kd.R_new' ho0 (Kd.R_lt (rR HO505))) (Kd.R_lt (rR HO508))) (below_size bH));have HO523:=Aside0.mk (Kd.R_lower (Kd.R_new' (Kd.R_new' ho1 (Kd.R_lt (rR HO505))) (Kd.R_lt (rR HO508))) (below_size bH));replace HO505:=Aside0.mk (Kd.R_mono (Kd.R_told (Kd.R_told (Kd.R_old (rR HO505) hb) (Kd.R_base ho0)) (Kd.R_base ho1)) (fun _ h_=>h_.1));replace HO508:=Aside0.mk (Kd.R_mono (Kd.R_told (Kd.R_told (Kd.R_old (rR HO508) hb) (Kd.R_base ho0)) (Kd.R_base ho1)) (fun _ h_=>h_.1));replace BK501:=Aside0.mk (blk_below (bB BK501) hb);replace BK511:=Aside0.mk (blk_below (bB BK511) hb);replace BK525:=Aside0.mk (blk_below (bB BK525) hb);replace HB:=Aside0.mk (below_step bH hb);replace HI502:=Aside0.mk (IsS57.below Yc hb)
     (try clear hb)
     (try clear hb2)
     (try clear hk)
     (try clear hi)
     (try clear ho0)
     (try clear ho1)
     refine hK.out _ _ ⟨(blk_cell BK511.out 0).trans rfl,(blk_cell BK511.out 1).trans rfl⟩ (fun hHeld=>?_)
     clear hK K
     refine nM (N:=some 22) ?_
     refine pU (i:=10) (N:=some 12) #[true,true,true,true,true,true,true,true,true,true,true,false,false,true,false,false] (any_of HT_.out (by kernel_rfl)) ?_
     refine pU (i:=11) (N:=some 23) #[true,true,true,true,true,true,true,true,true,true,true,true,false,true,false,false] (any_of HT_.out (by kernel_rfl)) ?_
     refine pU (i:=12) (N:=some 24) #[true,true,true,true,true,true,true,true,true,true,true,true,true,true,false,false] (any_of HT_.out (by kernel_rfl)) ?_
     exact norm_ Yi (hCont (v519,v522,gb525) _ ⟨hHeld,YL,YK,YJ,YI,(bB BK501),(bB BK511),(bB BK525),GW525.out,GE525.out,NB502_525.out,NB525_502.out,NB501_525.out,NB525_501.out,NB511_525.out,NB525_511.out,Yc,bH⟩)
   ·skip
    refine box_step ?hg (N:=5) ?hd (cs:=#[.slice none 0 0,.slice none 0 0]) (t:=26) ?hr ?_;(case hd=>rfl);(case hg=>rfl);(case hr=>exact Yg)
    intro gb525 hg w21 hbox hb
    replace HO505:=Aside0.mk (Kd.R_below (rR HO505) hb);replace HO508:=Aside0.mk (Kd.R_below (rR HO508) hb);have BK525:=Aside0.mk (hbox);have GW525:=Aside0.mk ((by rw [hg];exact (below_size bH):w.heap.size ≤ gb525));have GE525:=Aside0.mk ((by rw [hg];exact (below_size bH):w.heap.size ≤ gb525));replace HB:=Aside0.mk (below_step bH hb);have NB501_525:=Aside0.mk ((nL BK501:gb501 ≠ gb525));have NB525_501:=Aside0.mk ((nG BK501:gb525 ≠ gb501));replace BK501:=Aside0.mk (blk_below (bB BK501) hb);have NB511_525:=Aside0.mk ((nL BK511:gb511 ≠ gb525));have NB525_511:=Aside0.mk ((nG BK511:gb525 ≠ gb511));replace BK511:=Aside0.mk (blk_below (bB BK511) hb);have NB502_525:=Aside0.mk ((by rw [hg];exact Nat.ne_of_lt (IsS57.lt (show IsS57 w _ gb502 l0 t513 t514 from Yf)):gb502 ≠ gb525));have NB525_502:=Aside0.mk ((by rw [hg];exact Nat.ne_of_gt (IsS57.lt (show IsS57 w _ gb502 l0 t513 t514 from Yf)):gb525 ≠ gb502));replace HI502:=Aside0.mk (IsS57.below Yf hb)
    clear hb hbox hg
    refine hK.out _ _ ⟨(blk_cell BK511.out 0).trans rfl,(blk_cell BK511.out 1).trans rfl⟩ (fun hHeld=>?_)
    clear hK K
    refine nM (N:=some 5) ?_
    refine one_ (i:=8) (N:=some 21) #[true,true,true,true,true,true,true,true,true,false,false,false,false,true,false,false] rfl rfl (one_of HT_.out (by kernel_rfl)) (by decide) (fun K hK=>?_)
    refine goes_ Try.func43 (by kernel_rfl) rfl #[.pointer (some ⟨gb502,0,none⟩),.int .i64 17] (by rfl) rfl rfl Ya ?_
    with_reducible refine (spec_l1Cur_pick.calls gb502 l0 t513 t514 17 t515 t516 t517 w _ ?side1 ?side2 A4.out).mono ?_
    (case side1=>exact Yc)
    (case side2=>exact bH)
    rintro e w22 ⟨rfl,hi,hb,hk⟩
    refine ⟨_,rfl,?_⟩
    replace BK501:=Aside0.mk (KeepBut.blk hk (g':=gb501) (o:=.cells #[.slice none 0 0,.slice none 0 0] 26 (0,0)) (bB BK501) NB501_502.out (by simp));replace HO505:=Aside0.mk (Kd.R_mono (Kd.R_keep (IsS57.apart (show IsS57 w _ gb502 l0 t513 t514 from Yc) (rR HO505) (by decide)) hk (fun _ h=>h.2)) (fun _ h=>h.1));replace HO508:=Aside0.mk (Kd.R_mono (Kd.R_keep (IsS57.apart (show IsS57 w _ gb502 l0 t513 t514 from Yc) (rR HO508) (by decide)) hk (fun _ h=>h.2)) (fun _ h=>h.1));replace BK511:=Aside0.mk (KeepBut.blk hk (g':=gb511) (o:=.cells #[.slice Ao13 t503.length co13,.slice Ao17 t506.length co17] 26 (0,0)) (bB BK511) NB511_502.out (by simp));replace BK525:=Aside0.mk (KeepBut.blk hk (g':=gb525) (o:=.cells #[.slice none 0 0,.slice none 0 0] 26 (0,0)) (bB BK525) NB525_502.out (by simp));replace HB:=Aside0.mk (hb);replace HI502:=Aside0.mk (hi)
    (try clear hb)
    (try clear hb2)
    (try clear hk)
    (try clear hi)
    refine hK.out _ _ ⟨(blk_cell BK511.out 0).trans rfl,(blk_cell BK511.out 1).trans rfl⟩ (fun hHeld=>?_)
    clear hK K
    refine nM (N:=some 21) ?_
    refine one_ (i:=9) (N:=some 22) #[true,true,true,true,true,true,true,true,true,true,false,false,false,true,false,false] rfl rfl (one_of HT_.out (by kernel_rfl)) (by decide) (fun K hK=>?_)
    refine goes_ Try.func9 (by kernel_rfl) rfl #[.agg #[.slice Ao13 t503.length co13,.slice Ao17 t506.length co17],.int .i64 t512,.int .i64 t515] (by rfl) rfl rfl Ya ?_
    with_reducible refine (spec_CrashDisk.calls k _ _ t503 _ _ t506 t512 t515 t518 t521 t524 _ ?side1 ?side2 ?side3 ?side4 A5.out).mono ?_
    (case side1=>repeat (first|exact (Kd.R_reads' HO505.out).2.2|(with_reducible refine Kd.C_alloc ?_ _)|(with_reducible refine Kd.C_drewN ?_ _)|(with_reducible refine Kd.C_drew ?_)))
    (case side2=>exact (Kd.R_reads' HO505.out).2.1)
    (case side3=>repeat (first|exact (Kd.R_reads' HO508.out).2.2|(with_reducible refine Kd.C_alloc ?_ _)|(with_reducible refine Kd.C_drewN ?_ _)|(with_reducible refine Kd.C_drew ?_)))
    (case side4=>exact (Kd.R_reads' HO508.out).2.1)
    rintro e w23 ⟨v519,v522,rfl,ho0,ho1,hb⟩
    refine ⟨_,rfl,?_⟩
    have HO520:=Aside0.mk (Kd.R_lower (Kd.R_new' (Kd.R_new' ho0 (Kd.R_lt (rR HO505))) (Kd.R_lt (rR HO508))) (below_size bH));have HO523:=Aside0.mk (Kd.R_lower (Kd.R_new' (Kd.R_new' ho1 (Kd.R_lt (rR HO505))) (Kd.R_lt (rR HO508))) (below_size bH));replace HO505:=Aside0.mk (Kd.R_mono (Kd.R_told (Kd.R_told (Kd.R_old (rR HO505) hb) (Kd.R_base ho0)) (Kd.R_base ho1)) (fun _ h_=>h_.1));replace HO508:=Aside0.mk (Kd.R_mono (Kd.R_told (Kd.R_told (Kd.R_old (rR HO508) hb) (Kd.R_base ho0)) (Kd.R_base ho1)) (fun _ h_=>h_.1));replace BK501:=Aside0.mk (blk_below (bB BK501) hb);replace BK511:=Aside0.mk (blk_below (bB BK511) hb);replace BK525:=Aside0.mk (blk_below (bB BK525) hb);replace HB:=Aside0.mk (below_step bH hb);replace HI502:=Aside0.mk (IsS57.below Yc hb)
    (try clear hb)
    (try clear hb2)
    (try clear hk)
    (try clear hi)
    (try clear ho0)
    (try clear ho1)
    refine hK.out _ _ ⟨(blk_cell BK511.out 0).trans rfl,(blk_cell BK511.out 1).trans rfl⟩ (fun hHeld=>?_)
    clear hK K
    refine nM (N:=some 22) ?_
    refine pU (i:=10) (N:=some 12) #[true,true,true,true,true,true,true,true,true,true,true,false,false,true,false,false] (any_of HT_.out (by kernel_rfl)) ?_
    refine pU (i:=11) (N:=some 23) #[true,true,true,true,true,true,true,true,true,true,true,true,false,true,false,false] (any_of HT_.out (by kernel_rfl)) ?_
    refine pU (i:=12) (N:=some 24) #[true,true,true,true,true,true,true,true,true,true,true,true,true,true,false,false] (any_of HT_.out (by kernel_rfl)) ?_
    exact norm_ Yi (hCont (v519,v522,gb525) _ ⟨hHeld,YL,YK,YJ,YI,(bB BK501),(bB BK511),(bB BK525),GW525.out,GE525.out,NB502_525.out,NB525_502.out,NB501_525.out,NB525_501.out,NB511_525.out,NB525_511.out,Yc,bH⟩)
  ·skip
   refine box_step ?hg (N:=5) ?hd (cs:=#[.slice none 0 0,.slice none 0 0]) (t:=26) ?hr ?_;(case hd=>rfl);(case hg=>rfl);(case hr=>exact Yg)
   intro gb525 hg w20 hbox hb
   replace HO505:=Aside0.mk (Kd.R_below (rR HO505) hb);replace HO508:=Aside0.mk (Kd.R_below (rR HO508) hb);have BK525:=Aside0.mk (hbox);have GW525:=Aside0.mk ((by rw [hg];exact (below_size bH):w.heap.size ≤ gb525));have GE525:=Aside0.mk ((by rw [hg];exact (below_size bH):w.heap.size ≤ gb525));replace HB:=Aside0.mk (below_step bH hb);have NB501_525:=Aside0.mk ((nL BK501:gb501 ≠ gb525));have NB525_501:=Aside0.mk ((nG BK501:gb525 ≠ gb501));replace BK501:=Aside0.mk (blk_below (bB BK501) hb);have NB511_525:=Aside0.mk ((nL BK511:gb511 ≠ gb525));have NB525_511:=Aside0.mk ((nG BK511:gb525 ≠ gb511));replace BK511:=Aside0.mk (blk_below (bB BK511) hb);have NB502_525:=Aside0.mk ((by rw [hg];exact Nat.ne_of_lt (IsS57.lt (show IsS57 w _ gb502 l0 t509 t510 from Yf)):gb502 ≠ gb525));have NB525_502:=Aside0.mk ((by rw [hg];exact Nat.ne_of_gt (IsS57.lt (show IsS57 w _ gb502 l0 t509 t510 from Yf)):gb525 ≠ gb502));replace HI502:=Aside0.mk (IsS57.below Yf hb)
   clear hb hbox hg
   refine hK.out _ _ ⟨(blk_cell BK511.out 0).trans rfl,(blk_cell BK511.out 1).trans rfl⟩ (fun hHeld=>?_)
   clear hK K
   refine nM (N:=some 5) ?_
   refine one_ (i:=6) (N:=some 19) #[true,true,true,true,true,true,true,true,false,false,false,false,false,true,false,false] rfl rfl (one_of HT_.out (by kernel_rfl)) (by decide) (fun K hK=>?_)
   refine goes_ Try.func43 (by kernel_rfl) rfl #[.pointer (some ⟨gb502,0,none⟩),.int .i64 (wrap64 ((t506.length:Int) + 1))] (by rfl) rfl rfl Ya ?_
   with_reducible refine (spec_l1Cur_pick.calls gb502 l0 t509 t510 (wrap64 ((t506.length:Int) + 1)) t512 t513 t514 w _ ?side1 ?side2 A3.out).mono ?_
   (case side1=>exact Yc)
   (case side2=>exact bH)
   rintro e w21 ⟨rfl,hi,hb,hk⟩
   refine ⟨_,rfl,?_⟩
   replace BK501:=Aside0.mk (KeepBut.blk hk (g':=gb501) (o:=.cells #[.slice none 0 0,.slice none 0 0] 26 (0,0)) (bB BK501) NB501_502.out (by simp));replace HO505:=Aside0.mk (Kd.R_mono (Kd.R_keep (IsS57.apart (show IsS57 w _ gb502 l0 t509 t510 from Yc) (rR HO505) (by decide)) hk (fun _ h=>h.2)) (fun _ h=>h.1));replace HO508:=Aside0.mk (Kd.R_mono (Kd.R_keep (IsS57.apart (show IsS57 w _ gb502 l0 t509 t510 from Yc) (rR HO508) (by decide)) hk (fun _ h=>h.2)) (fun _ h=>h.1));replace BK511:=Aside0.mk (KeepBut.blk hk (g':=gb511) (o:=.cells #[.slice Ao13 t503.length co13,.slice Ao17 t506.length co17] 26 (0,0)) (bB BK511) NB511_502.out (by simp));replace BK525:=Aside0.mk (KeepBut.blk hk (g':=gb525) (o:=.cells #[.slice none 0 0,.slice none 0 0] 26 (0,0)) (bB BK525) NB525_502.out (by simp));replace HB:=Aside0.mk (hb);replace HI502:=Aside0.mk (hi)
   (try clear hb)
   (try clear hb2)
   (try clear hk)
   (try clear hi)
   refine hK.out _ _ ⟨(blk_cell BK511.out 0).trans rfl,(blk_cell BK511.out 1).trans rfl⟩ (fun hHeld=>?_)
   clear hK K
   refine nM (N:=some 19) ?_
   refine one_ (i:=8) (N:=some 21) #[true,true,true,true,true,true,true,true,true,false,false,false,false,true,false,false] rfl rfl (one_of HT_.out (by kernel_rfl)) (by decide) (fun K hK=>?_)
   refine goes_ Try.func43 (by kernel_rfl) rfl #[.pointer (some ⟨gb502,0,none⟩),.int .i64 17] (by rfl) rfl rfl Ya ?_
   with_reducible refine (spec_l1Cur_pick.calls gb502 l0 t513 t514 17 t515 t516 t517 w _ ?side1 ?side2 A4.out).mono ?_
   (case side1=>exact Yc)
   (case side2=>exact bH)
   rintro e w22 ⟨rfl,hi,hb,hk⟩
   refine ⟨_,rfl,?_⟩
   replace BK501:=Aside0.mk (KeepBut.blk hk (g':=gb501) (o:=.cells #[.slice none 0 0,.slice none 0 0] 26 (0,0)) (bB BK501) NB501_502.out (by simp));replace HO505:=Aside0.mk (Kd.R_mono (Kd.R_keep (IsS57.apart (show IsS57 w _ gb502 l0 t513 t514 from Yc) (rR HO505) (by decide)) hk (fun _ h=>h.2)) (fun _ h=>h.1));replace HO508:=Aside0.mk (Kd.R_mono (Kd.R_keep (IsS57.apart (show IsS57 w _ gb502 l0 t513 t514 from Yc) (rR HO508) (by decide)) hk (fun _ h=>h.2)) (fun _ h=>h.1));replace BK511:=Aside0.mk (KeepBut.blk hk (g':=gb511) (o:=.cells #[.slice Ao13 t503.length co13,.slice Ao17 t506.length co17] 26 (0,0)) (bB BK511) NB511_502.out (by simp));replace BK525:=Aside0.mk (KeepBut.blk hk (g':=gb525) (o:=.cells #[.slice none 0 0,.slice none 0 0] 26 (0,0)) (bB BK525) NB525_502.out (by simp));replace HB:=Aside0.mk (hb);replace HI502:=Aside0.mk (hi)
   (try clear hb)
   (try clear hb2)
   (try clear hk)
   (try clear hi)
   refine hK.out _ _ ⟨(blk_cell BK511.out 0).trans rfl,(blk_cell BK511.out 1).trans rfl⟩ (fun hHeld=>?_)
   clear hK K
   refine nM (N:=some 21) ?_
   refine one_ (i:=9) (N:=some 22) #[true,true,true,true,true,true,true,true,true,true,false,false,false,true,false,false] rfl rfl (one_of HT_.out (by kernel_rfl)) (by decide) (fun K hK=>?_)
   refine goes_ Try.func9 (by kernel_rfl) rfl #[.agg #[.slice Ao13 t503.length co13,.slice Ao17 t506.length co17],.int .i64 t512,.int .i64 t515] (by rfl) rfl rfl Ya ?_
   with_reducible refine (spec_CrashDisk.calls k _ _ t503 _ _ t506 t512 t515 t518 t521 t524 _ ?side1 ?side2 ?side3 ?side4 A5.out).mono ?_
   (case side1=>repeat (first|exact (Kd.R_reads' HO505.out).2.2|(with_reducible refine Kd.C_alloc ?_ _)|(with_reducible refine Kd.C_drewN ?_ _)|(with_reducible refine Kd.C_drew ?_)))
   (case side2=>exact (Kd.R_reads' HO505.out).2.1)
   (case side3=>repeat (first|exact (Kd.R_reads' HO508.out).2.2|(with_reducible refine Kd.C_alloc ?_ _)|(with_reducible refine Kd.C_drewN ?_ _)|(with_reducible refine Kd.C_drew ?_)))
   (case side4=>exact (Kd.R_reads' HO508.out).2.1)
   rintro e w23 ⟨v519,v522,rfl,ho0,ho1,hb⟩
   refine ⟨_,rfl,?_⟩
   have HO520:=Aside0.mk (Kd.R_lower (Kd.R_new' (Kd.R_new' ho0 (Kd.R_lt (rR HO505))) (Kd.R_lt (rR HO508))) (below_size bH));have HO523:=Aside0.mk (Kd.R_lower (Kd.R_new' (Kd.R_new' ho1 (Kd.R_lt (rR HO505))) (Kd.R_lt (rR HO508))) (below_size bH));replace HO505:=Aside0.mk (Kd.R_mono (Kd.R_told (Kd.R_told (Kd.R_old (rR HO505) hb) (Kd.R_base ho0)) (Kd.R_base ho1)) (fun _ h_=>h_.1));replace HO508:=Aside0.mk (Kd.R_mono (Kd.R_told (Kd.R_told (Kd.R_old (rR HO508) hb) (Kd.R_base ho0)) (Kd.R_base ho1)) (fun _ h_=>h_.1));replace BK501:=Aside0.mk (blk_below (bB BK501) hb);replace BK511:=Aside0.mk (blk_below (bB BK511) hb);replace BK525:=Aside0.mk (blk_below (bB BK525) hb);replace HB:=Aside0.mk (below_step bH hb);replace HI502:=Aside0.mk (IsS57.below Yc hb)
   (try clear hb)
   (try clear hb2)
   (try clear hk)
   (try clear hi)
   (try clear ho0)
   (try clear ho1)
   refine hK.out _ _ ⟨(blk_cell BK511.out 0).trans rfl,(blk_cell BK511.out 1).trans rfl⟩ (fun hHeld=>?_)
   clear hK K
   refine nM (N:=some 22) ?_
   refine pU (i:=10) (N:=some 12) #[true,true,true,true,true,true,true,true,true,true,true,false,false,true,false,false] (any_of HT_.out (by kernel_rfl)) ?_
   refine pU (i:=11) (N:=some 23) #[true,true,true,true,true,true,true,true,true,true,true,true,false,true,false,false] (any_of HT_.out (by kernel_rfl)) ?_
   refine pU (i:=12) (N:=some 24) #[true,true,true,true,true,true,true,true,true,true,true,true,true,true,false,false] (any_of HT_.out (by kernel_rfl)) ?_
   exact norm_ Yi (hCont (v519,v522,gb525) _ ⟨hHeld,YL,YK,YJ,YI,(bB BK501),(bB BK511),(bB BK525),GW525.out,GE525.out,NB502_525.out,NB525_502.out,NB501_525.out,NB525_501.out,NB511_525.out,NB525_511.out,Yc,bH⟩)
 rintro ⟨v519,v522,gb525⟩ w24 ⟨hS_,h0_,h1_,h2_,h3_,h4_,h5_,h6_,h7_,h8_,h9_,h10_,h11_,h12_,h13_,h14_,h15_,h16_⟩
 have n0_:Aside0 (Kd.R Kd.string 9 w24 w.heap.size (fun k_=>some k_ ≠ (.slice Ao17 t506.length co17:Value).ownBlock ∧ some k_ ≠ (v519:Value).ownBlock ∧ some k_ ≠ (v522:Value).ownBlock) (.slice Ao13 t503.length co13) t503):=⟨h0_⟩
 have n1_:Aside0 (Kd.R Kd.string 9 w24 w.heap.size (fun k_=>some k_ ≠ (.slice Ao13 t503.length co13:Value).ownBlock ∧ some k_ ≠ (v519:Value).ownBlock ∧ some k_ ≠ (v522:Value).ownBlock) (.slice Ao17 t506.length co17) t506):=⟨h1_⟩
 have n2_:Aside0 (Kd.R Kd.string 9 w24 w.heap.size (fun k_=>some k_ ≠ (.slice Ao13 t503.length co13:Value).ownBlock ∧ some k_ ≠ (.slice Ao17 t506.length co17:Value).ownBlock ∧ some k_ ≠ (v522:Value).ownBlock) v519 t518):=⟨h2_⟩
 have n3_:Aside0 (Kd.R Kd.string 9 w24 w.heap.size (fun k_=>some k_ ≠ (.slice Ao13 t503.length co13:Value).ownBlock ∧ some k_ ≠ (.slice Ao17 t506.length co17:Value).ownBlock ∧ some k_ ≠ (v519:Value).ownBlock) v522 t521):=⟨h3_⟩
 have n4_:Aside0 (w24.heap[gb501]? = some (.cells #[.slice none 0 0,.slice none 0 0] 26 (0,0))):=⟨h4_⟩
 have n5_:Aside0 (w24.heap[gb511]? = some (.cells #[.slice Ao13 t503.length co13,.slice Ao17 t506.length co17] 26 (0,0))):=⟨h5_⟩
 have n6_:Aside0 (w24.heap[gb525]? = some (.cells #[.slice none 0 0,.slice none 0 0] 26 (0,0))):=⟨h6_⟩
 have n7_:Aside0 (w.heap.size ≤ gb525):=⟨h7_⟩
 have n8_:Aside0 (w.heap.size ≤ gb525):=⟨h8_⟩
 have n9_:Aside0 (gb502 ≠ gb525):=⟨h9_⟩
 have n10_:Aside0 (gb525 ≠ gb502):=⟨h10_⟩
 have n11_:Aside0 (gb501 ≠ gb525):=⟨h11_⟩
 have n12_:Aside0 (gb525 ≠ gb501):=⟨h12_⟩
 have n13_:Aside0 (gb511 ≠ gb525):=⟨h13_⟩
 have n14_:Aside0 (gb525 ≠ gb511):=⟨h14_⟩
 have n15_:Aside0 (IsS57 w w24 gb502 l0 t516 t517):=⟨h15_⟩
 have n16_:Aside0 (Below w.heap.size w w24):=⟨h16_⟩
 clear HO505
 clear HO508
 clear BK501
 clear BK511
 clear HI502
 clear HB
 clear h0_ h1_ h2_ h3_ h4_ h5_ h6_ h7_ h8_ h9_ h10_ h11_ h12_ h13_ h14_ h15_ h16_
 have HO505:=n0_
 have HO508:=n1_
 have HO520:=n2_
 have HO523:=n3_
 have BK501:=n4_
 have BK511:=n5_
 have BK525:=n6_
 have GW525:=n7_
 have GE525:=n8_
 have NB502_525:=n9_
 have NB525_502:=n10_
 have NB501_525:=n11_
 have NB525_501:=n12_
 have NB511_525:=n13_
 have NB525_511:=n14_
 have HI502:=n15_
 have HB:=n16_
 clear n0_ n1_ n2_ n3_ n4_ n5_ n6_ n7_ n8_ n9_ n10_ n11_ n12_ n13_ n14_ n15_ n16_
 have hHeld:w24.cell? ⟨gb511,0,none⟩ = some (.slice Ao13 t503.length co13) ∧ w24.cell? ⟨gb511,1,none⟩ = some (.slice Ao17 t506.length co17):=hS_
 obtain ⟨Ao25,co25,eo25⟩:=Kd.R_slice HO520.out
 (first|subst eo25|(injection eo25 with f1_ f2_ f3_;have f4_:=f1_.symm;have f5_:=f3_.symm;clear f1_ f2_ f3_;subst f4_;subst f5_))
 obtain ⟨Ao27,co27,eo27⟩:=Kd.R_slice HO523.out
 (first|subst eo27|(injection eo27 with f1_ f2_ f3_;have f4_:=f1_.symm;have f5_:=f3_.symm;clear f1_ f2_ f3_;subst f4_;subst f5_))
 refine norm_ (a':=?_) ?_ ?_
 rotate_left
 ·simp only [putAll,Act.put,List.setIfInBounds_toArray,List.set_cons_zero,List.set_cons_succ]
  rfl
 refine one_ (i:=14) (N:=none) #[true,true,true,true,true,true,true,true,true,true,true,true,true,true,true,false] rfl rfl (one_of HT_.out (by kernel_rfl)) (by decide) (fun K hK=>?_)
 have hs26:w24.cell? ⟨gb525,0,none⟩ = some (.slice none 0 0):=(blk_cell BK525.out 0).trans rfl
 have hfs26:=blk_frozen BK525.out 0
 have hns26_0:=NB501_525.out
 have hns26_1:=NB511_525.out
 have hms26_0:=NB525_501.out
 have hms26_1:=NB525_511.out
 have hs28:w24.cell? ⟨gb525,1,none⟩ = some (.slice none 0 0):=(blk_cell BK525.out 1).trans rfl
 have hfs28:=blk_frozen BK525.out 1
 have hns28_0:=NB501_525.out
 have hns28_1:=NB511_525.out
 have hms28_0:=NB525_501.out
 have hms28_1:=NB525_511.out
 refine skip_ (w1:=?_) (by rfl) rfl ?_ ?_
 rotate_left
 ·go_simp
  rfl
 refine hK.out _ _ ⟨((cell_far (p:=⟨gb525,_,none⟩) NB511_525.out _).trans (((cell_far (p:=⟨gb525,_,none⟩) NB511_525.out _).trans (hHeld.1)))),((cell_far (p:=⟨gb525,_,none⟩) NB511_525.out _).trans (((cell_far (p:=⟨gb525,_,none⟩) NB511_525.out _).trans (hHeld.2))))⟩ (fun hHeld=>?_)
 clear hK K
 refine pU (i:=15) (N:=some 6) #[true,true,true,true,true,true,true,true,true,true,true,true,true,true,true,true] (any_of HT_.out (by kernel_rfl)) ?_
 refine done_ (done_of HT_.out (by kernel_rfl)) ?_
 have H:=HLATE.out
 clear HLATE
 by_cases c6:t524 = true
 ·subst c6
  have H1:((spec_l1Cur_one.f l0 t516 t517 6).bind fun bt526=>(if bt526.1 = true then (some (t503,t506)) else (some (t518,t521)))) = some (r1,r2):=by rw [if_pos rfl] at H;exact H
  clear H
  have H:=H1
  clear H1
  replace H:=Option.bind_eq_some_iff.mp H
  obtain ⟨⟨t526,t527,t528⟩,A70,H⟩:=H
  replace H:(if t526 = true then (some (t503,t506)) else (some (t518,t521))) = some (r1,r2):=H
  have A7:=Aside0.mk A70
  clear A70
  by_cases c8:t526 = true
  ·subst c8
   have H1:(some (t503,t506)) = some (r1,r2):=by rw [if_pos rfl] at H;exact H
   clear H
   have H:=H1
   clear H1
   simp only [Option.some.injEq,Prod.mk.injEq] at H
   obtain ⟨rfl,rfl⟩:=H
   try go_wp2_with (first|(go_at_call 60;(with_reducible refine (spec_l1Cur_one.calls gb502 l0 t516 t517 6 true t527 t528 w _ ?side1 ?side2 A7.out).mono ?_);(case side1=>exact Yc);(case side2=>exact bH);rintro e w29 ⟨rfl,hi,hb,hk⟩;replace BK501:=Aside0.mk (KeepBut.blk hk (g':=gb501) (o:=.cells #[.slice none 0 0,.slice none 0 0] 26 (0,0)) Zi NB501_502.out (by simp));replace HO505:=Aside0.mk (Kd.R_mono (Kd.R_keep (IsS57.apart (show IsS57 w _ gb502 l0 t516 t517 from Yc) Zw (by decide)) hk (fun _ h=>h.2)) (fun _ h=>h.1));replace HO508:=Aside0.mk (Kd.R_mono (Kd.R_keep (IsS57.apart (show IsS57 w _ gb502 l0 t516 t517 from Yc) Zv (by decide)) hk (fun _ h=>h.2)) (fun _ h=>h.1));replace BK511:=Aside0.mk (KeepBut.blk hk (g':=gb511) (o:=.cells #[.slice Ao13 t503.length co13,.slice Ao17 t506.length co17] 26 (0,0)) Zh NB511_502.out (by simp));replace HO520:=Aside0.mk (Kd.R_mono (Kd.R_keep (IsS57.apart (show IsS57 w _ gb502 l0 t516 t517 from Yc) Zu (by decide)) hk (fun _ h=>h.2)) (fun _ h=>h.1));replace HO523:=Aside0.mk (Kd.R_mono (Kd.R_keep (IsS57.apart (show IsS57 w _ gb502 l0 t516 t517 from Yc) Zt (by decide)) hk (fun _ h=>h.2)) (fun _ h=>h.1));replace BK525:=Aside0.mk (KeepBut.blk hk (g':=gb525) (o:=.cells #[.slice Ao25 t518.length co25,.slice Ao27 t521.length co27] 26 (0,0)) YH NB525_502.out (by simp));replace HB:=Aside0.mk (hb);replace HI502:=Aside0.mk (hi);(try clear hb);(try clear hb2);(try clear hk);(try clear hi);have hnb30:=NB511_525.out;have hnc30:=NB525_511.out;have hcz31_0:w29.cell? ⟨gb511,0,none⟩ = some (.slice Ao13 t503.length co13):=(blk_cell BK511.out 0).trans rfl;have hcz31_1:w29.cell? ⟨gb511,1,none⟩ = some (.slice Ao17 t506.length co17):=(blk_cell BK511.out 1).trans rfl;have hfz31_0:=blk_frozen BK511.out 0;have hfz31_1:=blk_frozen BK511.out 1;have hnb32:=NB501_525.out;have hnc32:=NB525_501.out;have hnb33:=NB501_502.out;have hnc33:=NB502_501.out;have hcz34_0:w29.cell? ⟨gb501,0,none⟩ = some (.slice none 0 0):=(blk_cell BK501.out 0).trans rfl;have hcz34_1:w29.cell? ⟨gb501,1,none⟩ = some (.slice none 0 0):=(blk_cell BK501.out 1).trans rfl;have hfz34_0:=blk_frozen BK501.out 0;have hfz34_1:=blk_frozen BK501.out 1))
   refine bodyPost_ret (results_cell_row rfl _ _ gb501 26 #[.slice Ao13 t503.length co13,.slice Ao17 t506.length co17] (0,0) _ rfl (by (with_reducible repeat (first|refine blk_drewN ?_ _|refine blk_drew ?_|refine blk_alloc ?_ _));refine blk_put (cs:=#[.slice Ao13 t503.length co13,.slice none 0 0]) ?_ 1 _ rfl;(with_reducible repeat (first|refine blk_drewN ?_ _|refine blk_drew ?_|refine blk_alloc ?_ _));refine blk_put (cs:=#[.slice none 0 0,.slice none 0 0]) ?_ 0 _ rfl;(with_reducible repeat (first|refine blk_drewN ?_ _|refine blk_drew ?_|refine blk_alloc ?_ _));exact BK501.out) Try.underlying26 rfl (by kernel_rfl)) rfl ?_
   exact ⟨_,_,Yb,by (with_reducible repeat (first|apply Kd.R_alloc|apply Kd.R_drewN|apply Kd.R_drew));exact Kd.R_mono (Kd.R_far (p:=⟨gb501,1,none⟩) (Kd.R_far (p:=⟨gb501,0,none⟩) (Kd.R_types HO505.out BK501.out (by decide)) (fun _ hk=>hk.2) (.slice Ao13 t503.length co13)) (fun _ hk=>hk.2) (.slice Ao17 t506.length co17)) (fun _ hk=>hk.1.1),by (with_reducible repeat (first|apply Kd.R_alloc|apply Kd.R_drewN|apply Kd.R_drew));exact Kd.R_mono (Kd.R_far (p:=⟨gb501,1,none⟩) (Kd.R_far (p:=⟨gb501,0,none⟩) (Kd.R_types HO508.out BK501.out (by decide)) (fun _ hk=>hk.2) (.slice Ao13 t503.length co13)) (fun _ hk=>hk.2) (.slice Ao17 t506.length co17)) (fun _ hk=>hk.1.1),bH⟩
  ·replace c8:=Bool.eq_false_iff.mpr c8
   subst c8
   have H1:(some (t518,t521)) = some (r1,r2):=by rw [if_neg (show ¬ (false = true) by decide)] at H;exact H
   clear H
   have H:=H1
   clear H1
   simp only [Option.some.injEq,Prod.mk.injEq] at H
   obtain ⟨rfl,rfl⟩:=H
   try go_wp2_with (first|(go_at_call 60;(with_reducible refine (spec_l1Cur_one.calls gb502 l0 t516 t517 6 false t527 t528 w _ ?side1 ?side2 A7.out).mono ?_);(case side1=>exact Yc);(case side2=>exact bH);rintro e w55 ⟨rfl,hi,hb,hk⟩;replace BK501:=Aside0.mk (KeepBut.blk hk (g':=gb501) (o:=.cells #[.slice none 0 0,.slice none 0 0] 26 (0,0)) Zi NB501_502.out (by simp));replace HO505:=Aside0.mk (Kd.R_mono (Kd.R_keep (IsS57.apart (show IsS57 w _ gb502 l0 t516 t517 from Yc) Zw (by decide)) hk (fun _ h=>h.2)) (fun _ h=>h.1));replace HO508:=Aside0.mk (Kd.R_mono (Kd.R_keep (IsS57.apart (show IsS57 w _ gb502 l0 t516 t517 from Yc) Zv (by decide)) hk (fun _ h=>h.2)) (fun _ h=>h.1));replace BK511:=Aside0.mk (KeepBut.blk hk (g':=gb511) (o:=.cells #[.slice Ao13 t503.length co13,.slice Ao17 t506.length co17] 26 (0,0)) Zh NB511_502.out (by simp));replace HO520:=Aside0.mk (Kd.R_mono (Kd.R_keep (IsS57.apart (show IsS57 w _ gb502 l0 t516 t517 from Yc) Zu (by decide)) hk (fun _ h=>h.2)) (fun _ h=>h.1));replace HO523:=Aside0.mk (Kd.R_mono (Kd.R_keep (IsS57.apart (show IsS57 w _ gb502 l0 t516 t517 from Yc) Zt (by decide)) hk (fun _ h=>h.2)) (fun _ h=>h.1));replace BK525:=Aside0.mk (KeepBut.blk hk (g':=gb525) (o:=.cells #[.slice Ao25 t518.length co25,.slice Ao27 t521.length co27] 26 (0,0)) YH NB525_502.out (by simp));replace HB:=Aside0.mk (hb);replace HI502:=Aside0.mk (hi);(try clear hb);(try clear hb2);(try clear hk);(try clear hi);have hnb56:=NB525_501.out;have hnc56:=NB501_525.out;have hnb57:=NB525_511.out;have hnc57:=NB511_525.out;have hnb58:=NB525_502.out;have hnc58:=NB502_525.out;have hcz59_0:w55.cell? ⟨gb525,0,none⟩ = some (.slice Ao25 t518.length co25):=(blk_cell BK525.out 0).trans rfl;have hcz59_1:w55.cell? ⟨gb525,1,none⟩ = some (.slice Ao27 t521.length co27):=(blk_cell BK525.out 1).trans rfl;have hfz59_0:=blk_frozen BK525.out 0;have hfz59_1:=blk_frozen BK525.out 1;have hnb60:=NB501_502.out;have hnc60:=NB502_501.out;have hcz61_0:w55.cell? ⟨gb501,0,none⟩ = some (.slice none 0 0):=(blk_cell BK501.out 0).trans rfl;have hcz61_1:w55.cell? ⟨gb501,1,none⟩ = some (.slice none 0 0):=(blk_cell BK501.out 1).trans rfl;have hfz61_0:=blk_frozen BK501.out 0;have hfz61_1:=blk_frozen BK501.out 1))
   refine bodyPost_ret (results_cell_row rfl _ _ gb501 26 #[.slice Ao25 t518.length co25,.slice Ao27 t521.length co27] (0,0) _ rfl (by (with_reducible repeat (first|refine blk_drewN ?_ _|refine blk_drew ?_|refine blk_alloc ?_ _));refine blk_put (cs:=#[.slice Ao25 t518.length co25,.slice none 0 0]) ?_ 1 _ rfl;(with_reducible repeat (first|refine blk_drewN ?_ _|refine blk_drew ?_|refine blk_alloc ?_ _));refine blk_put (cs:=#[.slice none 0 0,.slice none 0 0]) ?_ 0 _ rfl;(with_reducible repeat (first|refine blk_drewN ?_ _|refine blk_drew ?_|refine blk_alloc ?_ _));exact BK501.out) Try.underlying26 rfl (by kernel_rfl)) rfl ?_
   exact ⟨_,_,Yb,by (with_reducible repeat (first|apply Kd.R_alloc|apply Kd.R_drewN|apply Kd.R_drew));exact Kd.R_mono (Kd.R_far (p:=⟨gb501,1,none⟩) (Kd.R_far (p:=⟨gb501,0,none⟩) (Kd.R_types HO520.out BK501.out (by decide)) (fun _ hk=>hk.2) (.slice Ao25 t518.length co25)) (fun _ hk=>hk.2) (.slice Ao27 t521.length co27)) (fun _ hk=>hk.1.2.2),by (with_reducible repeat (first|apply Kd.R_alloc|apply Kd.R_drewN|apply Kd.R_drew));exact Kd.R_mono (Kd.R_far (p:=⟨gb501,1,none⟩) (Kd.R_far (p:=⟨gb501,0,none⟩) (Kd.R_types HO523.out BK501.out (by decide)) (fun _ hk=>hk.2) (.slice Ao25 t518.length co25)) (fun _ hk=>hk.2) (.slice Ao27 t521.length co27)) (fun _ hk=>hk.1.2.2),bH⟩
 ·replace c6:=Bool.eq_false_iff.mpr c6
  subst c6
  have H1:(some (t503,t506)) = some (r1,r2):=by rw [if_neg (show ¬ (false = true) by decide)] at H;exact H
  clear H
  have H:=H1
  clear H1
  simp only [Option.some.injEq,Prod.mk.injEq] at H
  obtain ⟨rfl,rfl⟩:=H
  have hnb82:=NB511_525.out
  have hnc82:=NB525_511.out
  have hcz83_0:w24.cell? ⟨gb511,0,none⟩ = some (.slice Ao13 t503.length co13):=(blk_cell BK511.out 0).trans rfl
  have hcz83_1:w24.cell? ⟨gb511,1,none⟩ = some (.slice Ao17 t506.length co17):=(blk_cell BK511.out 1).trans rfl
  have hfz83_0:=blk_frozen BK511.out 0
  have hfz83_1:=blk_frozen BK511.out 1
  have hnb84:=NB501_525.out
  have hnc84:=NB525_501.out
  have hnb85:=NB501_502.out
  have hnc85:=NB502_501.out
  have hcz86_0:w24.cell? ⟨gb501,0,none⟩ = some (.slice none 0 0):=(blk_cell BK501.out 0).trans rfl
  have hcz86_1:w24.cell? ⟨gb501,1,none⟩ = some (.slice none 0 0):=(blk_cell BK501.out 1).trans rfl
  have hfz86_0:=blk_frozen BK501.out 0
  have hfz86_1:=blk_frozen BK501.out 1
  try go_wp2
  refine bodyPost_ret (results_cell_row rfl _ _ gb501 26 #[.slice Ao13 t503.length co13,.slice Ao17 t506.length co17] (0,0) _ rfl (by (with_reducible repeat (first|refine blk_drewN ?_ _|refine blk_drew ?_|refine blk_alloc ?_ _));refine blk_put (cs:=#[.slice Ao13 t503.length co13,.slice none 0 0]) ?_ 1 _ rfl;(with_reducible repeat (first|refine blk_drewN ?_ _|refine blk_drew ?_|refine blk_alloc ?_ _));refine blk_put (cs:=#[.slice none 0 0,.slice none 0 0]) ?_ 0 _ rfl;(with_reducible repeat (first|refine blk_drewN ?_ _|refine blk_drew ?_|refine blk_alloc ?_ _));refine blk_far ?_ NB501_525.out _;(with_reducible repeat (first|refine blk_drewN ?_ _|refine blk_drew ?_|refine blk_alloc ?_ _));refine blk_far ?_ NB501_525.out _;(with_reducible repeat (first|refine blk_drewN ?_ _|refine blk_drew ?_|refine blk_alloc ?_ _));exact BK501.out) Try.underlying26 rfl (by kernel_rfl)) rfl ?_
  exact ⟨_,_,Yb,by (with_reducible repeat (first|apply Kd.R_alloc|apply Kd.R_drewN|apply Kd.R_drew));exact Kd.R_mono (Kd.R_far (p:=⟨gb501,1,none⟩) (Kd.R_far (p:=⟨gb501,0,none⟩) (Kd.R_far (p:=⟨gb525,1,none⟩) (Kd.R_far (p:=⟨gb525,0,none⟩) (Kd.R_types (Kd.R_types HO505.out BK525.out (by decide)) BK501.out (by decide)) (fun _ hk=>hk.1.2) (.slice Ao25 t518.length co25)) (fun _ hk=>hk.1.2) (.slice Ao27 t521.length co27)) (fun _ hk=>hk.2) (.slice Ao13 t503.length co13)) (fun _ hk=>hk.2) (.slice Ao17 t506.length co17)) (fun _ hk=>hk.1.1.1),by (with_reducible repeat (first|apply Kd.R_alloc|apply Kd.R_drewN|apply Kd.R_drew));exact Kd.R_mono (Kd.R_far (p:=⟨gb501,1,none⟩) (Kd.R_far (p:=⟨gb501,0,none⟩) (Kd.R_far (p:=⟨gb525,1,none⟩) (Kd.R_far (p:=⟨gb525,0,none⟩) (Kd.R_types (Kd.R_types HO508.out BK525.out (by decide)) BK501.out (by decide)) (fun _ hk=>hk.1.2) (.slice Ao25 t518.length co25)) (fun _ hk=>hk.1.2) (.slice Ao27 t521.length co27)) (fun _ hk=>hk.2) (.slice Ao13 t503.length co13)) (fun _ hk=>hk.2) (.slice Ao17 t506.length co17)) (fun _ hk=>hk.1.1.1),bH⟩

end Go.Proofs.Ytmgkflkfoccgkab.QFnDisk
