-- Written by this session's own program (wip/x/xprint.py, over the kit's printer); Lean checks it.
import Derived.Test.YtmgkflkfoccgkabQFnDiskx0
import Derived.Test.YtmgkflkfoccgkabQFnDiskx6
import Derived.Test.YtmgkflkfoccgkabQFnDiskx7
import Derived.Test.YtmgkflkfoccgkabQFnDiskx8
namespace Go.Proofs.Ytmgkflkfoccgkab.QFnDisk
open Go.RowKit Go.Proofs.YtmgkflkfoccgkabW.PrintWords Go.Proofs.YtmgkflkfoccgkabW.PrintLast Go.Proofs.YtmgkflkfoccgkabW.PrintMore
attribute [local go_sem] max2_int min2_int max_two min_two max_three min_three max_four min_four   -- for this text's walks alone
set_option linter.unusedVariables false
set_option linter.unusedSimpArgs false

/-! ### spec_DrawCrashDisk: function 7 -/
def spec_DrawCrashDisk.f (k:Nat) (l0:List Int):Option (List ByteArray × List ByteArray × Int × Int):=(spec_l1Cur_disk.f k l0 0 0).bind fun bt314=>((spec_l1Cur_pick.f l0 bt314.2.2.1 bt314.2.2.2 (wrap64 ((bt314.2.1.length:Int) + 2))).bind fun bt323=>((spec_l1Cur_pick.f l0 bt323.2.1 bt323.2.2 9).bind fun bt326=>((spec_l1Cur_pick.f l0 bt326.2.1 bt326.2.2 18).bind fun bt329=>((spec_l1Cur_pick.f l0 bt329.2.1 bt329.2.2 9).bind fun bt332=>(some (bt314.1,bt314.2.1,wrap64 (bt323.1 - (wrap64 (Int.tdiv bt326.1 8))),wrap64 (bt329.1 - (wrap64 (Int.tdiv bt332.1 8)))))))))
theorem spec_DrawCrashDisk.mono:∀ a0 k,LeO (spec_DrawCrashDisk.f k a0) (spec_DrawCrashDisk.f (k + 1) a0):=by
 intro a0 k
 unfold spec_DrawCrashDisk.f
 have m0:=@spec_l1Cur_disk.mono
 exact mO
def spec_DrawCrashDisk.T3:Bool × List (List Nat × List Nat):=(true,[([],[]),([],[]),([],[]),([2],[2]),([3],[3]),([4],[4]),([1,5],[1,5]),([],[]),([7,6],[7]),([8],[8]),([6,9],[6,9]),([],[]),([11,8],[11]),([],[]),([13,12],[13]),([14],[14]),([12,15],[12,15]),([0,14,0],[0]),([10,17,0,1,2,3,4,5,6,7,8,9,10,17],[10]),([16,18,0,1,2,3,4,5,6,7,8,9,10,11,12,13,14,15,16,17,18],[16])])
def spec_DrawCrashDisk.B3:List Nat:=[0,0,0,4,12,28,62,0,254,510,1022,0,2558,0,14846,31230,63998,31231,163839,524287]
theorem spec_DrawCrashDisk.tab3:rtab .any (opsOf Try.f7 3) = spec_DrawCrashDisk.T3:=by kernel_rfl
theorem spec_DrawCrashDisk.bits3:waitsOk spec_DrawCrashDisk.T3.2 spec_DrawCrashDisk.B3 = true:=by kernel_rfl
set_option maxHeartbeats 8000000 in
set_option maxRecDepth 100000 in
theorem spec_DrawCrashDisk.calls (k:Nat) (A0:Option Addr) (c0:Nat) (l0:List Int) (r1:List ByteArray) (r2:List ByteArray) (r3:Int) (r4:Int) (w:World) (hr0:Kd.C (Kd.int .u8) w A0 l0.length l0) (hc0:l0.length ≤ c0) (h:spec_DrawCrashDisk.f k l0 = some (r1,r2,r3,r4)) :
  Calls Try.prog 7 #[.slice A0 l0.length c0] w fun e w'=>∃ v0_ v1_:Value,e = .returned (.tuple #[.agg #[v0_,v1_],.int .i64 r3,.int .i64 r4]) ∧ Kd.R Kd.string 9 w' w.heap.size (fun k_=>some k_ ≠ (v1_:Value).ownBlock) v0_ r1 ∧ Kd.R Kd.string 9 w' w.heap.size (fun k_=>some k_ ≠ (v0_:Value).ownBlock) v1_ r2 ∧ Below w.heap.size w w':=by
 have hu26:=Try.underlying26
 have hu57:=Try.underlying57
 have HR0:=Aside0.mk hr0
 have HC0:=Aside0.mk hc0
 clear hr0 hc0
 have HB:=Aside0.mk (Below.refl w.heap.size w)
 have H:((spec_l1Cur_disk.f k l0 0 0).bind fun bt314=>((spec_l1Cur_pick.f l0 bt314.2.2.1 bt314.2.2.2 (wrap64 ((bt314.2.1.length:Int) + 2))).bind fun bt323=>((spec_l1Cur_pick.f l0 bt323.2.1 bt323.2.2 9).bind fun bt326=>((spec_l1Cur_pick.f l0 bt326.2.1 bt326.2.2 18).bind fun bt329=>((spec_l1Cur_pick.f l0 bt329.2.1 bt329.2.2 9).bind fun bt332=>(some (bt314.1,bt314.2.1,wrap64 (bt323.1 - (wrap64 (Int.tdiv bt326.1 8))),wrap64 (bt329.1 - (wrap64 (Int.tdiv bt332.1 8)))))))))) = some (r1,r2,r3,r4):=h
 clear h
 replace H:=Option.bind_eq_some_iff.mp H
 obtain ⟨⟨t314,t317,t320,t321⟩,A20,H⟩:=H
 replace H:((spec_l1Cur_pick.f l0 t320 t321 (wrap64 ((t317.length:Int) + 2))).bind fun bt323=>((spec_l1Cur_pick.f l0 bt323.2.1 bt323.2.2 9).bind fun bt326=>((spec_l1Cur_pick.f l0 bt326.2.1 bt326.2.2 18).bind fun bt329=>((spec_l1Cur_pick.f l0 bt329.2.1 bt329.2.2 9).bind fun bt332=>(some (t314,t317,wrap64 (bt323.1 - (wrap64 (Int.tdiv bt326.1 8))),wrap64 (bt329.1 - (wrap64 (Int.tdiv bt332.1 8))))))))) = some (r1,r2,r3,r4):=H
 have A2:=Aside0.mk A20
 clear A20
 replace H:=Option.bind_eq_some_iff.mp H
 obtain ⟨⟨t323,t324,t325⟩,A30,H⟩:=H
 replace H:((spec_l1Cur_pick.f l0 t324 t325 9).bind fun bt326=>((spec_l1Cur_pick.f l0 bt326.2.1 bt326.2.2 18).bind fun bt329=>((spec_l1Cur_pick.f l0 bt329.2.1 bt329.2.2 9).bind fun bt332=>(some (t314,t317,wrap64 (t323 - (wrap64 (Int.tdiv bt326.1 8))),wrap64 (bt329.1 - (wrap64 (Int.tdiv bt332.1 8)))))))) = some (r1,r2,r3,r4):=H
 have A3:=Aside0.mk A30
 clear A30
 replace H:=Option.bind_eq_some_iff.mp H
 obtain ⟨⟨t326,t327,t328⟩,A40,H⟩:=H
 replace H:((spec_l1Cur_pick.f l0 t327 t328 18).bind fun bt329=>((spec_l1Cur_pick.f l0 bt329.2.1 bt329.2.2 9).bind fun bt332=>(some (t314,t317,wrap64 (t323 - (wrap64 (Int.tdiv t326 8))),wrap64 (bt329.1 - (wrap64 (Int.tdiv bt332.1 8))))))) = some (r1,r2,r3,r4):=H
 have A4:=Aside0.mk A40
 clear A40
 replace H:=Option.bind_eq_some_iff.mp H
 obtain ⟨⟨t329,t330,t331⟩,A50,H⟩:=H
 replace H:((spec_l1Cur_pick.f l0 t330 t331 9).bind fun bt332=>(some (t314,t317,wrap64 (t323 - (wrap64 (Int.tdiv t326 8))),wrap64 (t329 - (wrap64 (Int.tdiv bt332.1 8)))))) = some (r1,r2,r3,r4):=H
 have A5:=Aside0.mk A50
 clear A50
 replace H:=Option.bind_eq_some_iff.mp H
 obtain ⟨⟨t332,t333,t334⟩,A60,H⟩:=H
 replace H:(some (t314,t317,wrap64 (t323 - (wrap64 (Int.tdiv t326 8))),wrap64 (t329 - (wrap64 (Int.tdiv t332 8))))) = some (r1,r2,r3,r4):=H
 have A6:=Aside0.mk A60
 clear A60
 simp only [Option.some.injEq,Prod.mk.injEq] at H
 obtain ⟨rfl,rfl,rfl,rfl⟩:=H
 go_enter Try.func7,Try.ntmps7
 try go_wp2_with (first|((with_reducible refine gate_dst (N:=2) rfl ?_);refine box_event ?hg (N:=2) ?hd (cs:=#[.slice none 0 0,.slice none 0 0]) (t:=26) ?hr ?_;(case hd=>rfl);(case hg=>rfl);(case hr=>exact Yg);intro gb312 hg w7 hbox hb;have BK312:=Aside0.mk (hbox);have GW312:=Aside0.mk ((hZ:w.heap.size ≤ gb312));have GE312:=Aside0.mk ((hZ:w.heap.size ≤ gb312));replace HB:=Aside0.mk (below_step bH hb);clear hb hbox hg)|((with_reducible refine gate_dst (N:=9) rfl ?_);refine box_event ?hg (N:=9) ?hd (cs:=#[.slice A0 l0.length c0,.int .i64 0,.int .u64 0]) (t:=57) ?hr ?_;(case hd=>rfl);(case hg=>rfl);(case hr=>exact Yg);intro gb313 hg w8 hbox hb;have BK313:=Aside0.mk (hbox);have GW313:=Aside0.mk ((hZ:w.heap.size ≤ gb313));have GE313:=Aside0.mk ((hZ:w.heap.size ≤ gb313));replace HB:=Aside0.mk (below_step bH hb);have NB312_313:=Aside0.mk ((nL BK312:gb312 ≠ gb313));have NB313_312:=Aside0.mk ((nG BK312:gb313 ≠ gb312));replace BK312:=Aside0.mk (blk_below (bB BK312) hb);clear hb hbox hg;have HI313:=Aside0.mk (show IsS57 w w8 gb313 l0 0 0 from ⟨_,_,BK313.out,GW313.out,HR0.out⟩);clear BK313)|((with_reducible refine gate_callee (f:=42) rfl ?_);refine goesL_ (some 11) rfl rfl Try.func42 (by kernel_rfl) rfl #[.pointer (some ⟨gb313,0,none⟩)] rfl Ya ?_;(with_reducible refine (spec_l1Cur_disk.calls k gb313 l0 0 0 t314 t317 t320 t321 w _ ?side1 ?side2 A2.out).mono ?_);(case side1=>exact Zg);(case side2=>exact bH);rintro e w9 ⟨v315,v318,rfl,ho0,ho1,hi,hb,hk⟩;refine ⟨_,rfl,?_⟩;replace BK312:=Aside0.mk (KeepBut.blk hk (g':=gb312) (o:=.cells #[.slice none 0 0,.slice none 0 0] 26 (0,0)) (bB BK312) NB312_313.out (by simp));have HO316:=Aside0.mk (Kd.R_lower ho0 (below_size bH));have HO319:=Aside0.mk (Kd.R_lower ho1 (below_size bH));replace HB:=Aside0.mk (hb);replace HI313:=Aside0.mk (hi);(try clear hb);(try clear hb2);(try clear hk);(try clear hi);(try clear ho0);(try clear ho1))|((with_reducible refine gate_dst (N:=6) rfl ?_);refine box_event ?hg (N:=6) ?hd (cs:=#[.slice none 0 0,.slice none 0 0]) (t:=26) ?hr ?_;(case hd=>rfl);(case hg=>rfl);(case hr=>exact Yg);intro gb322 hg w10 hbox hb;replace HO316:=Aside0.mk (Kd.R_below (rR HO316) hb);replace HO319:=Aside0.mk (Kd.R_below (rR HO319) hb);have BK322:=Aside0.mk (hbox);have GW322:=Aside0.mk ((by rw [hg];exact (below_size bH):w.heap.size ≤ gb322));have GE322:=Aside0.mk ((by rw [hg];exact (below_size bH):w.heap.size ≤ gb322));replace HB:=Aside0.mk (below_step bH hb);have NB312_322:=Aside0.mk ((nL BK312:gb312 ≠ gb322));have NB322_312:=Aside0.mk ((nG BK312:gb322 ≠ gb312));replace BK312:=Aside0.mk (blk_below (bB BK312) hb);have NB313_322:=Aside0.mk ((by rw [hg];exact Nat.ne_of_lt (IsS57.lt (show IsS57 w _ gb313 l0 t320 t321 from Zg)):gb313 ≠ gb322));have NB322_313:=Aside0.mk ((by rw [hg];exact Nat.ne_of_gt (IsS57.lt (show IsS57 w _ gb313 l0 t320 t321 from Zg)):gb322 ≠ gb313));replace HI313:=Aside0.mk (IsS57.below Zg hb);clear hb hbox hg;obtain ⟨Ao11,co11,eo11⟩:=Kd.R_slice HO316.out;subst eo11;have hnb12:=NB322_312.out;have hnc12:=NB312_322.out;have hnb13:=NB322_313.out;have hnc13:=NB313_322.out;have hcz14_0:w10.cell? ⟨gb322,0,none⟩ = some (.slice none 0 0):=(blk_cell BK322.out 0).trans rfl;have hcz14_1:w10.cell? ⟨gb322,1,none⟩ = some (.slice none 0 0):=(blk_cell BK322.out 1).trans rfl;have hfz14_0:=blk_frozen BK322.out 0;have hfz14_1:=blk_frozen BK322.out 1;obtain ⟨Ao15,co15,eo15⟩:=Kd.R_slice HO319.out;subst eo15))
 have n0_:Aside0 (Kd.R Kd.string 9 ((w10.setCell ⟨gb322,0,none⟩ (.slice Ao11 t314.length co11)).setCell ⟨gb322,1,none⟩ (.slice Ao15 t317.length co15)) w.heap.size (fun k_=>some k_ ≠ (.slice Ao15 t317.length co15:Value).ownBlock) (.slice Ao11 t314.length co11) t314):=⟨by (with_reducible repeat (first|apply Kd.R_alloc|apply Kd.R_drewN|apply Kd.R_drew));exact Kd.R_mono (Kd.R_far (p:=⟨gb322,1,none⟩) (Kd.R_far (p:=⟨gb322,0,none⟩) (Kd.R_types HO316.out BK322.out (by decide)) (fun _ hk=>hk.2) (.slice Ao11 t314.length co11)) (fun _ hk=>hk.2) (.slice Ao15 t317.length co15)) (fun _ hk=>hk.1)⟩
 have n1_:Aside0 (Kd.R Kd.string 9 ((w10.setCell ⟨gb322,0,none⟩ (.slice Ao11 t314.length co11)).setCell ⟨gb322,1,none⟩ (.slice Ao15 t317.length co15)) w.heap.size (fun k_=>some k_ ≠ (.slice Ao11 t314.length co11:Value).ownBlock) (.slice Ao15 t317.length co15) t317):=⟨by (with_reducible repeat (first|apply Kd.R_alloc|apply Kd.R_drewN|apply Kd.R_drew));exact Kd.R_mono (Kd.R_far (p:=⟨gb322,1,none⟩) (Kd.R_far (p:=⟨gb322,0,none⟩) (Kd.R_types HO319.out BK322.out (by decide)) (fun _ hk=>hk.2) (.slice Ao11 t314.length co11)) (fun _ hk=>hk.2) (.slice Ao15 t317.length co15)) (fun _ hk=>hk.1)⟩
 have n2_:Aside0 (((w10.setCell ⟨gb322,0,none⟩ (.slice Ao11 t314.length co11)).setCell ⟨gb322,1,none⟩ (.slice Ao15 t317.length co15)).heap[gb312]? = some (.cells #[.slice none 0 0,.slice none 0 0] 26 (0,0))):=⟨by (with_reducible repeat (first|refine blk_drewN ?_ _|refine blk_drew ?_|refine blk_alloc ?_ _));refine blk_far ?_ NB312_322.out _;(with_reducible repeat (first|refine blk_drewN ?_ _|refine blk_drew ?_|refine blk_alloc ?_ _));refine blk_far ?_ NB312_322.out _;(with_reducible repeat (first|refine blk_drewN ?_ _|refine blk_drew ?_|refine blk_alloc ?_ _));exact BK312.out⟩
 have n3_:Aside0 (((w10.setCell ⟨gb322,0,none⟩ (.slice Ao11 t314.length co11)).setCell ⟨gb322,1,none⟩ (.slice Ao15 t317.length co15)).heap[gb322]? = some (.cells #[.slice Ao11 t314.length co11,.slice Ao15 t317.length co15] 26 (0,0))):=⟨by (with_reducible repeat (first|refine blk_drewN ?_ _|refine blk_drew ?_|refine blk_alloc ?_ _));refine blk_put (cs:=#[.slice Ao11 t314.length co11,.slice none 0 0]) ?_ 1 _ rfl;(with_reducible repeat (first|refine blk_drewN ?_ _|refine blk_drew ?_|refine blk_alloc ?_ _));refine blk_put (cs:=#[.slice none 0 0,.slice none 0 0]) ?_ 0 _ rfl;(with_reducible repeat (first|refine blk_drewN ?_ _|refine blk_drew ?_|refine blk_alloc ?_ _));exact BK322.out⟩
 have n4_:Aside0 (IsS57 w ((w10.setCell ⟨gb322,0,none⟩ (.slice Ao11 t314.length co11)).setCell ⟨gb322,1,none⟩ (.slice Ao15 t317.length co15)) gb313 l0 t320 t321):=⟨Yl⟩
 have n5_:Aside0 (Below w.heap.size w ((w10.setCell ⟨gb322,0,none⟩ (.slice Ao11 t314.length co11)).setCell ⟨gb322,1,none⟩ (.slice Ao15 t317.length co15))):=⟨bH⟩
 (try clear HO316)
 (try clear HO319)
 (try clear BK312)
 (try clear BK322)
 (try clear HI313)
 (try clear HB)
 generalize ((w10.setCell ⟨gb322,0,none⟩ (.slice Ao11 t314.length co11)).setCell ⟨gb322,1,none⟩ (.slice Ao15 t317.length co15)) = w16 at n0_ n1_ n2_ n3_ n4_ n5_ ⊢
 have HO316:=n0_
 have HO319:=n1_
 have BK312:=n2_
 have BK322:=n3_
 have HI313:=n4_
 have HB:=n5_
 clear n0_ n1_ n2_ n3_ n4_ n5_
 replace HO316:=Aside0.mk (Kd.R_drew HO316.out);replace HO319:=Aside0.mk (Kd.R_drew HO319.out);replace BK312:=Aside0.mk (blk_drew BK312.out);replace BK322:=Aside0.mk (blk_drew BK322.out);replace HI313:=Aside0.mk (IsS57.drew HI313.out);replace HB:=Aside0.mk (below_drew1 HB.out)
 refine start_ (n:=20) (S:=fun w'=>w'.cell? ⟨gb322,0,none⟩ = some (.slice Ao11 t314.length co11) ∧ w'.cell? ⟨gb322,1,none⟩ = some (.slice Ao15 t317.length co15)) (ds:=[]) #[false,false,false,false,false,false,false,false,false,false,false,false,false,false,false,false,false,false,false,false] (by kernel_rfl) rfl rfl ⟨(blk_cell BK322.out 0).trans rfl,(blk_cell BK322.out 1).trans rfl⟩ (fun hHeld=>?_);refine with_tabW spec_DrawCrashDisk.tab3 spec_DrawCrashDisk.bits3 (fun HT_ HW_=>?_)
 generalize w16.drew = w17 at HO316 HO319 BK312 BK322 HI313 HB hHeld ⊢
 refine pU (i:=1) (N:=some 13) #[false,true,false,false,false,false,false,false,false,false,false,false,false,false,false,false,false,false,false,false] (any_of HT_.out (by kernel_rfl)) ?_
 refine pU (i:=2) (N:=some 14) #[false,true,true,false,false,false,false,false,false,false,false,false,false,false,false,false,false,false,false,false] (any_of HT_.out (by kernel_rfl)) ?_
 refine pU (i:=7) (N:=some 19) #[false,true,true,false,false,false,false,true,false,false,false,false,false,false,false,false,false,false,false,false] (any_of HT_.out (by kernel_rfl)) ?_
 refine pU (i:=11) (N:=some 23) #[false,true,true,false,false,false,false,true,false,false,false,true,false,false,false,false,false,false,false,false] (any_of HT_.out (by kernel_rfl)) ?_
 refine pU (i:=13) (N:=some 25) #[false,true,true,false,false,false,false,true,false,false,false,true,false,true,false,false,false,false,false,false] (any_of HT_.out (by kernel_rfl)) ?_
 refine take_ (i:=0) (N:=some 12) (v:=?_) (a':=?_) #[true,true,true,false,false,false,false,true,false,false,false,true,false,true,false,false,false,false,false,false] rfl rfl (take_ofW HT_.out HW_.out (by kernel_rfl)) (fun _ _ _ h=>h) (Or.inl ⟨by rfl,?_⟩) hHeld ?_ ?_
 rotate_left
 ·rintro w' ⟨s0,s1⟩
  go_simp
  with_reducible rfl
 rotate_left
 ·simp only [Act.put,List.setIfInBounds_toArray,List.set_cons_zero,List.set_cons_succ,i64_w,i32_w]
  rfl
 refine take_ (i:=3) (N:=some 15) (v:=?_) (a':=?_) #[true,true,true,true,false,false,false,true,false,false,false,true,false,true,false,false,false,false,false,false] rfl rfl (take_ofW HT_.out HW_.out (by kernel_rfl)) (fun _ _ _ h=>h) (Or.inl ⟨by rfl,?_⟩) hHeld ?_ ?_
 rotate_left
 ·rintro w' ⟨s0,s1⟩
  go_simp
  with_reducible rfl
 rotate_left
 ·simp only [Act.put,List.setIfInBounds_toArray,List.set_cons_zero,List.set_cons_succ,i64_w,i32_w]
  rfl
 refine pU (i:=4) (N:=some 16) #[true,true,true,true,true,false,false,true,false,false,false,true,false,true,false,false,false,false,false,false] (any_of HT_.out (by kernel_rfl)) ?_
 refine pU (i:=5) (N:=some 17) #[true,true,true,true,true,true,false,true,false,false,false,true,false,true,false,false,false,false,false,false] (any_of HT_.out (by kernel_rfl)) ?_
 refine one_ (i:=6) (N:=some 18) #[true,true,true,true,true,true,true,true,false,false,false,true,false,true,false,false,false,false,false,false] rfl rfl (one_of HT_.out (by kernel_rfl)) (by decide) (fun K hK=>?_)
 refine goes_ Try.func43 (by kernel_rfl) rfl #[.pointer (some ⟨gb313,0,none⟩),.int .i64 (wrap64 ((t317.length:Int) + 2))] (by rfl) rfl rfl Ya ?_
 with_reducible refine (spec_l1Cur_pick.calls gb313 l0 t320 t321 (wrap64 ((t317.length:Int) + 2)) t323 t324 t325 w _ ?side1 ?side2 A3.out).mono ?_
 (case side1=>exact Yl)
 (case side2=>exact bH)
 rintro e w18 ⟨rfl,hi,hb,hk⟩
 refine ⟨_,rfl,?_⟩
 replace BK312:=Aside0.mk (KeepBut.blk hk (g':=gb312) (o:=.cells #[.slice none 0 0,.slice none 0 0] 26 (0,0)) (bB BK312) NB312_313.out (by simp));replace HO316:=Aside0.mk (Kd.R_mono (Kd.R_keep (IsS57.apart (show IsS57 w _ gb313 l0 t320 t321 from Yl) (rR HO316) (by decide)) hk (fun _ h=>h.2)) (fun _ h=>h.1));replace HO319:=Aside0.mk (Kd.R_mono (Kd.R_keep (IsS57.apart (show IsS57 w _ gb313 l0 t320 t321 from Yl) (rR HO319) (by decide)) hk (fun _ h=>h.2)) (fun _ h=>h.1));replace BK322:=Aside0.mk (KeepBut.blk hk (g':=gb322) (o:=.cells #[.slice Ao11 t314.length co11,.slice Ao15 t317.length co15] 26 (0,0)) (bB BK322) NB322_313.out (by simp));replace HB:=Aside0.mk (hb);replace HI313:=Aside0.mk (hi)
 (try clear hb)
 (try clear hb2)
 (try clear hk)
 (try clear hi)
 refine hK.out _ _ ⟨(blk_cell BK322.out 0).trans rfl,(blk_cell BK322.out 1).trans rfl⟩ (fun hHeld=>?_)
 clear hK K
 refine nM (N:=some 18) ?_
 refine one_ (i:=8) (N:=some 20) #[true,true,true,true,true,true,true,true,true,false,false,true,false,true,false,false,false,false,false,false] rfl rfl (one_of HT_.out (by kernel_rfl)) (by decide) (fun K hK=>?_)
 refine goes_ Try.func43 (by kernel_rfl) rfl #[.pointer (some ⟨gb313,0,none⟩),.int .i64 9] (by rfl) rfl rfl Ya ?_
 with_reducible refine (spec_l1Cur_pick.calls gb313 l0 t324 t325 9 t326 t327 t328 w _ ?side1 ?side2 A4.out).mono ?_
 (case side1=>exact Yl)
 (case side2=>exact bH)
 rintro e w19 ⟨rfl,hi,hb,hk⟩
 refine ⟨_,rfl,?_⟩
 replace BK312:=Aside0.mk (KeepBut.blk hk (g':=gb312) (o:=.cells #[.slice none 0 0,.slice none 0 0] 26 (0,0)) (bB BK312) NB312_313.out (by simp));replace HO316:=Aside0.mk (Kd.R_mono (Kd.R_keep (IsS57.apart (show IsS57 w _ gb313 l0 t324 t325 from Yl) (rR HO316) (by decide)) hk (fun _ h=>h.2)) (fun _ h=>h.1));replace HO319:=Aside0.mk (Kd.R_mono (Kd.R_keep (IsS57.apart (show IsS57 w _ gb313 l0 t324 t325 from Yl) (rR HO319) (by decide)) hk (fun _ h=>h.2)) (fun _ h=>h.1));replace BK322:=Aside0.mk (KeepBut.blk hk (g':=gb322) (o:=.cells #[.slice Ao11 t314.length co11,.slice Ao15 t317.length co15] 26 (0,0)) (bB BK322) NB322_313.out (by simp));replace HB:=Aside0.mk (hb);replace HI313:=Aside0.mk (hi)
 (try clear hb)
 (try clear hb2)
 (try clear hk)
 (try clear hi)
 refine hK.out _ _ ⟨(blk_cell BK322.out 0).trans rfl,(blk_cell BK322.out 1).trans rfl⟩ (fun hHeld=>?_)
 clear hK K
 refine nM (N:=some 20) ?_
 refine pU (i:=9) (N:=some 21) #[true,true,true,true,true,true,true,true,true,true,false,true,false,true,false,false,false,false,false,false] (any_of HT_.out (by kernel_rfl)) ?_
 refine pU (i:=10) (N:=some 22) #[true,true,true,true,true,true,true,true,true,true,true,true,false,true,false,false,false,false,false,false] (any_of HT_.out (by kernel_rfl)) ?_
 refine one_ (i:=12) (N:=some 24) #[true,true,true,true,true,true,true,true,true,true,true,true,true,true,false,false,false,false,false,false] rfl rfl (one_of HT_.out (by kernel_rfl)) (by decide) (fun K hK=>?_)
 refine goes_ Try.func43 (by kernel_rfl) rfl #[.pointer (some ⟨gb313,0,none⟩),.int .i64 18] (by rfl) rfl rfl Ya ?_
 with_reducible refine (spec_l1Cur_pick.calls gb313 l0 t327 t328 18 t329 t330 t331 w _ ?side1 ?side2 A5.out).mono ?_
 (case side1=>exact Yl)
 (case side2=>exact bH)
 rintro e w20 ⟨rfl,hi,hb,hk⟩
 refine ⟨_,rfl,?_⟩
 replace BK312:=Aside0.mk (KeepBut.blk hk (g':=gb312) (o:=.cells #[.slice none 0 0,.slice none 0 0] 26 (0,0)) (bB BK312) NB312_313.out (by simp));replace HO316:=Aside0.mk (Kd.R_mono (Kd.R_keep (IsS57.apart (show IsS57 w _ gb313 l0 t327 t328 from Yl) (rR HO316) (by decide)) hk (fun _ h=>h.2)) (fun _ h=>h.1));replace HO319:=Aside0.mk (Kd.R_mono (Kd.R_keep (IsS57.apart (show IsS57 w _ gb313 l0 t327 t328 from Yl) (rR HO319) (by decide)) hk (fun _ h=>h.2)) (fun _ h=>h.1));replace BK322:=Aside0.mk (KeepBut.blk hk (g':=gb322) (o:=.cells #[.slice Ao11 t314.length co11,.slice Ao15 t317.length co15] 26 (0,0)) (bB BK322) NB322_313.out (by simp));replace HB:=Aside0.mk (hb);replace HI313:=Aside0.mk (hi)
 (try clear hb)
 (try clear hb2)
 (try clear hk)
 (try clear hi)
 refine hK.out _ _ ⟨(blk_cell BK322.out 0).trans rfl,(blk_cell BK322.out 1).trans rfl⟩ (fun hHeld=>?_)
 clear hK K
 refine nM (N:=some 24) ?_
 refine one_ (i:=14) (N:=some 26) #[true,true,true,true,true,true,true,true,true,true,true,true,true,true,true,false,false,false,false,false] rfl rfl (one_of HT_.out (by kernel_rfl)) (by decide) (fun K hK=>?_)
 refine goes_ Try.func43 (by kernel_rfl) rfl #[.pointer (some ⟨gb313,0,none⟩),.int .i64 9] (by rfl) rfl rfl Ya ?_
 with_reducible refine (spec_l1Cur_pick.calls gb313 l0 t330 t331 9 t332 t333 t334 w _ ?side1 ?side2 A6.out).mono ?_
 (case side1=>exact Yl)
 (case side2=>exact bH)
 rintro e w21 ⟨rfl,hi,hb,hk⟩
 refine ⟨_,rfl,?_⟩
 replace BK312:=Aside0.mk (KeepBut.blk hk (g':=gb312) (o:=.cells #[.slice none 0 0,.slice none 0 0] 26 (0,0)) (bB BK312) NB312_313.out (by simp));replace HO316:=Aside0.mk (Kd.R_mono (Kd.R_keep (IsS57.apart (show IsS57 w _ gb313 l0 t330 t331 from Yl) (rR HO316) (by decide)) hk (fun _ h=>h.2)) (fun _ h=>h.1));replace HO319:=Aside0.mk (Kd.R_mono (Kd.R_keep (IsS57.apart (show IsS57 w _ gb313 l0 t330 t331 from Yl) (rR HO319) (by decide)) hk (fun _ h=>h.2)) (fun _ h=>h.1));replace BK322:=Aside0.mk (KeepBut.blk hk (g':=gb322) (o:=.cells #[.slice Ao11 t314.length co11,.slice Ao15 t317.length co15] 26 (0,0)) (bB BK322) NB322_313.out (by simp));replace HB:=Aside0.mk (hb);replace HI313:=Aside0.mk (hi)
 (try clear hb)
 (try clear hb2)
 (try clear hk)
 (try clear hi)
 refine hK.out _ _ ⟨(blk_cell BK322.out 0).trans rfl,(blk_cell BK322.out 1).trans rfl⟩ (fun hHeld=>?_)
 clear hK K
 refine nM (N:=some 26) ?_
 refine pU (i:=15) (N:=some 27) #[true,true,true,true,true,true,true,true,true,true,true,true,true,true,true,true,false,false,false,false] (any_of HT_.out (by kernel_rfl)) ?_
 refine pU (i:=16) (N:=some 28) #[true,true,true,true,true,true,true,true,true,true,true,true,true,true,true,true,true,false,false,false] (any_of HT_.out (by kernel_rfl)) ?_
 refine one_ (i:=17) (N:=none) #[true,true,true,true,true,true,true,true,true,true,true,true,true,true,true,true,true,true,false,false] rfl rfl (one_of HT_.out (by kernel_rfl)) (by decide) (fun K hK=>?_)
 have hs22:w21.cell? ⟨gb312,0,none⟩ = some (.slice none 0 0):=(blk_cell BK312.out 0).trans rfl
 have hfs22:=blk_frozen BK312.out 0
 have hns22_1:=NB322_312.out
 have hms22_1:=NB312_322.out
 have hs23:w21.cell? ⟨gb312,1,none⟩ = some (.slice none 0 0):=(blk_cell BK312.out 1).trans rfl
 have hfs23:=blk_frozen BK312.out 1
 have hns23_1:=NB322_312.out
 have hms23_1:=NB312_322.out
 refine skip_ (w1:=?_) (by rfl) rfl ?_ ?_
 rotate_left
 ·go_simp
  rfl
 refine hK.out _ _ ⟨((cell_far (p:=⟨gb312,_,none⟩) NB322_312.out _).trans (((cell_far (p:=⟨gb312,_,none⟩) NB322_312.out _).trans (hHeld.1)))),((cell_far (p:=⟨gb312,_,none⟩) NB322_312.out _).trans (((cell_far (p:=⟨gb312,_,none⟩) NB322_312.out _).trans (hHeld.2))))⟩ (fun hHeld=>?_)
 clear hK K
 refine pU (i:=18) (N:=some 3) #[true,true,true,true,true,true,true,true,true,true,true,true,true,true,true,true,true,true,true,false] (any_of HT_.out (by kernel_rfl)) ?_
 refine pU (i:=19) (N:=some 4) #[true,true,true,true,true,true,true,true,true,true,true,true,true,true,true,true,true,true,true,true] (any_of HT_.out (by kernel_rfl)) ?_
 refine done_ (done_of HT_.out (by kernel_rfl)) ?_
 try go_wp2
 refine bodyPost_ret (results_ctt rfl _ _ gb312 26 #[.slice Ao11 t314.length co11,.slice Ao15 t317.length co15] (0,0) _ rfl (by (with_reducible repeat (first|refine blk_drewN ?_ _|refine blk_drew ?_|refine blk_alloc ?_ _));refine blk_put (cs:=#[.slice Ao11 t314.length co11,.slice none 0 0]) ?_ 1 _ rfl;(with_reducible repeat (first|refine blk_drewN ?_ _|refine blk_drew ?_|refine blk_alloc ?_ _));refine blk_put (cs:=#[.slice none 0 0,.slice none 0 0]) ?_ 0 _ rfl;(with_reducible repeat (first|refine blk_drewN ?_ _|refine blk_drew ?_|refine blk_alloc ?_ _));exact BK312.out) Try.underlying26 rfl (by kernel_rfl)) rfl ?_
 exact ⟨_,_,Yb,by (with_reducible repeat (first|apply Kd.R_alloc|apply Kd.R_drewN|apply Kd.R_drew));exact Kd.R_mono (Kd.R_far (p:=⟨gb312,1,none⟩) (Kd.R_far (p:=⟨gb312,0,none⟩) (Kd.R_types HO316.out BK312.out (by decide)) (fun _ hk=>hk.2) (.slice Ao11 t314.length co11)) (fun _ hk=>hk.2) (.slice Ao15 t317.length co15)) (fun _ hk=>hk.1),by (with_reducible repeat (first|apply Kd.R_alloc|apply Kd.R_drewN|apply Kd.R_drew));exact Kd.R_mono (Kd.R_far (p:=⟨gb312,1,none⟩) (Kd.R_far (p:=⟨gb312,0,none⟩) (Kd.R_types HO319.out BK312.out (by decide)) (fun _ hk=>hk.2) (.slice Ao11 t314.length co11)) (fun _ hk=>hk.2) (.slice Ao15 t317.length co15)) (fun _ hk=>hk.1),bH⟩

/-! ### slices_Grow_string_string: function 77 -/
def slices_Grow_string_string.f  (a1:Int):Option (List ByteArray):=if a1 < 0 then (none) else (if (wrap64 (a1)) > 0 then (if 0 ≤ (wrap64 (a1)) then (if ([]:List ByteArray).length + (wrap64 (a1):Int).toNat < 8796093022208 then ((some (([]:List ByteArray) ++ List.replicate (wrap64 (a1):Int).toNat (⟨#[]⟩:ByteArray):List ByteArray)).bind fun y335=>(if 0 ≤ (y335.length:Int) then (some (y335.take (0:Int).toNat)) else (none))) else (none)) else (none)) else (some ([]:List ByteArray)))
set_option maxHeartbeats 8000000 in
set_option maxRecDepth 100000 in
theorem slices_Grow_string_string.calls  (a1:Int) (r:List ByteArray) (w:World) (h:slices_Grow_string_string.f a1 = some r) :
  Calls Try.prog 77 #[.slice none 0 0,.int .i64 a1] w fun e w'=>∃ v0_:Value,e = .returned (v0_) ∧ Kd.R Kd.string 9 w' w.heap.size (fun _=>True) v0_ r ∧ Below w.heap.size w w':=by
 have HB:=Aside0.mk (Below.refl w.heap.size w)
 have H:(if a1 < 0 then (none) else (if (wrap64 (a1)) > 0 then (if 0 ≤ (wrap64 (a1)) then (if ([]:List ByteArray).length + (wrap64 (a1):Int).toNat < 8796093022208 then ((some (([]:List ByteArray) ++ List.replicate (wrap64 (a1):Int).toNat (⟨#[]⟩:ByteArray):List ByteArray)).bind fun y335=>(if 0 ≤ (y335.length:Int) then (some (y335.take (0:Int).toNat)) else (none))) else (none)) else (none)) else (some ([]:List ByteArray)))) = some r:=h
 clear h
 by_cases c3:a1 < 0
 ·rw [if_pos c3] at H
  exact absurd H (by simp)
 ·rw [if_neg c3] at H
  have c3b0:decide (a1 < 0) = false:=decide_eq_false c3
  clear c3
  by_cases c4:(wrap64 (a1)) > 0
  ·rw [if_pos c4] at H
   have c4b0:decide (0 < (wrap64 (a1))) = true:=decide_eq_true c4
   clear c4
   obtain ⟨ji5,hji5⟩:∃ j_:Int,(wrap64 (a1)) = j_:=⟨_,rfl⟩
   replace H:(if 0 ≤ (ji5) then (if ([]:List ByteArray).length + (ji5:Int).toNat < 8796093022208 then ((some (([]:List ByteArray) ++ List.replicate (ji5:Int).toNat (⟨#[]⟩:ByteArray):List ByteArray)).bind fun y335=>(if 0 ≤ (y335.length:Int) then (some (y335.take (0:Int).toNat)) else (none))) else (none)) else (none)) = some r:=by first|(rw [hji5] at H;exact H)|(simp only [hji5] at H ⊢;exact H)
   (try rw [hji5] at c4b0)
   have hji5w:(IntKind.i64.wrap (a1)) = ji5:=(i64_w _).trans hji5
   by_cases c6:0 ≤ (ji5)
   ·rw [if_pos c6] at H
    have c6b0:=eq_true c6
    have c6b1:=decide_eq_true c6
    clear c6
    by_cases c7:([]:List ByteArray).length + (ji5:Int).toNat < 8796093022208
    ·rw [if_pos c7] at H
     have LMc7:=Aside0.mk c7
     clear c7
     obtain ⟨y335,hy335⟩:∃ y_:List ByteArray,y_ = (([]:List ByteArray) ++ List.replicate (ji5:Int).toNat (⟨#[]⟩:ByteArray)):=⟨_,rfl⟩
     replace H:(if 0 ≤ (y335.length:Int) then (some (y335.take (0:Int).toNat)) else (none)) = some r:=by first|(rw [hy335];with_reducible exact H)|(have H2_:=(Option.bind_some _ _).symm.trans H;rw [hy335];with_reducible exact H2_)|(have H2_:=(Option.bind_some _ _).symm.trans H;with_reducible exact H2_)|with_reducible exact H|(rw [hy335];exact H)|exact H
     have Ny335:=Aside0.mk hy335
     clear hy335
     by_cases c8:0 ≤ (y335.length:Int)
     ·rw [if_pos c8] at H
      have c8b0:=eq_true c8
      have c8b1:=decide_eq_true c8
      clear c8
      obtain ⟨y338,hy338⟩:∃ y_:List ByteArray,y_ = (y335.take (0:Int).toNat):=⟨_,rfl⟩
      replace H:(some y338) = some r:=by first|(rw [hy338];with_reducible exact H)|(have H2_:=(Option.bind_some _ _).symm.trans H;rw [hy338];with_reducible exact H2_)|(have H2_:=(Option.bind_some _ _).symm.trans H;with_reducible exact H2_)|with_reducible exact H|(rw [hy338];exact H)|exact H
      have Ny338:=Aside0.mk hy338
      clear hy338
      obtain rfl:=Option.some.inj H
      go_enter Try.func77,Try.ntmps77
      go_wp2_with (first|(at_builtin;refine Kd.R_append_zeros Kd.string (w0:=w) w.heap.size rfl (.tmp 20) (.tmp 21) 24 3 9 (.string ⟨#[]⟩) 16 rfl Try.underlying24 Try.underlying3 info9 rfl (by decide) Yy (.slice none 0 0) ([]:List ByteArray) (⟨#[]⟩:ByteArray) (ji5:Int) (fun _=>True) rfl rfl rfl ?aF ?aO (oD) ?aB ?aS ?aL ?_;(case aB=>exact bH);(case aF=>exact YE);(case aO=>exact ((Kd.R_nil _ _ _ _ (fun _=>True))));(case aS=>exact YB);(case aL=>have:=LMc7.out;omega);intro v336 w9 ho hb hg hat;rw [← Ny335.out] at ho;replace HB:=Aside0.mk (hb);have HO337:=Aside0.mk (ho);clear ho hb hg hat;obtain ⟨Ao10,co10,eo10⟩:=Kd.R_slice HO337.out;subst eo10;have q11:(0:Int) ≤ ((y335.length:Int):Int):=oD;obtain ⟨i011,hi011,_,hsz11,_⟩:=info_parts info9;have hcut11:=cut_to (P:=Try.prog) 24 9 .i64 Try.underlying24 hi011 Ao10 y335.length co10 0 (by omega) q11 (Kd.R_reads' HO337.out).2.1;have hr11:=Kd.R_take (m:=(0:Int).toNat) HO337.out (by omega);have hy11:y338.length = (0:Int).toNat:=(by rw [Ny338.out,List.length_take];omega);rw [← Ny338.out] at hr11;rw [← hy11] at hr11 hcut11;clear hy11 hi011 hsz11 HO337;have HO340:=Aside0.mk hr11;clear hr11;replace q11:=eq_true q11))
      go_ret
      exact ⟨_,by first|rfl|(simp [errW_none,errW_some] <;> rfl)|(simp only [← hji5];first|rfl|(simp [errW_none,errW_some] <;> rfl))|(simp [*,errW_none,errW_some] <;> rfl),rR HO340,bH⟩
     ·rw [if_neg c8] at H
      exact absurd H (by simp)
    ·rw [if_neg c7] at H
     exact absurd H (by simp)
   ·rw [if_neg c6] at H
    exact absurd H (by simp)
  ·rw [if_neg c4] at H
   have c4b0:decide (0 < (wrap64 (a1))) = false:=decide_eq_false c4
   clear c4
   obtain rfl:=Option.some.inj H
   go_enter Try.func77,Try.ntmps77
   go_wp2
   go_ret
   exact ⟨_,Yb,Yd,bH⟩

/-! ### slices_Concat_string_string: function 44 -/
mutual
def slices_Concat_string_string.l0:Nat → List (List ByteArray) → Int → List (List ByteArray) → Int → Int → Option (List ByteArray)
 | 0,_,_,_,_,_=>none
 | k + 1,x0,x3,x9,x10,x11=>if x11 < x10 then (if 0 ≤ x11 then (if x11 < (x9.length:Int) then (if (wrap64 (x3 + ((rd_L2 x9 x11).length:Int))) < 0 then (none) else (slices_Concat_string_string.l0 k x0 (wrap64 (x3 + ((rd_L2 x9 x11).length:Int))) x9 x10 (wrap64 (x11 + 1)))) else (none)) else (none)) else ((slices_Grow_string_string.f x3).bind fun t342=>(slices_Concat_string_string.l1 k t342 x0 (x0.length:Int) 0))
def slices_Concat_string_string.l1:Nat → List ByteArray → List (List ByteArray) → Int → Int → Option (List ByteArray)
 | 0,_,_,_,_=>none
 | k + 1,x6,x25,x26,x27=>if x27 < x26 then (if 0 ≤ x27 then (if x27 < (x25.length:Int) then (if x6.length + (rd_L2 x25 x27).length < 8796093022208 then (slices_Concat_string_string.l1 k (x6 ++ (rd_L2 x25 x27)) x25 x26 (wrap64 (x27 + 1))) else (none)) else (none)) else (none)) else (some x6)
end
def slices_Concat_string_string.f (k:Nat) (l0:List (List ByteArray)):Option (List ByteArray):=slices_Concat_string_string.l0 k l0 0 l0 (l0.length:Int) 0
theorem slices_Concat_string_string.mono_l:∀ k,(∀ y0 y1 y2 y3 y4,LeO (slices_Concat_string_string.l0 k y0 y1 y2 y3 y4) (slices_Concat_string_string.l0 (k + 1) y0 y1 y2 y3 y4)) ∧ (∀ y0 y1 y2 y3,LeO (slices_Concat_string_string.l1 k y0 y1 y2 y3) (slices_Concat_string_string.l1 (k + 1) y0 y1 y2 y3))
 | 0=>⟨fun _ _ _ _ _ r h=>by simp [slices_Concat_string_string.l0] at h,fun _ _ _ _ r h=>by simp [slices_Concat_string_string.l1] at h⟩
 | k + 1=>by
  obtain ⟨ih0,ih1⟩:=slices_Concat_string_string.mono_l k
  refine ⟨?_,?_⟩
  ·intro y0 y1 y2 y3 y4
   unfold slices_Concat_string_string.l0
   exact mO
  ·intro y0 y1 y2 y3
   unfold slices_Concat_string_string.l1
   exact mO
theorem slices_Concat_string_string.mono:∀ a0 k,LeO (slices_Concat_string_string.f k a0) (slices_Concat_string_string.f (k + 1) a0):=by
 intro a0 k
 obtain ⟨ih0,ih1⟩:=slices_Concat_string_string.mono_l k
 unfold slices_Concat_string_string.f
 exact mO
set_option maxHeartbeats 8000000 in
set_option maxRecDepth 100000 in
theorem slices_Concat_string_string.calls (k:Nat) (A0:Option Addr) (c0:Nat) (l0:List (List ByteArray)) (r:List ByteArray) (w:World) (hr0:Kd.C (Kd.slice 9 Kd.string) w A0 l0.length l0) (hc0:l0.length ≤ c0) (h:slices_Concat_string_string.f k l0 = some r) :
  Calls Try.prog 44 #[.slice A0 l0.length c0] w fun e w'=>∃ v0_:Value,e = .returned (v0_) ∧ Kd.R Kd.string 9 w' w.heap.size (fun _=>True) v0_ r ∧ Below w.heap.size w w':=by
 have HR0:=Aside0.mk hr0
 have HC0:=Aside0.mk hc0
 clear hr0 hc0
 have HB:=Aside0.mk (Below.refl w.heap.size w)
 have H:(slices_Concat_string_string.l0 k l0 0 l0 (l0.length:Int) 0) = some r:=h
 clear h
 have H':=Aside0.mk H
 clear H
 go_enter Try.func44,Try.ntmps44
 go_wp2
 go_loopg [3,11] k (fun kq v3 v11 w'=>∃ (x3_1:Int) (x11_1:Int),v3 = .int .i64 x3_1 ∧ v11 = .int .i64 x11_1 ∧ Aside0 (slices_Concat_string_string.l0 kq l0 x3_1 l0 (l0.length:Int) x11_1 = some r) ∧ Aside0 (kq ≤ k) ∧ Aside0 (Below w.heap.size w w'))
 case atStart=>exact ⟨(0),(0),Yh,Yh,H',⟨Nat.le_refl _⟩,⟨bH⟩⟩
 case round =>
  clear H'
  obtain ⟨x3_1,x11_1,rfl,rfl,HA,HK1,HB⟩:=hrel
  cases gk with
  | zero=>exact absurd HA.out (by simp [slices_Concat_string_string.l0])
  | succ k1 =>
   have H:=HA.out
   clear HA
   simp only [slices_Concat_string_string.l0] at H
   by_cases c2:x11_1 < (l0.length:Int)
   ·rw [if_pos c2] at H
    have c2b0:=decide_eq_true c2
    clear c2
    by_cases c3:0 ≤ x11_1
    ·rw [if_pos c3] at H
     have c3b0:=decide_eq_true c3
     clear c3
     by_cases c4:x11_1 < (l0.length:Int)
     ·rw [if_pos c4] at H
      have c4b0:=decide_eq_true c4
      clear c4
      by_cases c5:(wrap64 (x3_1 + ((rd_L2 l0 x11_1).length:Int))) < 0
      ·rw [if_pos c5] at H
       exact absurd H (by simp)
      ·rw [if_neg c5] at H
       have c5b0:decide ((wrap64 (x3_1 + ((rd_L2 l0 x11_1).length:Int))) < 0) = false:=decide_eq_false c5
       clear c5
       have H':=Aside0.mk H
       clear H
       have p341:0 ≤ (x11_1:Int):=oD
       have q341:x11_1 < (l0.length:Int):=oD
       obtain ⟨ad341,A341_0,c341_0,e341,hx341_0,hl341_0,hi341_0⟩:=at_L2 HR0.out x11_1 p341 q341
       cases e341
       replace hx341_0:=(HB.out.cell (World.block_lt_of_cell? w _ hx341_0)).trans hx341_0
       have HR341_0:=Aside0.mk hi341_0
       have HC341_0:=Aside0.mk hl341_0
       clear hi341_0 hl341_0
       replace p341:=eq_true p341
       replace q341:=eq_true q341
       go_wp2
       go_roundg k1
       case measure=>have:=HK1.out;omega
       case rel=>exact ⟨(wrap64 (x3_1 + ((rd_L2 l0 x11_1).length:Int))),(wrap64 (x11_1 + 1)),Yh,Yh,H',⟨by have:=HK1.out;omega⟩,⟨bH⟩⟩
     ·rw [if_neg c4] at H
      exact absurd H (by simp)
    ·rw [if_neg c3] at H
     exact absurd H (by simp)
   ·rw [if_neg c2] at H
    have c2b0:decide (x11_1 < (l0.length:Int)) = false:=decide_eq_false c2
    clear c2
    replace H:=Option.bind_eq_some_iff.mp H
    obtain ⟨t342,A60,H⟩:=H
    replace H:(slices_Concat_string_string.l1 k1 t342 l0 (l0.length:Int) 0) = some r:=H
    have A6:=Aside0.mk A60
    clear A60
    have H':=Aside0.mk H
    clear H
    go_wp2_with (first|((with_reducible refine gate_callee (f:=77) rfl ?_);refine goesL_ (some 24) rfl rfl Try.func77 (by kernel_rfl) rfl #[.slice none 0 0,.int .i64 x3_1] rfl Ya ?_;(with_reducible refine (slices_Grow_string_string.calls  x3_1 t342 _ A6.out).mono ?_);rintro e w7 ⟨v343,rfl,ho0,hb⟩;refine ⟨_,rfl,?_⟩;have HO344:=Aside0.mk (Kd.R_lower ho0 (below_size bH));replace HB:=Aside0.mk (below_step bH hb);(try clear hb);(try clear hb2);(try clear hk);(try clear hi);(try clear ho0)))
    go_loopg [6,27] k1 (fun kq v6 v27 w'=>∃ (x6_2:List ByteArray) (x27_2:Int),v27 = .int .i64 x27_2 ∧ Aside0 (slices_Concat_string_string.l1 kq x6_2 l0 (l0.length:Int) x27_2 = some r) ∧ Aside0 (kq ≤ k1) ∧ Aside0 (Kd.R Kd.string 9 w' w.heap.size (fun _=>True) v6 x6_2) ∧ Aside0 (Below w.heap.size w w'))
    case atStart=>exact ⟨(t342),(0),Yh,H',⟨Nat.le_refl _⟩,⟨rR HO344⟩,⟨bH⟩⟩
    case round =>
     clear H'
     try clear c2
     try clear c2b0
     try clear p2
     try clear c3
     try clear c3b0
     try clear p3
     try clear q3
     try clear hx3
     try clear c4
     try clear c4b0
     try clear c5
     try clear c5b0
     try clear p6
     try clear c7
     try clear hx341_0
     try clear p341
     try clear q341
     obtain ⟨x6_2,x27_2,rfl,HA,HK2,HO_6,HB⟩:=hrel
     cases gk with
     | zero=>exact absurd HA.out (by simp [slices_Concat_string_string.l1])
     | succ k2 =>
      have H:=HA.out
      clear HA
      simp only [slices_Concat_string_string.l1] at H
      by_cases c8:x27_2 < (l0.length:Int)
      ·rw [if_pos c8] at H
       have c8b0:=decide_eq_true c8
       clear c8
       by_cases c9:0 ≤ x27_2
       ·rw [if_pos c9] at H
        have c9b0:=decide_eq_true c9
        clear c9
        by_cases c10:x27_2 < (l0.length:Int)
        ·rw [if_pos c10] at H
         have c10b0:=decide_eq_true c10
         clear c10
         by_cases c11:x6_2.length + (rd_L2 l0 x27_2).length < 8796093022208
         ·rw [if_pos c11] at H
          have LMc11:=Aside0.mk c11
          clear c11
          obtain ⟨y346,hy346⟩:∃ y_:List ByteArray,y_ = (x6_2 ++ (rd_L2 l0 x27_2)):=⟨_,rfl⟩
          replace H:(slices_Concat_string_string.l1 k2 y346 l0 (l0.length:Int) (wrap64 (x27_2 + 1))) = some r:=by first|(rw [hy346];with_reducible exact H)|(have H2_:=(Option.bind_some _ _).symm.trans H;rw [hy346];with_reducible exact H2_)|(have H2_:=(Option.bind_some _ _).symm.trans H;with_reducible exact H2_)|with_reducible exact H|(rw [hy346];exact H)|exact H
          have Ny346:=Aside0.mk hy346
          clear hy346
          have H':=Aside0.mk H
          clear H
          have p345:0 ≤ (x27_2:Int):=oD
          have q345:x27_2 < (l0.length:Int):=oD
          obtain ⟨ad345,A345_0,c345_0,e345,hx345_0,hl345_0,hi345_0⟩:=at_L2 HR0.out x27_2 p345 q345
          cases e345
          replace hx345_0:=(HB.out.cell (World.block_lt_of_cell? w _ hx345_0)).trans hx345_0
          have HR345_0:=Aside0.mk hi345_0
          have HC345_0:=Aside0.mk hl345_0
          clear hi345_0 hl345_0
          replace p345:=eq_true p345
          replace q345:=eq_true q345
          go_wp2_with (first|((with_reducible refine gate_builtin (b:=.append) (xs:=#[.tmp 31,.tmp 32]) rfl ?_);at_builtin;refine Kd.R_append_rows Kd.string (w0:=w) w.heap.size rfl (.tmp 31) (.tmp 32) 24 9 (.string ⟨#[]⟩) 16 rfl Try.underlying24 info9 rfl (by decide) Yy u6 x6_2 (rd_L2 l0 x27_2) _ _ _ (fun _=>True) (fun _=>False) rfl rfl ?aO ?aR (fun _ _ h=>h) (fun _ h=>h.elim) ?aF ?aB ?aS ?aL ?_;(case aR=>exact sC HR345_0);(case aB=>exact bH);(case aF=>exact YE);(case aO=>exact (rR HO_6));(case aS=>exact YB);(case aL=>have:=LMc11.out;omega);intro v347 w12 ho hb hg hat;rw [← Ny346.out] at ho;have n0_:=Aside0.mk (hb);have n1_:=Aside0.mk (ho);clear HB;clear HO_6;have HB:=n0_;have HO348:=n1_;clear n0_ n1_;clear ho hb hg hat))
          go_roundg k2
          case measure=>have:=HK1.out;have:=HK2.out;omega
          case rel=>exact ⟨(y346),(wrap64 (x27_2 + 1)),Yh,H',⟨ZQ⟩,⟨rR HO348⟩,⟨bH⟩⟩
         ·rw [if_neg c11] at H
          exact absurd H (by simp)
        ·rw [if_neg c10] at H
         exact absurd H (by simp)
       ·rw [if_neg c9] at H
        exact absurd H (by simp)
      ·rw [if_neg c8] at H
       have c8b0:decide (x27_2 < (l0.length:Int)) = false:=decide_eq_false c8
       clear c8
       obtain rfl:=Option.some.inj H
       go_wp2
       go_ret
       exact ⟨_,Yb,rR HO_6,bH⟩

/-! ### impl_Disk_size: function 47 -/
def impl_Disk_size.f (l0_0:List ByteArray) (l0_1:List ByteArray):Option (Int):=some (wrap64 ((l0_0.length:Int) + (l0_1.length:Int)))
set_option maxHeartbeats 8000000 in
set_option maxRecDepth 100000 in
theorem impl_Disk_size.calls (A0_0:Option Addr) (c0_0:Nat) (l0_0:List ByteArray) (A0_1:Option Addr) (c0_1:Nat) (l0_1:List ByteArray) (r:Int) (w:World) (hr0_0:Kd.C Kd.string w A0_0 l0_0.length l0_0) (hc0_0:l0_0.length ≤ c0_0) (hr0_1:Kd.C Kd.string w A0_1 l0_1.length l0_1) (hc0_1:l0_1.length ≤ c0_1) (h:impl_Disk_size.f l0_0 l0_1 = some r) :
  Calls Try.prog 47 #[.agg #[.slice A0_0 l0_0.length c0_0,.slice A0_1 l0_1.length c0_1]] w fun e w'=>e = .returned (.int .i64 r) ∧ Below w.heap.size w w':=by
 have hu26:=Try.underlying26
 have HR0_0:=Aside0.mk hr0_0
 have HC0_0:=Aside0.mk hc0_0
 clear hr0_0 hc0_0
 have HR0_1:=Aside0.mk hr0_1
 have HC0_1:=Aside0.mk hc0_1
 clear hr0_1 hc0_1
 have HB:=Aside0.mk (Below.refl w.heap.size w)
 have H:(some (wrap64 ((l0_0.length:Int) + (l0_1.length:Int)))) = some r:=h
 clear h
 obtain rfl:=Option.some.inj H
 go_enter Try.func47,Try.ntmps47
 go_wp2_with (first|((with_reducible refine gate_dst (N:=1) rfl ?_);refine box_event ?hg (N:=1) ?hd (cs:=#[.slice A0_0 l0_0.length c0_0,.slice A0_1 l0_1.length c0_1]) (t:=26) ?hr ?_;(case hd=>rfl);(case hg=>rfl);(case hr=>exact Yg);intro gb349 hg w2 hbox hb;have BK349:=Aside0.mk (hbox);have GW349:=Aside0.mk ((hZ:w.heap.size ≤ gb349));have GE349:=Aside0.mk ((hZ:w.heap.size ≤ gb349));replace HB:=Aside0.mk (below_step bH hb);clear hb hbox hg;have hcz3_0:w2.cell? ⟨gb349,0,none⟩ = some (.slice A0_0 l0_0.length c0_0):=(blk_cell BK349.out 0).trans rfl;have hcz3_1:w2.cell? ⟨gb349,1,none⟩ = some (.slice A0_1 l0_1.length c0_1):=(blk_cell BK349.out 1).trans rfl;have hfz3_0:=blk_frozen BK349.out 0;have hfz3_1:=blk_frozen BK349.out 1))
 go_ret
 exact ⟨Yb,bH⟩

/-! ### impl_GoodDisk_1: function 49 -/
def impl_GoodDisk_1.f (a0:ByteArray):Option (Bool):=some ((a0.size:Int) != 16)
set_option maxHeartbeats 8000000 in
set_option maxRecDepth 100000 in
theorem impl_GoodDisk_1.calls (a0:ByteArray) (r:Bool) (w:World) (h:impl_GoodDisk_1.f a0 = some r) :
  Calls Try.prog 49 #[.string a0] w fun e w'=>e = .returned (.bool r) ∧ Drawn0 w w':=by
 have H:(some ((a0.size:Int) != 16)) = some r:=h
 clear h
 obtain rfl:=Option.some.inj H
 go_enter Try.func49,Try.ntmps49
 go_wp2
 go_ret
 exact ⟨Yh,Yp⟩

/-! ### slices.ContainsFunc and IndexFunc, told -/
/-- The place of the first element of which f holds, told from i on; -1. -/
def idxO {α:Type} (f:α → Option Bool):Int → List α → Option Int
 | _,[]=>some (-1)
 | i,x :: t=>(f x).bind fun b=>if b = true then some i else idxO f (i + 1) t
/-- Does f hold of an element? -/
def anyO {α:Type} (f:α → Option Bool):List α → Option Bool
 | []=>some false
 | x :: t=>(f x).bind fun b=>if b = true then some true else anyO f t
theorem idxO_any {α:Type} (f:α → Option Bool) (l:List α):∀ (i:Int) (r:Bool),0 ≤ i → anyO f l = some r → ∃ j,idxO f i l = some j ∧ r = decide (0 ≤ j):=by
 induction l with
 | nil=>intro i r hi h;exact ⟨-1,rfl,by simpa [anyO] using h.symm⟩
 | cons x t ih =>
  intro i r hi h
  simp only [anyO] at h
  simp only [idxO]
  cases hx:f x with
  | none=>rw [hx] at h;simp at h
  | some b =>
   rw [hx] at h
   cases b with
   | true=>simp at h;exact ⟨i,by simp,by simp [hi,← h]⟩
   | false =>
    simp at h
    obtain ⟨j,h1,h2⟩:=ih (i + 1) r (by omega) h
    exact ⟨j,by simpa using h1,h2⟩
theorem anyO_mono {α:Type} {f g:α → Option Bool} (h:∀ x,LeO (f x) (g x)) (l:List α):LeO (anyO f l) (anyO g l):=by
 induction l with
 | nil=>exact LeO.refl _
 | cons x t ih =>
  simp only [anyO]
  exact LeO.bind (h x) (fun b=>LeO.ite (LeO.refl _) ih)
theorem idxO_mono {α:Type} {f g:α → Option Bool} (h:∀ x,LeO (f x) (g x)) (l:List α):∀ i,LeO (idxO f i l) (idxO g i l):=by
 induction l with
 | nil=>exact fun _=>LeO.refl _
 | cons x t ih =>
  intro i
  simp only [idxO]
  exact LeO.bind (h x) (fun b=>LeO.ite (LeO.refl _) (ih _))

/-! ### slices_IndexFunc: function 84 -/
set_option maxHeartbeats 2000000 in
set_option maxRecDepth 100000 in
theorem idx84 (g:Nat) (lb:Array Value) (eg:∀ args w,(callFunc g args).run Try.prog w = .ok (.enter g args) w) (f:ByteArray → Option Bool) (A:Option Addr) (c:Nat) (l:List ByteArray) (r:Int) (w:World) (hr:Kd.C Kd.string w A l.length l) (hc:l.length ≤ c)
  (hp:∀ (W:World) (x:ByteArray) (b:Bool),Below w.heap.size w W → f x = some b → Calls Try.prog g (#[.string x] ++ lb) W fun e w'=>e = .returned (.bool b) ∧ Below W.heap.size W w')
  (h:idxO f 0 l = some r) :
  Calls Try.prog 84 #[.slice A l.length c,.func (.func g) #[] lb] w fun e w'=>e = .returned (.int .i64 r) ∧ Below w.heap.size w w':=by
 have HR:=Aside0.mk hr
 have HP:=Aside0.mk hp
 have HL:=Aside0.mk hr.2.1
 have H:=Aside0.mk h
 clear hr hp h hc
 go_enter Try.func84,Try.ntmps84
 go_wp2
 go_loopg [5,8] (l.length + 1) (fun kq _ v8 w'=>∃ kk:Nat,v8 = .int .i64 kk ∧ Aside0 (kk ≤ l.length ∧ l.length + 1 ≤ kq + kk) ∧ Aside0 (idxO f kk (l.drop kk) = some r) ∧ Aside0 (Below w.heap.size w w'))
 case atStart=>exact ⟨0,rfl,⟨Nat.zero_le _,by omega⟩,⟨by simpa using H.out⟩,⟨Below.refl _ _⟩⟩
 case round =>
  obtain ⟨kk,rfl,HK,HI,HB⟩:=hrel
  have hkk:=HK.out.1
  by_cases hlt:kk < l.length
  ·have hd:l.drop kk = l[kk] :: l.drop (kk + 1):=List.drop_eq_getElem_cons hlt
   have hi:=HI.out
   rw [hd] at hi
   simp only [idxO] at hi
   obtain ⟨b,hb,hi⟩:=Option.bind_eq_some_iff.1 hi
   have HW:=Aside0.mk (show wrap64 ((kk:Int) + 1) = ((kk + 1:Nat):Int) from by have:=HL.out;unfold wrap64;omega)
   have p:0 ≤ (kk:Int):=by omega
   have q:(kk:Int) < (l.length:Int):=by omega
   have q1:decide (kk < l.length) = true:=decide_eq_true hlt
   have q2:decide ((kk:Int) < (l.length:Int)) = true:=decide_eq_true q
   obtain ⟨ad,e1,hx0⟩:=Kd.at_string HR.out (kk:Int) p q
   cases e1
   have hrd:rdOf ByteArray.empty l (kk:Int) = l[kk]:=by unfold rdOf;simp [List.getD_eq_getElem?_getD,List.getElem?_eq_getElem hlt]
   rw [hrd] at hx0
   clear hrd
   replace hx0:=(HB.out.cell (World.block_lt_of_cell? w _ hx0)).trans hx0
   rw [Int.toNat_natCast] at hx0
   generalize hy:l[kk] = y at hx0 hb
   clear hy hd
   have HC:=Aside0.mk (HP.out wr y b HB.out hb)
   clear HI hkk
   cases b with
   | true =>
    have HE:=Aside0.mk (Option.some.inj hi)
    clear hi hb
    go_wp2_with fail
    refine HC.out.mono ?_
    rintro e w' ⟨rfl,hb'⟩
    have HB2:=Aside0.mk (below_step HB.out hb')
    clear HB hb' HC hx0
    have HB:=HB2
    clear HB2
    go_wp2_with fail
    go_ret
    exact ⟨by rw [← HE.out];rfl,HB.out⟩
   | false =>
    have HE:=Aside0.mk hi
    clear hi hb
    go_wp2_with fail
    refine HC.out.mono ?_
    rintro e w' ⟨rfl,hb'⟩
    have HB2:=Aside0.mk (below_step HB.out hb')
    clear HB hb' HC hx0
    have HB:=HB2
    clear HB2
    go_wp2_with fail
    go_roundg (l.length - kk)
    case measure=>have:=HK.out;omega
    case rel=>exact ⟨kk + 1,by rw [HW.out],⟨by have:=HK.out;omega⟩,⟨by rw [show ((kk + 1:Nat):Int) = (kk:Int) + 1 from by omega];simpa using HE.out⟩,HB⟩
  ·have HE:=Aside0.mk (show -1 = r from by have:=HI.out;rw [List.drop_eq_nil_of_le (by omega)] at this;simp [idxO] at this;exact this)
   have q1:decide (kk < l.length) = false:=decide_eq_false hlt
   have q2:decide ((kk:Int) < (l.length:Int)) = false:=decide_eq_false (by omega)
   clear HI hkk
   go_wp2
   go_ret
   exact ⟨by rw [← HE.out];rfl,HB.out⟩

/-! ### slices_ContainsFunc: function 48 -/
set_option maxHeartbeats 2000000 in
theorem any48 (g:Nat) (lb:Array Value) (eg:∀ args w,(callFunc g args).run Try.prog w = .ok (.enter g args) w) (f:ByteArray → Option Bool) (A:Option Addr) (c:Nat) (l:List ByteArray) (r:Bool) (w:World) (hr:Kd.C Kd.string w A l.length l) (hc:l.length ≤ c)
  (hp:∀ (W:World) (x:ByteArray) (b:Bool),Below w.heap.size w W → f x = some b → Calls Try.prog g (#[.string x] ++ lb) W fun e w'=>e = .returned (.bool b) ∧ Below W.heap.size W w')
  (h:anyO f l = some r) :
  Calls Try.prog 48 #[.slice A l.length c,.func (.func g) #[] lb] w fun e w'=>e = .returned (.bool r) ∧ Below w.heap.size w w':=by
 obtain ⟨j,hj,hr2⟩:=idxO_any f l 0 r (Int.le_refl _) h
 have HR:=Aside0.mk hr2
 have HC:=Aside0.mk (fun W hW=>idx84 g lb eg f A c l j W (Kd.C_below hr hW) hc (fun W' x b h1=>hp W' x b (hW.trans (h1.mono hW.size))) hj)
 clear hr hp h hc hj hr2 eg
 go_enter Try.func48,Try.ntmps48
 go_wp2_with fail
 refine (HC.out _ (Below.refl _ _)).mono ?_
 rintro e w' ⟨rfl,hb⟩
 have HB:=Aside0.mk hb
 clear hb HC
 go_wp2
 go_ret
 exact ⟨by rw [HR.out];rfl,HB.out⟩

/-! ### impl_GoodDisk_1_any: function 1000000 -/
def impl_GoodDisk_1_any.f (l0:List ByteArray):Option (Bool):=anyO (fun x=>impl_GoodDisk_1.f x) l0
theorem impl_GoodDisk_1_any.calls (A0:Option Addr) (c0:Nat) (l0:List ByteArray) (r:Bool) (w:World) (hr0:Kd.C Kd.string w A0 l0.length l0) (hc0:l0.length ≤ c0) (h:impl_GoodDisk_1_any.f l0 = some r) :
  Calls Try.prog 48 #[.slice A0 l0.length c0,.func (.func 49) #[] #[]] w fun e w'=>e = .returned (.bool r) ∧ Below w.heap.size w w':=by
 exact any48 49 #[] (enters_of Try.func49 (by kernel_rfl) rfl) (fun x=>impl_GoodDisk_1.f x) A0 c0 l0 r w hr0 hc0 (fun W x b hW hx=>(impl_GoodDisk_1.calls x b W    hx).mono fun _ _ h_=>⟨h_.1,h_.2.below⟩) h

/-! ### impl_GoodDisk: function 11 -/
def impl_GoodDisk.f (k:Nat) (l0_0:List ByteArray) (l0_1:List ByteArray):Option (Bool):=(impl_Disk_size.f l0_0 l0_1).bind fun t351=>(if t351 ≤ 400 then ((slices_Concat_string_string.f k (([l0_0,l0_1]:List (List ByteArray)))).bind fun t355=>((impl_GoodDisk_1_any.f t355).bind fun t358=>(some (!t358)))) else (some false))
theorem impl_GoodDisk.mono:∀ a0 a1 k,LeO (impl_GoodDisk.f k a0 a1) (impl_GoodDisk.f (k + 1) a0 a1):=by
 intro a0 a1 k
 unfold impl_GoodDisk.f
 have m0:=@slices_Concat_string_string.mono
 exact mO
set_option maxHeartbeats 8000000 in
set_option maxRecDepth 100000 in
theorem impl_GoodDisk.calls (k:Nat) (P0_0_:Nat → Prop) (A0_0:Option Addr) (c0_0:Nat) (l0_0:List ByteArray) (P0_1_:Nat → Prop) (A0_1:Option Addr) (c0_1:Nat) (l0_1:List ByteArray) (r:Bool) (w:World) (hs0_0:Kd.V Kd.string 9 w w.heap.size (fun k_=>P0_0_ k_) (.slice A0_0 l0_0.length c0_0) l0_0) (hs0_1:Kd.V Kd.string 9 w w.heap.size (fun k_=>P0_1_ k_) (.slice A0_1 l0_1.length c0_1) l0_1) (h:impl_GoodDisk.f k l0_0 l0_1 = some r) :
  Calls Try.prog 11 #[.agg #[.slice A0_0 l0_0.length c0_0,.slice A0_1 l0_1.length c0_1]] w fun e w'=>e = .returned (.bool r) ∧ Below w.heap.size w w':=by
 have hu26:=Try.underlying26
 have HO0_0:=Aside0.mk (show Kd.V Kd.string 9 w w.heap.size (fun k_=>((P0_0_ k_ ∨ P0_1_ k_) ∨ w.heap.size ≤ k_)) (.slice A0_0 l0_0.length c0_0) l0_0 from Kd.V_mono hs0_0 (fun k_ hk=>.inl (.inl hk)))
 have HO0_1:=Aside0.mk (show Kd.V Kd.string 9 w w.heap.size (fun k_=>((P0_0_ k_ ∨ P0_1_ k_) ∨ w.heap.size ≤ k_)) (.slice A0_1 l0_1.length c0_1) l0_1 from Kd.V_mono hs0_1 (fun k_ hk=>.inl (.inr hk)))
 have HB:=Aside0.mk (Below.refl w.heap.size w)
 have H:((impl_Disk_size.f l0_0 l0_1).bind fun t351=>(if t351 ≤ 400 then ((slices_Concat_string_string.f k (([l0_0,l0_1]:List (List ByteArray)))).bind fun t355=>((impl_GoodDisk_1_any.f t355).bind fun t358=>(some (!t358)))) else (some false))) = some r:=h
 clear h
 replace H:=Option.bind_eq_some_iff.mp H
 obtain ⟨t351,A20,H⟩:=H
 replace H:(if t351 ≤ 400 then ((slices_Concat_string_string.f k (([l0_0,l0_1]:List (List ByteArray)))).bind fun t355=>((impl_GoodDisk_1_any.f t355).bind fun t358=>(some (!t358)))) else (some false)) = some r:=H
 have A2:=Aside0.mk A20
 clear A20
 by_cases c3:t351 ≤ 400
 ·rw [if_pos c3] at H
  have c3b0:=decide_eq_true c3
  clear c3
  obtain ⟨y352,hy352⟩:∃ y_:List (List ByteArray),y_ = (([l0_0,l0_1]:List (List ByteArray))):=⟨_,rfl⟩
  replace H:((slices_Concat_string_string.f k y352).bind fun t355=>((impl_GoodDisk_1_any.f t355).bind fun t358=>(some (!t358)))) = some r:=by first|(rw [hy352];with_reducible exact H)|(have H2_:=(Option.bind_some _ _).symm.trans H;rw [hy352];with_reducible exact H2_)|(have H2_:=(Option.bind_some _ _).symm.trans H;with_reducible exact H2_)|with_reducible exact H|(rw [hy352];exact H)|exact H
  have Ny352:=Aside0.mk hy352
  clear hy352
  replace H:=Option.bind_eq_some_iff.mp H
  obtain ⟨t355,A40,H⟩:=H
  replace H:((impl_GoodDisk_1_any.f t355).bind fun t358=>(some (!t358))) = some r:=H
  have A4:=Aside0.mk A40
  clear A40
  replace H:=Option.bind_eq_some_iff.mp H
  obtain ⟨t358,A50,H⟩:=H
  replace H:(some (!t358)) = some r:=H
  have A5:=Aside0.mk A50
  clear A50
  obtain rfl:=Option.some.inj H
  go_enter Try.func11,Try.ntmps11
  go_wp2_with (first|((with_reducible refine gate_dst (N:=1) rfl ?_);(try (refine gate_guard (by rfl) ?_;dsimp only));refine box_event ?hg (N:=1) ?hd (cs:=#[.slice A0_0 l0_0.length c0_0,.slice A0_1 l0_1.length c0_1]) (t:=26) ?hr ?_;(case hd=>rfl);(case hg=>rfl);(case hr=>exact Yg);intro gb350 hg w6 hbox hb;replace HO0_0:=Aside0.mk (Kd.V_below (Kd.V_elderB (rV HO0_0) gb350 (Nat.le_of_eq hg.symm)) hb);replace HO0_1:=Aside0.mk (Kd.V_below (Kd.V_elderB (rV HO0_1) gb350 (Nat.le_of_eq hg.symm)) hb);have BK350:=Aside0.mk (hbox);have GW350:=Aside0.mk ((hZ:w.heap.size ≤ gb350));have GE350:=Aside0.mk ((hZ:w.heap.size ≤ gb350));replace HB:=Aside0.mk (below_step bH hb);clear hb hbox hg;have hcz7_0:w6.cell? ⟨gb350,0,none⟩ = some (.slice A0_0 l0_0.length c0_0):=(blk_cell BK350.out 0).trans rfl;have hcz7_1:w6.cell? ⟨gb350,1,none⟩ = some (.slice A0_1 l0_1.length c0_1):=(blk_cell BK350.out 1).trans rfl;have hfz7_0:=blk_frozen BK350.out 0;have hfz7_1:=blk_frozen BK350.out 1)|((with_reducible refine gate_callee (f:=47) rfl ?_);refine goesL_ (some 4) rfl rfl Try.func47 (by kernel_rfl) rfl #[.agg #[.slice A0_0 l0_0.length c0_0,.slice A0_1 l0_1.length c0_1]] rfl Ya ?_;(with_reducible refine (impl_Disk_size.calls _ _ l0_0 _ _ l0_1 t351 _ ?side1 ?side2 ?side3 ?side4 A2.out).mono ?_);(case side1=>repeat (first|exact (Kd.V_reads' HO0_0.out).2.2|(with_reducible refine Kd.C_alloc ?_ _)|(with_reducible refine Kd.C_drewN ?_ _)|(with_reducible refine Kd.C_drew ?_)));(case side2=>exact (Kd.V_reads' HO0_0.out).2.1);(case side3=>repeat (first|exact (Kd.V_reads' HO0_1.out).2.2|(with_reducible refine Kd.C_alloc ?_ _)|(with_reducible refine Kd.C_drewN ?_ _)|(with_reducible refine Kd.C_drew ?_)));(case side4=>exact (Kd.V_reads' HO0_1.out).2.1);rintro e w8 ⟨rfl,hb⟩;refine ⟨_,rfl,?_⟩;replace HO0_0:=Aside0.mk (Kd.V_below (rV HO0_0) hb);replace HO0_1:=Aside0.mk (Kd.V_below (rV HO0_1) hb);replace BK350:=Aside0.mk (blk_below (bB BK350) hb);replace HB:=Aside0.mk (below_step bH hb);(try clear hb);(try clear hb2);(try clear hk);(try clear hi);have hcz9_0:w8.cell? ⟨gb350,0,none⟩ = some (.slice A0_0 l0_0.length c0_0):=(blk_cell BK350.out 0).trans rfl;have hcz9_1:w8.cell? ⟨gb350,1,none⟩ = some (.slice A0_1 l0_1.length c0_1):=(blk_cell BK350.out 1).trans rfl;have hfz9_0:=blk_frozen BK350.out 0;have hfz9_1:=blk_frozen BK350.out 1)|((with_reducible refine gate_dst (N:=11) rfl ?_);(try (refine gate_guard (by rfl) ?_;dsimp only));refine Kd.N_lit (Kd.slice 9 Kd.string) _ 24 ?hg (N':=11) ?hd (xs:=([l0_0,l0_1]:List (List ByteArray))) (inner:=[.slice A0_0 l0_0.length c0_0,.slice A0_1 l0_1.length c0_1]) (ok:=(fun k_=>((P0_0_ k_ ∨ P0_1_ k_) ∨ w.heap.size ≤ k_) ∧ k_ ≠ gb350)) (okp:=(fun k_=>((P0_0_ k_ ∨ P0_1_ k_) ∨ w.heap.size ≤ k_) ∧ k_ ≠ gb350)) ?hr ?hp (fun _ hk=>hk) ((show ∀ k_,w8.heap.size ≤ k_ → (fun k_=>((P0_0_ k_ ∨ P0_1_ k_) ∨ w.heap.size ≤ k_) ∧ k_ ≠ gb350) k_ from fun k_ hk=>⟨(.inr (Nat.le_trans (below_size bH) hk)),Kd.freshB (bB BK350) k_ hk⟩) _ (Nat.le_refl _)) (Below.refl _ _) (Nat.le_refl _) (by simp) ?_;(case hd=>rfl);(case hg=>rfl);(case hr=>exact Yg);(case hp=>exact (Reps.one (show Kd.FK (Kd.slice 9 Kd.string) _ _ l0_0 [.slice A0_0 l0_0.length c0_0] from (Kd.FK_slice_mk (Kd.V_reads' (Kd.V_mono (ok':=(fun k_=>((P0_0_ k_ ∨ P0_1_ k_) ∨ w.heap.size ≤ k_) ∧ k_ ≠ gb350)) (HO0_0.out) (fun k_ hk=>⟨hk.1,hk.2⟩))).2.1 (Kd.V_F (Kd.V_mono (ok':=(fun k_=>((P0_0_ k_ ∨ P0_1_ k_) ∨ w.heap.size ≤ k_) ∧ k_ ≠ gb350)) (HO0_0.out) (fun k_ hk=>⟨hk.1,hk.2⟩))))) (Reps.one (show Kd.FK (Kd.slice 9 Kd.string) _ _ l0_1 [.slice A0_1 l0_1.length c0_1] from (Kd.FK_slice_mk (Kd.V_reads' (Kd.V_mono (ok':=(fun k_=>((P0_0_ k_ ∨ P0_1_ k_) ∨ w.heap.size ≤ k_) ∧ k_ ≠ gb350)) (HO0_1.out) (fun k_ hk=>⟨hk.1,hk.2⟩))).2.1 (Kd.V_F (Kd.V_mono (ok':=(fun k_=>((P0_0_ k_ ∨ P0_1_ k_) ∨ w.heap.size ≤ k_) ∧ k_ ≠ gb350)) (HO0_1.out) (fun k_ hk=>⟨hk.1,hk.2⟩))))) (Reps.none _ _))));intro v353 w10 ho11 hb hg_ hnew_;clear hg_ hnew_;(first|rw [← Ny352.out] at ho11|(simp only [Int.reduceToNat] at ho11;rw [← Ny352.out] at ho11));replace HO0_0:=Aside0.mk (Kd.V_elder' (rV HO0_0) (Kd.N_base ho11) hb);replace HO0_1:=Aside0.mk (Kd.V_elder' (rV HO0_1) (Kd.N_base ho11) hb);have HO354:=Aside0.mk (Kd.N_lower ho11 (below_size bH));replace BK350:=Aside0.mk (blk_below (bB BK350) hb);replace HB:=Aside0.mk (below_step bH hb);clear hb ho11;obtain ⟨Ao12,co12,eo12⟩:=Kd.N_slice HO354.out;subst eo12)|(go_at_call 44;(with_reducible refine (slices_Concat_string_string.calls k _ _ y352 t355 _ ?side1 ?side2 A4.out).mono ?_);(case side1=>repeat (first|exact (Kd.N_reads' HO354.out).2.2|(with_reducible refine Kd.C_alloc ?_ _)|(with_reducible refine Kd.C_drewN ?_ _)|(with_reducible refine Kd.C_drew ?_)));(case side2=>exact (Kd.N_reads' HO354.out).2.1);rintro e w13 ⟨v356,rfl,ho0,hb⟩;replace HO0_0:=Aside0.mk (Kd.V_elder' (rV HO0_0) (Kd.R_base ho0) hb);replace HO0_1:=Aside0.mk (Kd.V_elder' (rV HO0_1) (Kd.R_base ho0) hb);replace HO354:=Aside0.mk (Kd.N_elder' (rN HO354) (Kd.R_base ho0) hb);have HO357:=Aside0.mk (Kd.R_lower (Kd.R_newM (M:=fun k_=>(w.heap.size ≤ k_)) ho0 (below_size bH) (fun k_ h_=>h_)) (below_size bH));replace BK350:=Aside0.mk (blk_below (bB BK350) hb);replace HB:=Aside0.mk (below_step bH hb);(try clear hb);(try clear hb2);(try clear hk);(try clear hi);(try clear ho0);obtain ⟨Ao14,co14,eo14⟩:=Kd.R_slice HO357.out;subst eo14)|(go_at_call 48;(with_reducible refine (impl_GoodDisk_1_any.calls _ _ t355 t358 _ ?side1 ?side2 A5.out).mono ?_);(case side1=>repeat (first|exact (Kd.R_reads' HO357.out).2.2|(with_reducible refine Kd.C_alloc ?_ _)|(with_reducible refine Kd.C_drewN ?_ _)|(with_reducible refine Kd.C_drew ?_)));(case side2=>exact (Kd.R_reads' HO357.out).2.1);rintro e w15 ⟨rfl,hb⟩;replace HO0_0:=Aside0.mk (Kd.V_below (rV HO0_0) hb);replace HO0_1:=Aside0.mk (Kd.V_below (rV HO0_1) hb);replace HO354:=Aside0.mk (Kd.N_below (rN HO354) hb);replace HO357:=Aside0.mk (Kd.R_below (rR HO357) hb);replace BK350:=Aside0.mk (blk_below (bB BK350) hb);replace HB:=Aside0.mk (below_step bH hb);(try clear hb);(try clear hb2);(try clear hk);(try clear hi)))
  go_ret
  exact ⟨Yb,bH⟩
 ·rw [if_neg c3] at H
  have c3b0:decide (t351 ≤ 400) = false:=decide_eq_false c3
  clear c3
  obtain rfl:=Option.some.inj H
  go_enter Try.func11,Try.ntmps11
  go_wp2_with (first|((with_reducible refine gate_dst (N:=1) rfl ?_);(try (refine gate_guard (by rfl) ?_;dsimp only));refine box_event ?hg (N:=1) ?hd (cs:=#[.slice A0_0 l0_0.length c0_0,.slice A0_1 l0_1.length c0_1]) (t:=26) ?hr ?_;(case hd=>rfl);(case hg=>rfl);(case hr=>exact Yg);intro gb350 hg w16 hbox hb;replace HO0_0:=Aside0.mk (Kd.V_below (Kd.V_elderB (rV HO0_0) gb350 (Nat.le_of_eq hg.symm)) hb);replace HO0_1:=Aside0.mk (Kd.V_below (Kd.V_elderB (rV HO0_1) gb350 (Nat.le_of_eq hg.symm)) hb);have BK350:=Aside0.mk (hbox);have GW350:=Aside0.mk ((hZ:w.heap.size ≤ gb350));have GE350:=Aside0.mk ((hZ:w.heap.size ≤ gb350));replace HB:=Aside0.mk (below_step bH hb);clear hb hbox hg;have hcz17_0:w16.cell? ⟨gb350,0,none⟩ = some (.slice A0_0 l0_0.length c0_0):=(blk_cell BK350.out 0).trans rfl;have hcz17_1:w16.cell? ⟨gb350,1,none⟩ = some (.slice A0_1 l0_1.length c0_1):=(blk_cell BK350.out 1).trans rfl;have hfz17_0:=blk_frozen BK350.out 0;have hfz17_1:=blk_frozen BK350.out 1)|((with_reducible refine gate_callee (f:=47) rfl ?_);refine goesL_ (some 4) rfl rfl Try.func47 (by kernel_rfl) rfl #[.agg #[.slice A0_0 l0_0.length c0_0,.slice A0_1 l0_1.length c0_1]] rfl Ya ?_;(with_reducible refine (impl_Disk_size.calls _ _ l0_0 _ _ l0_1 t351 _ ?side1 ?side2 ?side3 ?side4 A2.out).mono ?_);(case side1=>repeat (first|exact (Kd.V_reads' HO0_0.out).2.2|(with_reducible refine Kd.C_alloc ?_ _)|(with_reducible refine Kd.C_drewN ?_ _)|(with_reducible refine Kd.C_drew ?_)));(case side2=>exact (Kd.V_reads' HO0_0.out).2.1);(case side3=>repeat (first|exact (Kd.V_reads' HO0_1.out).2.2|(with_reducible refine Kd.C_alloc ?_ _)|(with_reducible refine Kd.C_drewN ?_ _)|(with_reducible refine Kd.C_drew ?_)));(case side4=>exact (Kd.V_reads' HO0_1.out).2.1);rintro e w18 ⟨rfl,hb⟩;refine ⟨_,rfl,?_⟩;replace HO0_0:=Aside0.mk (Kd.V_below (rV HO0_0) hb);replace HO0_1:=Aside0.mk (Kd.V_below (rV HO0_1) hb);replace BK350:=Aside0.mk (blk_below (bB BK350) hb);replace HB:=Aside0.mk (below_step bH hb);(try clear hb);(try clear hb2);(try clear hk);(try clear hi)))
  go_ret
  exact ⟨Yb,bH⟩

end Go.Proofs.Ytmgkflkfoccgkab.QFnDisk
