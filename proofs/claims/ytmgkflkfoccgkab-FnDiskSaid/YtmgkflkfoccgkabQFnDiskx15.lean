-- Written by this session's own program (wip/x/xprint.py, over the kit's printer); Lean checks it.
import Derived.Test.YtmgkflkfoccgkabQFnDiskx0
import Derived.Test.YtmgkflkfoccgkabQFnDiskx1
import Derived.Test.YtmgkflkfoccgkabQFnDiskx3
import Derived.Test.YtmgkflkfoccgkabQFnDiskx5
import Derived.Test.YtmgkflkfoccgkabQFnDiskx6
import Derived.Test.YtmgkflkfoccgkabQFnDiskx7
import Derived.Test.YtmgkflkfoccgkabQFnDiskx8
namespace Go.Proofs.Ytmgkflkfoccgkab.QFnDisk
open Go.RowKit Go.Proofs.YtmgkflkfoccgkabW.PrintWords Go.Proofs.YtmgkflkfoccgkabW.PrintLast Go.Proofs.YtmgkflkfoccgkabW.PrintMore
attribute [local go_sem] max2_int min2_int max_two min_two max_three min_three max_four min_four   -- for this text's walks alone
set_option linter.unusedVariables false
set_option linter.unusedSimpArgs false

/-! ### spec_DrawPutText: function 17 -/
def spec_DrawPutText.f (k:Nat) (l0:List Int):Option (List ByteArray × List ByteArray × ByteArray):=(spec_l1Cur_disk.f k l0 0 0).bind fun bt463=>((spec_l1Cur_piece.f l0 bt463.2.2.1 bt463.2.2.2).bind fun bt472=>(some (bt463.1,bt463.2.1,bt472.1)))
theorem spec_DrawPutText.mono:∀ a0 k,LeO (spec_DrawPutText.f k a0) (spec_DrawPutText.f (k + 1) a0):=by
 intro a0 k
 unfold spec_DrawPutText.f
 have m0:=@spec_l1Cur_disk.mono
 exact mO
set_option maxHeartbeats 8000000 in
set_option maxRecDepth 100000 in
theorem spec_DrawPutText.calls (k:Nat) (A0:Option Addr) (c0:Nat) (l0:List Int) (r1:List ByteArray) (r2:List ByteArray) (r3:ByteArray) (w:World) (hr0:Kd.C (Kd.int .u8) w A0 l0.length l0) (hc0:l0.length ≤ c0) (h:spec_DrawPutText.f k l0 = some (r1,r2,r3)) :
  Calls Try.prog 17 #[.slice A0 l0.length c0] w fun e w'=>∃ v0_ v1_:Value,e = .returned (.tuple #[.agg #[v0_,v1_],.string r3]) ∧ Kd.R Kd.string 9 w' w.heap.size (fun k_=>some k_ ≠ (v1_:Value).ownBlock) v0_ r1 ∧ Kd.R Kd.string 9 w' w.heap.size (fun k_=>some k_ ≠ (v0_:Value).ownBlock) v1_ r2 ∧ Below w.heap.size w w':=by
 have hu26:=Try.underlying26
 have hu57:=Try.underlying57
 have HR0:=Aside0.mk hr0
 have HC0:=Aside0.mk hc0
 clear hr0 hc0
 have HB:=Aside0.mk (Below.refl w.heap.size w)
 have H:((spec_l1Cur_disk.f k l0 0 0).bind fun bt463=>((spec_l1Cur_piece.f l0 bt463.2.2.1 bt463.2.2.2).bind fun bt472=>(some (bt463.1,bt463.2.1,bt472.1)))) = some (r1,r2,r3):=h
 clear h
 replace H:=Option.bind_eq_some_iff.mp H
 obtain ⟨⟨t463,t466,t469,t470⟩,A20,H⟩:=H
 replace H:((spec_l1Cur_piece.f l0 t469 t470).bind fun bt472=>(some (t463,t466,bt472.1))) = some (r1,r2,r3):=H
 have A2:=Aside0.mk A20
 clear A20
 replace H:=Option.bind_eq_some_iff.mp H
 obtain ⟨⟨t472,t473,t474⟩,A30,H⟩:=H
 replace H:(some (t463,t466,t472)) = some (r1,r2,r3):=H
 have A3:=Aside0.mk A30
 clear A30
 simp only [Option.some.injEq,Prod.mk.injEq] at H
 obtain ⟨rfl,rfl,rfl⟩:=H
 go_enter Try.func17,Try.ntmps17
 try go_wp2_with (first|((with_reducible refine gate_dst (N:=2) rfl ?_);refine box_event ?hg (N:=2) ?hd (cs:=#[.slice none 0 0,.slice none 0 0]) (t:=26) ?hr ?_;(case hd=>rfl);(case hg=>rfl);(case hr=>exact Yg);intro gb461 hg w4 hbox hb;have BK461:=Aside0.mk (hbox);have GW461:=Aside0.mk ((hZ:w.heap.size ≤ gb461));have GE461:=Aside0.mk ((hZ:w.heap.size ≤ gb461));replace HB:=Aside0.mk (below_step bH hb);clear hb hbox hg)|((with_reducible refine gate_dst (N:=8) rfl ?_);refine box_event ?hg (N:=8) ?hd (cs:=#[.slice A0 l0.length c0,.int .i64 0,.int .u64 0]) (t:=57) ?hr ?_;(case hd=>rfl);(case hg=>rfl);(case hr=>exact Yg);intro gb462 hg w5 hbox hb;have BK462:=Aside0.mk (hbox);have GW462:=Aside0.mk ((hZ:w.heap.size ≤ gb462));have GE462:=Aside0.mk ((hZ:w.heap.size ≤ gb462));replace HB:=Aside0.mk (below_step bH hb);have NB461_462:=Aside0.mk ((nL BK461:gb461 ≠ gb462));have NB462_461:=Aside0.mk ((nG BK461:gb462 ≠ gb461));replace BK461:=Aside0.mk (blk_below (bB BK461) hb);clear hb hbox hg;have HI462:=Aside0.mk (show IsS57 w w5 gb462 l0 0 0 from ⟨_,_,BK462.out,GW462.out,HR0.out⟩);clear BK462)|((with_reducible refine gate_callee (f:=42) rfl ?_);refine goesL_ (some 10) rfl rfl Try.func42 (by kernel_rfl) rfl #[.pointer (some ⟨gb462,0,none⟩)] rfl Ya ?_;(with_reducible refine (spec_l1Cur_disk.calls k gb462 l0 0 0 t463 t466 t469 t470 w _ ?side1 ?side2 A2.out).mono ?_);(case side1=>exact Zf);(case side2=>exact bH);rintro e w6 ⟨v464,v467,rfl,ho0,ho1,hi,hb,hk⟩;refine ⟨_,rfl,?_⟩;replace BK461:=Aside0.mk (KeepBut.blk hk (g':=gb461) (o:=.cells #[.slice none 0 0,.slice none 0 0] 26 (0,0)) (bB BK461) NB461_462.out (by simp));have HO465:=Aside0.mk (Kd.R_lower ho0 (below_size bH));have HO468:=Aside0.mk (Kd.R_lower ho1 (below_size bH));replace HB:=Aside0.mk (hb);replace HI462:=Aside0.mk (hi);(try clear hb);(try clear hb2);(try clear hk);(try clear hi);(try clear ho0);(try clear ho1))|((with_reducible refine gate_dst (N:=5) rfl ?_);refine box_event ?hg (N:=5) ?hd (cs:=#[.slice none 0 0,.slice none 0 0]) (t:=26) ?hr ?_;(case hd=>rfl);(case hg=>rfl);(case hr=>exact Yg);intro gb471 hg w7 hbox hb;replace HO465:=Aside0.mk (Kd.R_below (rR HO465) hb);replace HO468:=Aside0.mk (Kd.R_below (rR HO468) hb);have BK471:=Aside0.mk (hbox);have GW471:=Aside0.mk ((by rw [hg];exact (below_size bH):w.heap.size ≤ gb471));have GE471:=Aside0.mk ((by rw [hg];exact (below_size bH):w.heap.size ≤ gb471));replace HB:=Aside0.mk (below_step bH hb);have NB461_471:=Aside0.mk ((nL BK461:gb461 ≠ gb471));have NB471_461:=Aside0.mk ((nG BK461:gb471 ≠ gb461));replace BK461:=Aside0.mk (blk_below (bB BK461) hb);have NB462_471:=Aside0.mk ((by rw [hg];exact Nat.ne_of_lt (IsS57.lt (show IsS57 w _ gb462 l0 t469 t470 from Zf)):gb462 ≠ gb471));have NB471_462:=Aside0.mk ((by rw [hg];exact Nat.ne_of_gt (IsS57.lt (show IsS57 w _ gb462 l0 t469 t470 from Zf)):gb471 ≠ gb462));replace HI462:=Aside0.mk (IsS57.below Zf hb);clear hb hbox hg;obtain ⟨Ao8,co8,eo8⟩:=Kd.R_slice HO465.out;subst eo8;have hnb9:=NB471_461.out;have hnc9:=NB461_471.out;have hnb10:=NB471_462.out;have hnc10:=NB462_471.out;have hcz11_0:w7.cell? ⟨gb471,0,none⟩ = some (.slice none 0 0):=(blk_cell BK471.out 0).trans rfl;have hcz11_1:w7.cell? ⟨gb471,1,none⟩ = some (.slice none 0 0):=(blk_cell BK471.out 1).trans rfl;have hfz11_0:=blk_frozen BK471.out 0;have hfz11_1:=blk_frozen BK471.out 1;obtain ⟨Ao12,co12,eo12⟩:=Kd.R_slice HO468.out;subst eo12))
 have n0_:Aside0 (Kd.R Kd.string 9 ((w7.setCell ⟨gb471,0,none⟩ (.slice Ao8 t463.length co8)).setCell ⟨gb471,1,none⟩ (.slice Ao12 t466.length co12)) w.heap.size (fun k_=>some k_ ≠ (.slice Ao12 t466.length co12:Value).ownBlock) (.slice Ao8 t463.length co8) t463):=⟨by (with_reducible repeat (first|apply Kd.R_alloc|apply Kd.R_drewN|apply Kd.R_drew));exact Kd.R_mono (Kd.R_far (p:=⟨gb471,1,none⟩) (Kd.R_far (p:=⟨gb471,0,none⟩) (Kd.R_types HO465.out BK471.out (by decide)) (fun _ hk=>hk.2) (.slice Ao8 t463.length co8)) (fun _ hk=>hk.2) (.slice Ao12 t466.length co12)) (fun _ hk=>hk.1)⟩
 have n1_:Aside0 (Kd.R Kd.string 9 ((w7.setCell ⟨gb471,0,none⟩ (.slice Ao8 t463.length co8)).setCell ⟨gb471,1,none⟩ (.slice Ao12 t466.length co12)) w.heap.size (fun k_=>some k_ ≠ (.slice Ao8 t463.length co8:Value).ownBlock) (.slice Ao12 t466.length co12) t466):=⟨by (with_reducible repeat (first|apply Kd.R_alloc|apply Kd.R_drewN|apply Kd.R_drew));exact Kd.R_mono (Kd.R_far (p:=⟨gb471,1,none⟩) (Kd.R_far (p:=⟨gb471,0,none⟩) (Kd.R_types HO468.out BK471.out (by decide)) (fun _ hk=>hk.2) (.slice Ao8 t463.length co8)) (fun _ hk=>hk.2) (.slice Ao12 t466.length co12)) (fun _ hk=>hk.1)⟩
 have n2_:Aside0 (((w7.setCell ⟨gb471,0,none⟩ (.slice Ao8 t463.length co8)).setCell ⟨gb471,1,none⟩ (.slice Ao12 t466.length co12)).heap[gb461]? = some (.cells #[.slice none 0 0,.slice none 0 0] 26 (0,0))):=⟨by (with_reducible repeat (first|refine blk_drewN ?_ _|refine blk_drew ?_|refine blk_alloc ?_ _));refine blk_far ?_ NB461_471.out _;(with_reducible repeat (first|refine blk_drewN ?_ _|refine blk_drew ?_|refine blk_alloc ?_ _));refine blk_far ?_ NB461_471.out _;(with_reducible repeat (first|refine blk_drewN ?_ _|refine blk_drew ?_|refine blk_alloc ?_ _));exact BK461.out⟩
 have n3_:Aside0 (((w7.setCell ⟨gb471,0,none⟩ (.slice Ao8 t463.length co8)).setCell ⟨gb471,1,none⟩ (.slice Ao12 t466.length co12)).heap[gb471]? = some (.cells #[.slice Ao8 t463.length co8,.slice Ao12 t466.length co12] 26 (0,0))):=⟨by (with_reducible repeat (first|refine blk_drewN ?_ _|refine blk_drew ?_|refine blk_alloc ?_ _));refine blk_put (cs:=#[.slice Ao8 t463.length co8,.slice none 0 0]) ?_ 1 _ rfl;(with_reducible repeat (first|refine blk_drewN ?_ _|refine blk_drew ?_|refine blk_alloc ?_ _));refine blk_put (cs:=#[.slice none 0 0,.slice none 0 0]) ?_ 0 _ rfl;(with_reducible repeat (first|refine blk_drewN ?_ _|refine blk_drew ?_|refine blk_alloc ?_ _));exact BK471.out⟩
 have n4_:Aside0 (IsS57 w ((w7.setCell ⟨gb471,0,none⟩ (.slice Ao8 t463.length co8)).setCell ⟨gb471,1,none⟩ (.slice Ao12 t466.length co12)) gb462 l0 t469 t470):=⟨YF⟩
 have n5_:Aside0 (Below w.heap.size w ((w7.setCell ⟨gb471,0,none⟩ (.slice Ao8 t463.length co8)).setCell ⟨gb471,1,none⟩ (.slice Ao12 t466.length co12))):=⟨bH⟩
 (try clear HO465)
 (try clear HO468)
 (try clear BK461)
 (try clear BK471)
 (try clear HI462)
 (try clear HB)
 generalize ((w7.setCell ⟨gb471,0,none⟩ (.slice Ao8 t463.length co8)).setCell ⟨gb471,1,none⟩ (.slice Ao12 t466.length co12)) = w13 at n0_ n1_ n2_ n3_ n4_ n5_ ⊢
 have HO465:=n0_
 have HO468:=n1_
 have BK461:=n2_
 have BK471:=n3_
 have HI462:=n4_
 have HB:=n5_
 clear n0_ n1_ n2_ n3_ n4_ n5_
 replace HO465:=Aside0.mk (Kd.R_drew HO465.out);replace HO468:=Aside0.mk (Kd.R_drew HO468.out);replace BK461:=Aside0.mk (blk_drew BK461.out);replace BK471:=Aside0.mk (blk_drew BK471.out);replace HI462:=Aside0.mk (IsS57.drew HI462.out);replace HB:=Aside0.mk (below_drew1 HB.out)
 refine start_ (n:=5) (S:=fun w'=>w'.cell? ⟨gb471,0,none⟩ = some (.slice Ao8 t463.length co8) ∧ w'.cell? ⟨gb471,1,none⟩ = some (.slice Ao12 t466.length co12)) (ds:=[]) #[false,false,false,false,false] (by kernel_rfl) rfl rfl ⟨(blk_cell BK471.out 0).trans rfl,(blk_cell BK471.out 1).trans rfl⟩ (fun hHeld=>?_)
 generalize w13.drew = w14 at HO465 HO468 BK461 BK471 HI462 HB hHeld ⊢
 refine pU (i:=1) (N:=some 12) #[false,true,false,false,false] (by kernel_rfl) ?_
 refine take_ (i:=0) (N:=some 11) (v:=?_) (a':=?_) #[true,true,false,false,false] rfl rfl (by kernel_rfl) (fun _ _ _ h=>h) (Or.inl ⟨by rfl,?_⟩) hHeld ?_ ?_
 rotate_left
 ·rintro w' ⟨s0,s1⟩
  go_simp
  with_reducible rfl
 rotate_left
 ·simp only [Act.put,List.setIfInBounds_toArray,List.set_cons_zero,List.set_cons_succ,i64_w,i32_w]
  rfl
 refine one_ (i:=2) (N:=some 13) #[true,true,true,false,false] rfl rfl (by kernel_rfl) (by decide) (fun K hK=>?_)
 refine goes_ Try.func54 (by kernel_rfl) rfl #[.pointer (some ⟨gb462,0,none⟩)] (by rfl) rfl rfl Ya ?_
 with_reducible refine (spec_l1Cur_piece.calls gb462 l0 t469 t470 t472 t473 t474 w _ ?side1 ?side2 A3.out).mono ?_
 (case side1=>exact YF)
 (case side2=>exact bH)
 rintro e w15 ⟨rfl,hi,hb,hk⟩
 refine ⟨_,rfl,?_⟩
 replace BK461:=Aside0.mk (KeepBut.blk hk (g':=gb461) (o:=.cells #[.slice none 0 0,.slice none 0 0] 26 (0,0)) (bB BK461) NB461_462.out (by simp));replace HO465:=Aside0.mk (Kd.R_mono (Kd.R_keep (IsS57.apart (show IsS57 w _ gb462 l0 t469 t470 from YF) (rR HO465) (by decide)) hk (fun _ h=>h.2)) (fun _ h=>h.1));replace HO468:=Aside0.mk (Kd.R_mono (Kd.R_keep (IsS57.apart (show IsS57 w _ gb462 l0 t469 t470 from YF) (rR HO468) (by decide)) hk (fun _ h=>h.2)) (fun _ h=>h.1));replace BK471:=Aside0.mk (KeepBut.blk hk (g':=gb471) (o:=.cells #[.slice Ao8 t463.length co8,.slice Ao12 t466.length co12] 26 (0,0)) (bB BK471) NB471_462.out (by simp));replace HB:=Aside0.mk (hb);replace HI462:=Aside0.mk (hi)
 (try clear hb)
 (try clear hb2)
 (try clear hk)
 (try clear hi)
 refine hK.out _ _ ⟨(blk_cell BK471.out 0).trans rfl,(blk_cell BK471.out 1).trans rfl⟩ (fun hHeld=>?_)
 clear hK K
 refine nM (N:=some 13) ?_
 refine one_ (i:=3) (N:=none) #[true,true,true,true,false] rfl rfl (by kernel_rfl) (by decide) (fun K hK=>?_)
 have hs16:w15.cell? ⟨gb461,0,none⟩ = some (.slice none 0 0):=(blk_cell BK461.out 0).trans rfl
 have hfs16:=blk_frozen BK461.out 0
 have hns16_1:=NB471_461.out
 have hms16_1:=NB461_471.out
 have hs17:w15.cell? ⟨gb461,1,none⟩ = some (.slice none 0 0):=(blk_cell BK461.out 1).trans rfl
 have hfs17:=blk_frozen BK461.out 1
 have hns17_1:=NB471_461.out
 have hms17_1:=NB461_471.out
 refine skip_ (w1:=?_) (by rfl) rfl ?_ ?_
 rotate_left
 ·go_simp
  rfl
 refine hK.out _ _ ⟨((cell_far (p:=⟨gb461,_,none⟩) NB471_461.out _).trans (((cell_far (p:=⟨gb461,_,none⟩) NB471_461.out _).trans (hHeld.1)))),((cell_far (p:=⟨gb461,_,none⟩) NB471_461.out _).trans (((cell_far (p:=⟨gb461,_,none⟩) NB471_461.out _).trans (hHeld.2))))⟩ (fun hHeld=>?_)
 clear hK K
 refine pU (i:=4) (N:=some 3) #[true,true,true,true,true] (by kernel_rfl) ?_
 refine done_ (by kernel_rfl) ?_
 try go_wp2
 refine bodyPost_ret (results_ct rfl _ _ gb461 26 #[.slice Ao8 t463.length co8,.slice Ao12 t466.length co12] (0,0) _ rfl (by (with_reducible repeat (first|refine blk_drewN ?_ _|refine blk_drew ?_|refine blk_alloc ?_ _));refine blk_put (cs:=#[.slice Ao8 t463.length co8,.slice none 0 0]) ?_ 1 _ rfl;(with_reducible repeat (first|refine blk_drewN ?_ _|refine blk_drew ?_|refine blk_alloc ?_ _));refine blk_put (cs:=#[.slice none 0 0,.slice none 0 0]) ?_ 0 _ rfl;(with_reducible repeat (first|refine blk_drewN ?_ _|refine blk_drew ?_|refine blk_alloc ?_ _));exact BK461.out) Try.underlying26 rfl (by kernel_rfl)) rfl ?_
 exact ⟨_,_,Yb,by (with_reducible repeat (first|apply Kd.R_alloc|apply Kd.R_drewN|apply Kd.R_drew));exact Kd.R_mono (Kd.R_far (p:=⟨gb461,1,none⟩) (Kd.R_far (p:=⟨gb461,0,none⟩) (Kd.R_types HO465.out BK461.out (by decide)) (fun _ hk=>hk.2) (.slice Ao8 t463.length co8)) (fun _ hk=>hk.2) (.slice Ao12 t466.length co12)) (fun _ hk=>hk.1),by (with_reducible repeat (first|apply Kd.R_alloc|apply Kd.R_drewN|apply Kd.R_drew));exact Kd.R_mono (Kd.R_far (p:=⟨gb461,1,none⟩) (Kd.R_far (p:=⟨gb461,0,none⟩) (Kd.R_types HO468.out BK461.out (by decide)) (fun _ hk=>hk.2) (.slice Ao8 t463.length co8)) (fun _ hk=>hk.2) (.slice Ao12 t466.length co12)) (fun _ hk=>hk.1),bH⟩

/-! ### spec_DrawGoodDisk: function 59 -/
def spec_DrawGoodDisk.f (k:Nat) (l0:List Int):Option (List ByteArray × List ByteArray):=(spec_l1Cur_disk.f k l0 0 0).bind fun bt477=>(some (bt477.1,bt477.2.1))
theorem spec_DrawGoodDisk.mono:∀ a0 k,LeO (spec_DrawGoodDisk.f k a0) (spec_DrawGoodDisk.f (k + 1) a0):=by
 intro a0 k
 unfold spec_DrawGoodDisk.f
 have m0:=@spec_l1Cur_disk.mono
 exact mO
set_option maxHeartbeats 8000000 in
set_option maxRecDepth 100000 in
theorem spec_DrawGoodDisk.calls (k:Nat) (A0:Option Addr) (c0:Nat) (l0:List Int) (r1:List ByteArray) (r2:List ByteArray) (w:World) (hr0:Kd.C (Kd.int .u8) w A0 l0.length l0) (hc0:l0.length ≤ c0) (h:spec_DrawGoodDisk.f k l0 = some (r1,r2)) :
  Calls Try.prog 59 #[.slice A0 l0.length c0] w fun e w'=>∃ v0_ v1_:Value,e = .returned (.agg #[v0_,v1_]) ∧ Kd.R Kd.string 9 w' w.heap.size (fun k_=>some k_ ≠ (v1_:Value).ownBlock) v0_ r1 ∧ Kd.R Kd.string 9 w' w.heap.size (fun k_=>some k_ ≠ (v0_:Value).ownBlock) v1_ r2 ∧ Below w.heap.size w w':=by
 have hu26:=Try.underlying26
 have hu57:=Try.underlying57
 have HR0:=Aside0.mk hr0
 have HC0:=Aside0.mk hc0
 clear hr0 hc0
 have HB:=Aside0.mk (Below.refl w.heap.size w)
 have H:((spec_l1Cur_disk.f k l0 0 0).bind fun bt477=>(some (bt477.1,bt477.2.1))) = some (r1,r2):=h
 clear h
 replace H:=Option.bind_eq_some_iff.mp H
 obtain ⟨⟨t477,t480,t483,t484⟩,A20,H⟩:=H
 replace H:(some (t477,t480)) = some (r1,r2):=H
 have A2:=Aside0.mk A20
 clear A20
 simp only [Option.some.injEq,Prod.mk.injEq] at H
 obtain ⟨rfl,rfl⟩:=H
 go_enter Try.func59,Try.ntmps59
 go_wp2_with (first|((with_reducible refine gate_dst (N:=2) rfl ?_);refine box_event ?hg (N:=2) ?hd (cs:=#[.slice none 0 0,.slice none 0 0]) (t:=26) ?hr ?_;(case hd=>rfl);(case hg=>rfl);(case hr=>exact Yg);intro gb475 hg w3 hbox hb;have BK475:=Aside0.mk (hbox);have GW475:=Aside0.mk ((hZ:w.heap.size ≤ gb475));have GE475:=Aside0.mk ((hZ:w.heap.size ≤ gb475));replace HB:=Aside0.mk (below_step bH hb);clear hb hbox hg)|((with_reducible refine gate_dst (N:=6) rfl ?_);refine box_event ?hg (N:=6) ?hd (cs:=#[.slice A0 l0.length c0,.int .i64 0,.int .u64 0]) (t:=57) ?hr ?_;(case hd=>rfl);(case hg=>rfl);(case hr=>exact Yg);intro gb476 hg w4 hbox hb;have BK476:=Aside0.mk (hbox);have GW476:=Aside0.mk ((hZ:w.heap.size ≤ gb476));have GE476:=Aside0.mk ((hZ:w.heap.size ≤ gb476));replace HB:=Aside0.mk (below_step bH hb);have NB475_476:=Aside0.mk ((nL BK475:gb475 ≠ gb476));have NB476_475:=Aside0.mk ((nG BK475:gb476 ≠ gb475));replace BK475:=Aside0.mk (blk_below (bB BK475) hb);clear hb hbox hg;have HI476:=Aside0.mk (show IsS57 w w4 gb476 l0 0 0 from ⟨_,_,BK476.out,GW476.out,HR0.out⟩);clear BK476)|((with_reducible refine gate_callee (f:=42) rfl ?_);refine goesL_ (some 8) rfl rfl Try.func42 (by kernel_rfl) rfl #[.pointer (some ⟨gb476,0,none⟩)] rfl Ya ?_;(with_reducible refine (spec_l1Cur_disk.calls k gb476 l0 0 0 t477 t480 t483 t484 w _ ?side1 ?side2 A2.out).mono ?_);(case side1=>repeat (first|(with_reducible first|exact HI476.out|apply IsS57.alloc|apply IsS57.drewN|apply IsS57.drew|apply IsS57.set_1|apply IsS57.set_2|refine IsS57.far ?_ NB476_475.out _)|exact HI476.out));(case side2=>exact bH);rintro e w5 ⟨v478,v481,rfl,ho0,ho1,hi,hb,hk⟩;refine ⟨_,rfl,?_⟩;replace BK475:=Aside0.mk (KeepBut.blk hk (g':=gb475) (o:=.cells #[.slice none 0 0,.slice none 0 0] 26 (0,0)) (bB BK475) NB475_476.out (by simp));have HO479:=Aside0.mk (Kd.R_lower ho0 (below_size bH));have HO482:=Aside0.mk (Kd.R_lower ho1 (below_size bH));replace HB:=Aside0.mk (hb);replace HI476:=Aside0.mk (hi);(try clear hb);(try clear hb2);(try clear hk);(try clear hi);(try clear ho0);(try clear ho1);obtain ⟨Ao6,co6,eo6⟩:=Kd.R_slice HO479.out;subst eo6;have hnb7:=NB475_476.out;have hnc7:=NB476_475.out;have hcz8_0:w5.cell? ⟨gb475,0,none⟩ = some (.slice none 0 0):=(blk_cell BK475.out 0).trans rfl;have hcz8_1:w5.cell? ⟨gb475,1,none⟩ = some (.slice none 0 0):=(blk_cell BK475.out 1).trans rfl;have hfz8_0:=blk_frozen BK475.out 0;have hfz8_1:=blk_frozen BK475.out 1;obtain ⟨Ao9,co9,eo9⟩:=Kd.R_slice HO482.out;subst eo9))
 refine bodyPost_ret (results_cell_row rfl _ _ gb475 26 #[.slice Ao6 t477.length co6,.slice Ao9 t480.length co9] (0,0) _ rfl (by (with_reducible repeat (first|refine blk_drewN ?_ _|refine blk_drew ?_|refine blk_alloc ?_ _));refine blk_put (cs:=#[.slice Ao6 t477.length co6,.slice none 0 0]) ?_ 1 _ rfl;(with_reducible repeat (first|refine blk_drewN ?_ _|refine blk_drew ?_|refine blk_alloc ?_ _));refine blk_put (cs:=#[.slice none 0 0,.slice none 0 0]) ?_ 0 _ rfl;(with_reducible repeat (first|refine blk_drewN ?_ _|refine blk_drew ?_|refine blk_alloc ?_ _));exact BK475.out) Try.underlying26 rfl (by kernel_rfl)) rfl ?_
 exact ⟨_,_,Yb,by (with_reducible repeat (first|apply Kd.R_alloc|apply Kd.R_drewN|apply Kd.R_drew));exact Kd.R_mono (Kd.R_far (p:=⟨gb475,1,none⟩) (Kd.R_far (p:=⟨gb475,0,none⟩) (Kd.R_types HO479.out BK475.out (by decide)) (fun _ hk=>hk.2) (.slice Ao6 t477.length co6)) (fun _ hk=>hk.2) (.slice Ao9 t480.length co9)) (fun _ hk=>hk.1),by (with_reducible repeat (first|apply Kd.R_alloc|apply Kd.R_drewN|apply Kd.R_drew));exact Kd.R_mono (Kd.R_far (p:=⟨gb475,1,none⟩) (Kd.R_far (p:=⟨gb475,0,none⟩) (Kd.R_types HO482.out BK475.out (by decide)) (fun _ hk=>hk.2) (.slice Ao6 t477.length co6)) (fun _ hk=>hk.2) (.slice Ao9 t480.length co9)) (fun _ hk=>hk.1),bH⟩

/-! ### spec_DrawTextsOn: function 19 -/
def spec_DrawTextsOn.f (k:Nat) (l0:List Int):Option (List ByteArray × List ByteArray):=(spec_DrawGoodDisk.f k l0).bind fun bt486=>(some (bt486.1,bt486.2))
theorem spec_DrawTextsOn.mono:∀ a0 k,LeO (spec_DrawTextsOn.f k a0) (spec_DrawTextsOn.f (k + 1) a0):=by
 intro a0 k
 unfold spec_DrawTextsOn.f
 have m0:=@spec_DrawGoodDisk.mono
 exact mO
set_option maxHeartbeats 8000000 in
set_option maxRecDepth 100000 in
theorem spec_DrawTextsOn.calls (k:Nat) (A0:Option Addr) (c0:Nat) (l0:List Int) (r1:List ByteArray) (r2:List ByteArray) (w:World) (hr0:Kd.C (Kd.int .u8) w A0 l0.length l0) (hc0:l0.length ≤ c0) (h:spec_DrawTextsOn.f k l0 = some (r1,r2)) :
  Calls Try.prog 19 #[.slice A0 l0.length c0] w fun e w'=>∃ v0_ v1_:Value,e = .returned (.agg #[v0_,v1_]) ∧ Kd.R Kd.string 9 w' w.heap.size (fun k_=>some k_ ≠ (v1_:Value).ownBlock) v0_ r1 ∧ Kd.R Kd.string 9 w' w.heap.size (fun k_=>some k_ ≠ (v0_:Value).ownBlock) v1_ r2 ∧ Below w.heap.size w w':=by
 have hu26:=Try.underlying26
 have HR0:=Aside0.mk hr0
 have HC0:=Aside0.mk hc0
 clear hr0 hc0
 have HB:=Aside0.mk (Below.refl w.heap.size w)
 have H:((spec_DrawGoodDisk.f k l0).bind fun bt486=>(some (bt486.1,bt486.2))) = some (r1,r2):=h
 clear h
 replace H:=Option.bind_eq_some_iff.mp H
 obtain ⟨⟨t486,t489⟩,A20,H⟩:=H
 replace H:(some (t486,t489)) = some (r1,r2):=H
 have A2:=Aside0.mk A20
 clear A20
 simp only [Option.some.injEq,Prod.mk.injEq] at H
 obtain ⟨rfl,rfl⟩:=H
 go_enter Try.func19,Try.ntmps19
 go_wp2_with (first|((with_reducible refine gate_dst (N:=2) rfl ?_);refine box_event ?hg (N:=2) ?hd (cs:=#[.slice none 0 0,.slice none 0 0]) (t:=26) ?hr ?_;(case hd=>rfl);(case hg=>rfl);(case hr=>exact Yg);intro gb485 hg w3 hbox hb;have BK485:=Aside0.mk (hbox);have GW485:=Aside0.mk ((hZ:w.heap.size ≤ gb485));have GE485:=Aside0.mk ((hZ:w.heap.size ≤ gb485));replace HB:=Aside0.mk (below_step bH hb);clear hb hbox hg)|((with_reducible refine gate_callee (f:=59) rfl ?_);refine goesL_ (some 4) rfl rfl Try.func59 (by kernel_rfl) rfl #[.slice A0 l0.length c0] rfl Ya ?_;(with_reducible refine (spec_DrawGoodDisk.calls k _ _ l0 t486 t489 _ ?side1 ?side2 A2.out).mono ?_);(case side1=>exact sC HR0);(case side2=>exact HC0.out);rintro e w4 ⟨v487,v490,rfl,ho0,ho1,hb⟩;refine ⟨_,rfl,?_⟩;have HO488:=Aside0.mk (Kd.R_lower ho0 (below_size bH));have HO491:=Aside0.mk (Kd.R_lower ho1 (below_size bH));replace BK485:=Aside0.mk (blk_below (bB BK485) hb);replace HB:=Aside0.mk (below_step bH hb);(try clear hb);(try clear hb2);(try clear hk);(try clear hi);(try clear ho0);(try clear ho1);obtain ⟨Ao5,co5,eo5⟩:=Kd.R_slice HO488.out;subst eo5;have hcz6_0:w4.cell? ⟨gb485,0,none⟩ = some (.slice none 0 0):=(blk_cell BK485.out 0).trans rfl;have hcz6_1:w4.cell? ⟨gb485,1,none⟩ = some (.slice none 0 0):=(blk_cell BK485.out 1).trans rfl;have hfz6_0:=blk_frozen BK485.out 0;have hfz6_1:=blk_frozen BK485.out 1;obtain ⟨Ao7,co7,eo7⟩:=Kd.R_slice HO491.out;subst eo7))
 refine bodyPost_ret (results_cell_row rfl _ _ gb485 26 #[.slice Ao5 t486.length co5,.slice Ao7 t489.length co7] (0,0) _ rfl (by (with_reducible repeat (first|refine blk_drewN ?_ _|refine blk_drew ?_|refine blk_alloc ?_ _));refine blk_put (cs:=#[.slice Ao5 t486.length co5,.slice none 0 0]) ?_ 1 _ rfl;(with_reducible repeat (first|refine blk_drewN ?_ _|refine blk_drew ?_|refine blk_alloc ?_ _));refine blk_put (cs:=#[.slice none 0 0,.slice none 0 0]) ?_ 0 _ rfl;(with_reducible repeat (first|refine blk_drewN ?_ _|refine blk_drew ?_|refine blk_alloc ?_ _));exact BK485.out) Try.underlying26 rfl (by kernel_rfl)) rfl ?_
 exact ⟨_,_,Yb,by (with_reducible repeat (first|apply Kd.R_alloc|apply Kd.R_drewN|apply Kd.R_drew));exact Kd.R_mono (Kd.R_far (p:=⟨gb485,1,none⟩) (Kd.R_far (p:=⟨gb485,0,none⟩) (Kd.R_types HO488.out BK485.out (by decide)) (fun _ hk=>hk.2) (.slice Ao5 t486.length co5)) (fun _ hk=>hk.2) (.slice Ao7 t489.length co7)) (fun _ hk=>hk.1),by (with_reducible repeat (first|apply Kd.R_alloc|apply Kd.R_drewN|apply Kd.R_drew));exact Kd.R_mono (Kd.R_far (p:=⟨gb485,1,none⟩) (Kd.R_far (p:=⟨gb485,0,none⟩) (Kd.R_types HO491.out BK485.out (by decide)) (fun _ hk=>hk.2) (.slice Ao5 t486.length co5)) (fun _ hk=>hk.2) (.slice Ao7 t489.length co7)) (fun _ hk=>hk.1),bH⟩

/-! ### spec_TextsOn: function 20 -/
def spec_TextsOn.f (k:Nat) (l0_0:List ByteArray) (l0_1:List ByteArray):Option (List ByteArray × Int × Bool):=(spec_GoodDisk.f k l0_0 l0_1).bind fun t493=>(if t493 = true then ((spec_l13All.f l0_0 l0_1).bind fun t494=>((spec_l13Texts.f k t494).bind fun bt497=>(some (bt497.1,bt497.2,true)))) else (some (([]:List ByteArray),0,false)))
theorem spec_TextsOn.mono:∀ a0 a1 k,LeO (spec_TextsOn.f k a0 a1) (spec_TextsOn.f (k + 1) a0 a1):=by
 intro a0 a1 k
 unfold spec_TextsOn.f
 have m0:=@spec_GoodDisk.mono
 have m1:=@spec_l13Texts.mono
 exact mO
set_option maxHeartbeats 8000000 in
set_option maxRecDepth 100000 in
theorem spec_TextsOn.calls (k:Nat) (A0_0:Option Addr) (c0_0:Nat) (l0_0:List ByteArray) (A0_1:Option Addr) (c0_1:Nat) (l0_1:List ByteArray) (r1:List ByteArray) (r2:Int) (r3:Bool) (w:World) (hr0_0:Kd.C Kd.string w A0_0 l0_0.length l0_0) (hc0_0:l0_0.length ≤ c0_0) (hr0_1:Kd.C Kd.string w A0_1 l0_1.length l0_1) (hc0_1:l0_1.length ≤ c0_1) (h:spec_TextsOn.f k l0_0 l0_1 = some (r1,r2,r3)) :
  Calls Try.prog 20 #[.agg #[.slice A0_0 l0_0.length c0_0,.slice A0_1 l0_1.length c0_1]] w fun e w'=>∃ v0_:Value,e = .returned (.tuple #[v0_,.int .i64 r2,.bool r3]) ∧ Kd.R Kd.string 9 w' w.heap.size (fun _=>True) v0_ r1 ∧ Below w.heap.size w w':=by
 have hu26:=Try.underlying26
 have HR0_0:=Aside0.mk hr0_0
 have HC0_0:=Aside0.mk hc0_0
 clear hr0_0 hc0_0
 have HR0_1:=Aside0.mk hr0_1
 have HC0_1:=Aside0.mk hc0_1
 clear hr0_1 hc0_1
 have HB:=Aside0.mk (Below.refl w.heap.size w)
 have H:((spec_GoodDisk.f k l0_0 l0_1).bind fun t493=>(if t493 = true then ((spec_l13All.f l0_0 l0_1).bind fun t494=>((spec_l13Texts.f k t494).bind fun bt497=>(some (bt497.1,bt497.2,true)))) else (some (([]:List ByteArray),0,false)))) = some (r1,r2,r3):=h
 clear h
 replace H:=Option.bind_eq_some_iff.mp H
 obtain ⟨t493,A20,H⟩:=H
 replace H:(if t493 = true then ((spec_l13All.f l0_0 l0_1).bind fun t494=>((spec_l13Texts.f k t494).bind fun bt497=>(some (bt497.1,bt497.2,true)))) else (some (([]:List ByteArray),0,false))) = some (r1,r2,r3):=H
 have A2:=Aside0.mk A20
 clear A20
 by_cases c3:t493 = true
 ·subst c3
  have H1:((spec_l13All.f l0_0 l0_1).bind fun t494=>((spec_l13Texts.f k t494).bind fun bt497=>(some (bt497.1,bt497.2,true)))) = some (r1,r2,r3):=by rw [if_pos rfl] at H;exact H
  clear H
  have H:=H1
  clear H1
  replace H:=Option.bind_eq_some_iff.mp H
  obtain ⟨t494,A40,H⟩:=H
  replace H:((spec_l13Texts.f k t494).bind fun bt497=>(some (bt497.1,bt497.2,true))) = some (r1,r2,r3):=H
  have A4:=Aside0.mk A40
  clear A40
  replace H:=Option.bind_eq_some_iff.mp H
  obtain ⟨⟨t497,t498⟩,A50,H⟩:=H
  replace H:(some (t497,t498,true)) = some (r1,r2,r3):=H
  have A5:=Aside0.mk A50
  clear A50
  simp only [Option.some.injEq,Prod.mk.injEq] at H
  obtain ⟨rfl,rfl,rfl⟩:=H
  go_enter Try.func20,Try.ntmps20
  go_wp2_with (first|((with_reducible refine gate_dst (N:=1) rfl ?_);refine box_event ?hg (N:=1) ?hd (cs:=#[.slice A0_0 l0_0.length c0_0,.slice A0_1 l0_1.length c0_1]) (t:=26) ?hr ?_;(case hd=>rfl);(case hg=>rfl);(case hr=>exact Yg);intro gb492 hg w6 hbox hb;have BK492:=Aside0.mk (hbox);have GW492:=Aside0.mk ((hZ:w.heap.size ≤ gb492));have GE492:=Aside0.mk ((hZ:w.heap.size ≤ gb492));replace HB:=Aside0.mk (below_step bH hb);clear hb hbox hg;have hcz7_0:w6.cell? ⟨gb492,0,none⟩ = some (.slice A0_0 l0_0.length c0_0):=(blk_cell BK492.out 0).trans rfl;have hcz7_1:w6.cell? ⟨gb492,1,none⟩ = some (.slice A0_1 l0_1.length c0_1):=(blk_cell BK492.out 1).trans rfl;have hfz7_0:=blk_frozen BK492.out 0;have hfz7_1:=blk_frozen BK492.out 1)|((with_reducible refine gate_callee (f:=12) rfl ?_);refine goesL_ (some 8) rfl rfl Try.func12 (by kernel_rfl) rfl #[.agg #[.slice A0_0 l0_0.length c0_0,.slice A0_1 l0_1.length c0_1]] rfl Ya ?_;(with_reducible refine (spec_GoodDisk.calls k _ _ l0_0 _ _ l0_1 true _ ?side1 ?side2 ?side3 ?side4 A2.out).mono ?_);(case side1=>exact ZB);(case side2=>exact ZL);(case side3=>exact ZP);(case side4=>exact ZO);rintro e w8 ⟨rfl,hb⟩;refine ⟨_,rfl,?_⟩;replace BK492:=Aside0.mk (blk_below (bB BK492) hb);replace HB:=Aside0.mk (below_step bH hb);(try clear hb);(try clear hb2);(try clear hk);(try clear hi);have hcz9_0:w8.cell? ⟨gb492,0,none⟩ = some (.slice A0_0 l0_0.length c0_0):=(blk_cell BK492.out 0).trans rfl;have hcz9_1:w8.cell? ⟨gb492,1,none⟩ = some (.slice A0_1 l0_1.length c0_1):=(blk_cell BK492.out 1).trans rfl;have hfz9_0:=blk_frozen BK492.out 0;have hfz9_1:=blk_frozen BK492.out 1)|((with_reducible refine gate_callee (f:=55) rfl ?_);refine goesL_ (some 12) rfl rfl Try.func55 (by kernel_rfl) rfl #[.agg #[.slice A0_0 l0_0.length c0_0,.slice A0_1 l0_1.length c0_1]] rfl Ya ?_;(with_reducible refine (spec_l13All.calls _ _ l0_0 _ _ l0_1 t494 _ ?side1 ?side2 ?side3 ?side4 A4.out).mono ?_);(case side1=>exact ZB);(case side2=>exact ZL);(case side3=>exact ZP);(case side4=>exact ZO);rintro e w10 ⟨v495,rfl,ho0,hb⟩;refine ⟨_,rfl,?_⟩;have HO496:=Aside0.mk (Kd.R_lower ho0 (below_size bH));replace BK492:=Aside0.mk (blk_below (bB BK492) hb);replace HB:=Aside0.mk (below_step bH hb);(try clear hb);(try clear hb2);(try clear hk);(try clear hi);(try clear ho0);obtain ⟨Ao11,co11,eo11⟩:=Kd.R_slice HO496.out;subst eo11)|((with_reducible refine gate_callee (f:=56) rfl ?_);refine goesL_ (some 13) rfl rfl Try.func56 (by kernel_rfl) rfl #[.slice Ao11 t494.length co11] rfl Ya ?_;(with_reducible refine (spec_l13Texts.calls k _ _ t494 t497 t498 _ ?side1 ?side2 A5.out).mono ?_);(case side1=>repeat (first|exact (Kd.R_reads' HO496.out).2.2|(with_reducible refine Kd.C_alloc ?_ _)|(with_reducible refine Kd.C_drewN ?_ _)|(with_reducible refine Kd.C_drew ?_)));(case side2=>exact (Kd.R_reads' HO496.out).2.1);rintro e w12 ⟨v499,rfl,ho0,hb⟩;refine ⟨_,rfl,?_⟩;have HO500:=Aside0.mk (Kd.R_lower (Kd.R_new' ho0 (Kd.R_lt (rR HO496))) (below_size bH));replace HO496:=Aside0.mk (Kd.R_elder' (rR HO496) (Kd.R_base ho0) hb);replace BK492:=Aside0.mk (blk_below (bB BK492) hb);replace HB:=Aside0.mk (below_step bH hb);(try clear hb);(try clear hb2);(try clear hk);(try clear hi);(try clear ho0)))
  go_ret3
  exact ⟨_,Yb,by (with_reducible repeat (first|apply Kd.R_alloc|apply Kd.R_drewN|apply Kd.R_drew));exact Kd.R_mono HO500.out (fun _ hk=>trivial),bH⟩
 ·replace c3:=Bool.eq_false_iff.mpr c3
  subst c3
  have H1:(some (([]:List ByteArray),0,false)) = some (r1,r2,r3):=by rw [if_neg (show ¬ (false = true) by decide)] at H;exact H
  clear H
  have H:=H1
  clear H1
  simp only [Option.some.injEq,Prod.mk.injEq] at H
  obtain ⟨rfl,rfl,rfl⟩:=H
  go_enter Try.func20,Try.ntmps20
  go_wp2_with (first|((with_reducible refine gate_dst (N:=1) rfl ?_);refine box_event ?hg (N:=1) ?hd (cs:=#[.slice A0_0 l0_0.length c0_0,.slice A0_1 l0_1.length c0_1]) (t:=26) ?hr ?_;(case hd=>rfl);(case hg=>rfl);(case hr=>exact Yg);intro gb492 hg w13 hbox hb;have BK492:=Aside0.mk (hbox);have GW492:=Aside0.mk ((hZ:w.heap.size ≤ gb492));have GE492:=Aside0.mk ((hZ:w.heap.size ≤ gb492));replace HB:=Aside0.mk (below_step bH hb);clear hb hbox hg;have hcz14_0:w13.cell? ⟨gb492,0,none⟩ = some (.slice A0_0 l0_0.length c0_0):=(blk_cell BK492.out 0).trans rfl;have hcz14_1:w13.cell? ⟨gb492,1,none⟩ = some (.slice A0_1 l0_1.length c0_1):=(blk_cell BK492.out 1).trans rfl;have hfz14_0:=blk_frozen BK492.out 0;have hfz14_1:=blk_frozen BK492.out 1)|((with_reducible refine gate_callee (f:=12) rfl ?_);refine goesL_ (some 8) rfl rfl Try.func12 (by kernel_rfl) rfl #[.agg #[.slice A0_0 l0_0.length c0_0,.slice A0_1 l0_1.length c0_1]] rfl Ya ?_;(with_reducible refine (spec_GoodDisk.calls k _ _ l0_0 _ _ l0_1 false _ ?side1 ?side2 ?side3 ?side4 A2.out).mono ?_);(case side1=>exact ZB);(case side2=>exact ZL);(case side3=>exact ZP);(case side4=>exact ZO);rintro e w15 ⟨rfl,hb⟩;refine ⟨_,rfl,?_⟩;replace BK492:=Aside0.mk (blk_below (bB BK492) hb);replace HB:=Aside0.mk (below_step bH hb);(try clear hb);(try clear hb2);(try clear hk);(try clear hi)))
  go_ret3
  exact ⟨_,Yb,Yd,bH⟩

end Go.Proofs.Ytmgkflkfoccgkab.QFnDisk
