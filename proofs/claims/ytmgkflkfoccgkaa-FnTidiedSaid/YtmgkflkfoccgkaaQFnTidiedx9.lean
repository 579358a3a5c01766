-- Written by this session's own program (wip/x/xprint.py, over the kit's printer); Lean checks it.
import Derived.Test.YtmgkflkfoccgkaaQFnTidiedx0
import Derived.Test.YtmgkflkfoccgkaaQFnTidiedx1
import Derived.Test.YtmgkflkfoccgkaaQFnTidiedx4
import Derived.Test.YtmgkflkfoccgkaaQFnTidiedx5
import Derived.Test.YtmgkflkfoccgkaaQFnTidiedx8
namespace Go.Proofs.Ytmgkflkfoccgkaa.QFnTidied
open Go.RowKit Go.Proofs.YtmgkflkfoccgkaaW.PrintWords Go.Proofs.YtmgkflkfoccgkaaW.PrintLast Go.Proofs.YtmgkflkfoccgkaaW.PrintMore
attribute [local go_sem] max2_int min2_int max_two min_two max_three min_three max_four min_four   -- for this text's walks alone
set_option linter.unusedVariables false
set_option linter.unusedSimpArgs false

/-! ### spec_DrawGoodClause: function 58 -/
def spec_DrawGoodClause.f (k:Nat) (l0:List Int):Option (List Int × (List (S83))):=(spec_l1Cur_sign.f l0 0 0).bind fun bt331=>((spec_l1Cur_clause.f k l0 bt331.2.1 bt331.2.2 bt331.1).bind fun bt337=>(some (bt331.1,bt337.1)))
theorem spec_DrawGoodClause.mono:∀ a0 k,LeO (spec_DrawGoodClause.f k a0) (spec_DrawGoodClause.f (k + 1) a0):=by
 intro a0 k
 unfold spec_DrawGoodClause.f
 have m0:=@spec_l1Cur_clause.mono
 exact mO
set_option maxHeartbeats 8000000 in
set_option maxRecDepth 100000 in
theorem spec_DrawGoodClause.calls (k:Nat) (A0:Option Addr) (c0:Nat) (l0:List Int) (r1:List Int) (r2:List (S83)) (w:World) (hr0:Kd.C (Kd.int .u8) w A0 l0.length l0) (hc0:l0.length ≤ c0) (h:spec_DrawGoodClause.f k l0 = some (r1,r2)) :
  Calls Try.prog 58 #[.slice A0 l0.length c0] w fun e w'=>∃ v0_ v1_:Value,e = .returned (.tuple #[.agg #[v0_],v1_]) ∧ Kd.R (Kd.int .i64) 3 w' w.heap.size (fun k_=>(w.heap.size ≤ k_)) v0_ r1 ∧ Kd.N k83 83 w' w.heap.size (fun k_=>(w.heap.size ≤ k_) ∧ some k_ ≠ (v0_:Value).ownBlock) v1_ r2 ∧ Below w.heap.size w w':=by
 have hu26:=Try.underlying26
 have hu60:=Try.underlying60
 have HR0:=Aside0.mk hr0
 have HC0:=Aside0.mk hc0
 clear hr0 hc0
 have HB:=Aside0.mk (Below.refl w.heap.size w)
 have H:((spec_l1Cur_sign.f l0 0 0).bind fun bt331=>((spec_l1Cur_clause.f k l0 bt331.2.1 bt331.2.2 bt331.1).bind fun bt337=>(some (bt331.1,bt337.1)))) = some (r1,r2):=h
 clear h
 replace H:=bI H;obtain ⟨⟨t331,t334,t335⟩,A2,H⟩:=H
 dsimp only at H
 replace H:=bI H;obtain ⟨⟨t337,t340,t341⟩,A3,H⟩:=H
 dsimp only at H
 simp only [Option.some.injEq,Prod.mk.injEq] at H
 obtain ⟨rfl,rfl⟩:=H
 go_enter Try.func58,Try.ntmps58
 try go_wp2_with (first|(refine xB 2 #[.slice none 0 0] 26 ?_;intro gb329 hg w4 hbox hb;have BK329:=Aside0.mk (hbox);have GW329:=gZ w gb329;have GE329:=GW329;replace HB:=bS hb;clear hb hbox hg)|(refine xB 8 #[.slice A0 l0.length c0,.int .i64 0,.int .u64 0] 60 ?_;intro gb330 hg w5 hbox hb;have BK330:=Aside0.mk (hbox);have GW330:=gZ w gb330;have GE330:=GW330;replace HB:=bS hb;have NB329_330:=nl BK329 gb329 gb330;have NB330_329:=nr NB329_330;replace BK329:=bb BK329 hb;clear hb hbox hg;have HI330:=Aside0.mk (show IsS60 w w5 gb330 l0 0 0 from ⟨_,_,BK330.out,GW330.out,HR0.out⟩);clear BK330)|((with_reducible refine gate_callee (f:=35) rfl ?_);refine goesL_ (some 10) rfl rfl Try.func35 (by kernel_rfl) rfl #[.pointer (some ⟨gb330,0,none⟩)] rfl Ya ?_;(with_reducible refine (spec_l1Cur_sign.calls gb330 l0 0 0 t331 t334 t335 w _ ?side1 ?side2 A2.out).mono ?_);(case side1=>exact YF);(case side2=>exact bH);rintro e w6 ⟨v332,rfl,ho0,hi,hb,hk⟩;refine ⟨_,rfl,?_⟩;replace BK329:=kU hk NB329_330 (bB BK329);have HO333:=Aside0.mk (Kd.R_lower (Kd.R_newM (M:=fun k_=>(w.heap.size ≤ k_)) ho0 (below_size bH) (fun k_ h_=>h_)) (below_size bH));replace HB:=Aside0.mk (hb);replace HI330:=Aside0.mk (hi);clear hb hk hi ho0)|(refine xB 5 #[.slice none 0 0] 26 ?_;intro gb336 hg w7 hbox hb;replace HO333:=rB HO333 hb;have BK336:=Aside0.mk (hbox);have GW336:=Aside0.mk ((by rw [hg];exact (below_size bH):w.heap.size ≤ gb336));have GE336:=Aside0.mk ((by rw [hg];exact (below_size bH):w.heap.size ≤ gb336));replace HB:=bS hb;have NB329_336:=nl BK329 gb329 gb336;have NB336_329:=nr NB329_336;replace BK329:=bb BK329 hb;have NB330_336:=Aside0.mk ((by rw [hg];exact Nat.ne_of_lt (IsS60.lt (show IsS60 w _ gb330 l0 t334 t335 from YF)):gb330 ≠ gb336));have NB336_330:=Aside0.mk ((by rw [hg];exact Nat.ne_of_gt (IsS60.lt (show IsS60 w _ gb330 l0 t334 t335 from YF)):gb336 ≠ gb330));replace HI330:=Aside0.mk (IsS60.below YF hb);clear hb hbox hg;obtain ⟨Ao8,co8,eo8⟩:=Kd.R_slice HO333.out;subst eo8;have hnb9:=NB336_329.out;have hnc9:=NB329_336.out;have hnb10:=NB336_330.out;have hnc10:=NB330_336.out;have hcz11_0:=qc1_0 BK336;have hfz11_0:=fz BK336 0))
 have n0_:Aside0 (Kd.R (Kd.int .i64) 3 (w7.setCell ⟨gb336,0,none⟩ (.slice Ao8 t331.length co8)) w.heap.size (fun k_=>(w.heap.size ≤ k_)) (.slice Ao8 t331.length co8) t331):=⟨by (with_reducible repeat (first|apply Kd.R_alloc|apply Kd.R_drewN|apply Kd.R_drew));exact Kd.R_mono (Kd.R_far (p:=⟨gb336,0,none⟩) (Kd.R_types HO333.out BK336.out (by decide)) (fun _ hk=>hk.2) (.slice Ao8 t331.length co8)) (fun _ hk=>hk.1.1)⟩
 have n1_:Aside0 ((w7.setCell ⟨gb336,0,none⟩ (.slice Ao8 t331.length co8)).heap[gb329]? = some (.cells #[.slice none 0 0] 26 (0,0))):=⟨by (with_reducible repeat (first|refine blk_drewN ?_ _|refine blk_drew ?_|refine blk_alloc ?_ _));refine blk_far ?_ NB329_336.out _;(with_reducible repeat (first|refine blk_drewN ?_ _|refine blk_drew ?_|refine blk_alloc ?_ _));exact BK329.out⟩
 have n2_:Aside0 ((w7.setCell ⟨gb336,0,none⟩ (.slice Ao8 t331.length co8)).heap[gb336]? = some (.cells #[.slice Ao8 t331.length co8] 26 (0,0))):=⟨by (with_reducible repeat (first|refine blk_drewN ?_ _|refine blk_drew ?_|refine blk_alloc ?_ _));refine blk_put (cs:=#[.slice none 0 0]) ?_ 0 _ rfl;(with_reducible repeat (first|refine blk_drewN ?_ _|refine blk_drew ?_|refine blk_alloc ?_ _));exact BK336.out⟩
 have n3_:Aside0 (IsS60 w (w7.setCell ⟨gb336,0,none⟩ (.slice Ao8 t331.length co8)) gb330 l0 t334 t335):=⟨YB⟩
 have n4_:Aside0 (Below w.heap.size w (w7.setCell ⟨gb336,0,none⟩ (.slice Ao8 t331.length co8))):=⟨bH⟩
 (try clear HO333);(try clear BK329);(try clear BK336);(try clear HI330);(try clear HB)
 generalize (w7.setCell ⟨gb336,0,none⟩ (.slice Ao8 t331.length co8)) = w12 at n0_ n1_ n2_ n3_ n4_ ⊢
 have HO333:=n0_
 have BK329:=n1_
 have BK336:=n2_
 have HI330:=n3_
 have HB:=n4_
 clear n0_ n1_ n2_ n3_ n4_
 replace HO333:=Aside0.mk (Kd.R_drew HO333.out);replace BK329:=Aside0.mk (blk_drew BK329.out);replace BK336:=Aside0.mk (blk_drew BK336.out);replace HI330:=Aside0.mk (IsS60.drew HI330.out);replace HB:=Aside0.mk (below_drew1 HB.out)
 refine start_ (n:=6) (S:=fun w'=>w'.cell? ⟨gb336,0,none⟩ = some (.slice Ao8 t331.length co8)) (ds:=[]) #[false,false,false,false,false,false] (by kernel_rfl) rfl rfl ((blk_cell BK336.out 0).trans rfl) (fun hHeld=>?_)
 generalize w12.drew = w13 at HO333 BK329 BK336 HI330 HB hHeld ⊢
 refine pU (i:=1) (N:=some 12) #[false,true,false,false,false,false] (by kernel_rfl) ?_
 refine tK1 (i:=0) (N:=some 11) #[true,true,false,false,false,false] (by kernel_rfl) hHeld ?_
 refine tK1 (i:=2) (N:=some 13) #[true,true,true,false,false,false] (by kernel_rfl) hHeld ?_
 refine one_ (i:=3) (N:=some 14) #[true,true,true,true,false,false] rfl rfl (by kernel_rfl) (by decide) (fun K hK=>?_)
 refine goes_ Try.func49 (by kernel_rfl) rfl #[.pointer (some ⟨gb330,0,none⟩),.agg #[.slice Ao8 t331.length co8]] (by rfl) rfl rfl Ya ?_
 with_reducible refine (spec_l1Cur_clause.calls k gb330 l0 t334 t335 _ _ t331 t337 t340 t341 w _ ?side1 ?side2 ?side3 ?side4 ?side5 A3.out).mono ?_
 (case side1=>exact YB)
 (case side2=>exact bH)
 (case side3=>repeat (first|exact (Kd.R_reads' HO333.out).2.2|(with_reducible refine Kd.C_alloc ?_ _)|(with_reducible refine Kd.C_drewN ?_ _)|(with_reducible refine Kd.C_drew ?_)))
 (case side4=>exact (Kd.R_reads' HO333.out).2.1)
 (case side5=>exact far_slice (IsS60.own_ne HI330.out HO333.out (by decide)))
 rintro e w14 ⟨v338,rfl,ho0,hi,hb,hk⟩
 refine ⟨_,rfl,?_⟩
 have HO339:=Aside0.mk (Kd.N_lower (Kd.N_mono (ok':=fun k_=>(w.heap.size ≤ k_) ∧ some k_ ≠ (.slice Ao8 t331.length co8:Value).ownBlock ∧ k_ ≠ gb329 ∧ k_ ≠ gb336 ∧ k_ ≠ gb330) ho0 (fun k_ hk_=>⟨(Nat.le_trans (below_size bH) hk_),(Kd.fresh' (Kd.R_lt (rR HO333)) k_ hk_),(Kd.freshB (bB BK329) k_ hk_),(Kd.freshB (bB BK336) k_ hk_),(IsS60.fresh YB k_ hk_)⟩)) (below_size bH));replace BK329:=kU hk NB329_330 (bB BK329);replace HO333:=Aside0.mk (Kd.R_mono (Kd.R_keep (IsS60.apart (show IsS60 w _ gb330 l0 t334 t335 from YB) (rR HO333) (by decide)) hk (fun _ h=>h.2)) (fun _ h=>h.1));replace BK336:=kU hk NB336_330 (bB BK336);replace HB:=Aside0.mk (hb);replace HI330:=Aside0.mk (hi)
 (try clear hb);(try clear hk);(try clear hi);(try clear ho0)
 refine hK.out _ _ ((blk_cell BK336.out 0).trans rfl) (fun hHeld=>?_)
 clear hK K
 refine nM (N:=some 14) ?_
 refine one_ (i:=4) (N:=none) #[true,true,true,true,true,false] rfl rfl (by kernel_rfl) (by decide) (fun K hK=>?_)
 have hs15:=qc1_0 BK329
 have hfs15:=fz BK329 0
 have hns15_1:=NB336_329.out
 have hms15_1:=NB329_336.out
 refine skip_ (w1:=?_) (by rfl) rfl ?_ ?_
 rotate_left
 ·go_simp
  rfl
 refine hK.out _ _ (((cell_far (p:=⟨gb329,_,none⟩) NB336_329.out _).trans (hHeld))) (fun hHeld=>?_)
 clear hK K
 refine pU (i:=5) (N:=some 3) #[true,true,true,true,true,true] (by kernel_rfl) ?_
 refine done_ (by kernel_rfl) ?_
 try go_wp2
 refine bodyPost_ret (results_ct rfl _ _ gb329 26 #[.slice Ao8 t331.length co8] (0,0) _ rfl (by (with_reducible repeat (first|refine blk_drewN ?_ _|refine blk_drew ?_|refine blk_alloc ?_ _));refine blk_put (cs:=#[.slice none 0 0]) ?_ 0 _ rfl;(with_reducible repeat (first|refine blk_drewN ?_ _|refine blk_drew ?_|refine blk_alloc ?_ _));exact BK329.out) Try.underlying26 rfl (by kernel_rfl)) rfl ?_
 exact ⟨_,_,Yb,by (with_reducible repeat (first|apply Kd.R_alloc|apply Kd.R_drewN|apply Kd.R_drew));exact Kd.R_mono (Kd.R_far (p:=⟨gb329,0,none⟩) (Kd.R_types HO333.out BK329.out (by decide)) (fun _ hk=>hk.2) (.slice Ao8 t331.length co8)) (fun _ hk=>hk.1),by (with_reducible repeat (first|apply Kd.N_alloc|apply Kd.N_drewN|apply Kd.N_drew));exact Kd.N_mono (Kd.N_far (p:=⟨gb329,0,none⟩) (Kd.N_mono HO339.out (fun k_ hk=>(⟨hk,hk.2.2.1⟩:_ ∧ k_ ≠ gb329))) (fun _ hk=>hk.2) (.slice Ao8 t331.length co8)) (fun _ hk=>⟨hk.1.1,hk.1.2.1⟩),bH⟩

/-! ### spec_DrawTidyClause: function 18 -/
def spec_DrawTidyClause.f (k:Nat) (l0:List Int):Option (List Int × (List (S83))):=(spec_DrawGoodClause.f k l0).bind fun bt343=>(some (bt343.1,bt343.2))
theorem spec_DrawTidyClause.mono:∀ a0 k,LeO (spec_DrawTidyClause.f k a0) (spec_DrawTidyClause.f (k + 1) a0):=by
 intro a0 k
 unfold spec_DrawTidyClause.f
 have m0:=@spec_DrawGoodClause.mono
 exact mO
set_option maxHeartbeats 8000000 in
set_option maxRecDepth 100000 in
theorem spec_DrawTidyClause.calls (k:Nat) (A0:Option Addr) (c0:Nat) (l0:List Int) (r1:List Int) (r2:List (S83)) (w:World) (hr0:Kd.C (Kd.int .u8) w A0 l0.length l0) (hc0:l0.length ≤ c0) (h:spec_DrawTidyClause.f k l0 = some (r1,r2)) :
  Calls Try.prog 18 #[.slice A0 l0.length c0] w fun e w'=>∃ v0_ v1_:Value,e = .returned (.tuple #[.agg #[v0_],v1_]) ∧ Kd.R (Kd.int .i64) 3 w' w.heap.size (fun k_=>(w.heap.size ≤ k_)) v0_ r1 ∧ Kd.N k83 83 w' w.heap.size (fun k_=>(w.heap.size ≤ k_) ∧ some k_ ≠ (v0_:Value).ownBlock) v1_ r2 ∧ Below w.heap.size w w':=by
 have hu26:=Try.underlying26
 have HR0:=Aside0.mk hr0
 have HC0:=Aside0.mk hc0
 clear hr0 hc0
 have HB:=Aside0.mk (Below.refl w.heap.size w)
 have H:((spec_DrawGoodClause.f k l0).bind fun bt343=>(some (bt343.1,bt343.2))) = some (r1,r2):=h
 clear h
 replace H:=bI H;obtain ⟨⟨t343,t346⟩,A2,H⟩:=H
 dsimp only at H
 simp only [Option.some.injEq,Prod.mk.injEq] at H
 obtain ⟨rfl,rfl⟩:=H
 go_enter Try.func18,Try.ntmps18
 go_wp2_with (first|(refine xB 2 #[.slice none 0 0] 26 ?_;intro gb342 hg w3 hbox hb;have BK342:=Aside0.mk (hbox);have GW342:=gZ w gb342;have GE342:=GW342;replace HB:=bS hb;clear hb hbox hg)|((with_reducible refine gate_callee (f:=58) rfl ?_);refine goesL_ (some 5) rfl rfl Try.func58 (by kernel_rfl) rfl #[.slice A0 l0.length c0] rfl Ya ?_;(with_reducible refine (spec_DrawGoodClause.calls k _ _ l0 t343 t346 _ ?side1 ?side2 A2.out).mono ?_);(case side1=>exact sC HR0);(case side2=>exact HC0.out);rintro e w4 ⟨v344,v347,rfl,ho0,ho1,hb⟩;refine ⟨_,rfl,?_⟩;have HO345:=Aside0.mk (Kd.R_lower (Kd.R_newM (M:=fun k_=>(w.heap.size ≤ k_)) (Kd.R_mono (ok':=fun k_=>True) ho0 (fun _ hk_=>trivial)) (below_size bH) (fun k_ h_=>h_)) (below_size bH));have HO348:=Aside0.mk (Kd.N_lower (Kd.N_mono (ok':=fun k_=>(w.heap.size ≤ k_) ∧ some k_ ≠ (v344:Value).ownBlock ∧ k_ ≠ gb342) ho1 (fun k_ hk_=>⟨(Nat.le_trans (below_size bH) hk_.1),hk_.2,(Kd.freshB (bB BK342) k_ hk_.1)⟩)) (below_size bH));replace BK342:=bb BK342 hb;replace HB:=bS hb;(try clear hb);(try clear hb2);(try clear hk);(try clear hi);(try clear ho0);(try clear ho1);obtain ⟨Ao5,co5,eo5⟩:=Kd.R_slice HO345.out;subst eo5;have hcz6_0:=qc1_0 BK342;have hfz6_0:=fz BK342 0))
 refine bodyPost_ret (results_ct rfl _ _ gb342 26 #[.slice Ao5 t343.length co5] (0,0) _ rfl (by (with_reducible repeat (first|refine blk_drewN ?_ _|refine blk_drew ?_|refine blk_alloc ?_ _));refine blk_put (cs:=#[.slice none 0 0]) ?_ 0 _ rfl;(with_reducible repeat (first|refine blk_drewN ?_ _|refine blk_drew ?_|refine blk_alloc ?_ _));exact BK342.out) Try.underlying26 rfl (by kernel_rfl)) rfl ?_
 exact ⟨_,_,Yb,by (with_reducible repeat (first|apply Kd.R_alloc|apply Kd.R_drewN|apply Kd.R_drew));exact Kd.R_mono (Kd.R_far (p:=⟨gb342,0,none⟩) (Kd.R_types HO345.out BK342.out (by decide)) (fun _ hk=>hk.2) (.slice Ao5 t343.length co5)) (fun _ hk=>hk.1.1),by (with_reducible repeat (first|apply Kd.N_alloc|apply Kd.N_drewN|apply Kd.N_drew));exact Kd.N_mono (Kd.N_far (p:=⟨gb342,0,none⟩) (Kd.N_mono HO348.out (fun k_ hk=>(⟨hk,hk.2.2⟩:_ ∧ k_ ≠ gb342))) (fun _ hk=>hk.2) (.slice Ao5 t343.length co5)) (fun _ hk=>⟨hk.1.1,hk.1.2.1⟩),bH⟩

/-! ### impl_GoodClause: function 26 -/
def impl_GoodClause.f (k:Nat) (l0_0:List Int) (l1:List (S83)):Option (Bool):=(impl_GoodSign.f l0_0).bind fun t350=>(if t350 = true then ((impl_Sign_isClause.f k l0_0 l1).bind fun t351=>(some t351)) else (some false))
theorem impl_GoodClause.mono:∀ a0 a1 k,LeO (impl_GoodClause.f k a0 a1) (impl_GoodClause.f (k + 1) a0 a1):=by
 intro a0 a1 k
 unfold impl_GoodClause.f
 have m0:=@impl_Sign_isClause.mono
 exact mO
set_option maxHeartbeats 8000000 in
set_option maxRecDepth 100000 in
theorem impl_GoodClause.calls (k:Nat) (A0_0:Option Addr) (c0_0:Nat) (l0_0:List Int) (A1:Option Addr) (c1:Nat) (l1:List (S83)) (r:Bool) (w:World) (hr0_0:Kd.C (Kd.int .i64) w A0_0 l0_0.length l0_0) (hc0_0:l0_0.length ≤ c0_0) (hr1:Kd.C k83 w A1 l1.length l1) (hc1:l1.length ≤ c1) (h:impl_GoodClause.f k l0_0 l1 = some r) :
  Calls Try.prog 26 #[.agg #[.slice A0_0 l0_0.length c0_0],.slice A1 l1.length c1] w fun e w'=>e = .returned (.bool r) ∧ Below w.heap.size w w':=by
 have hu26:=Try.underlying26
 have HR0_0:=Aside0.mk hr0_0
 have HC0_0:=Aside0.mk hc0_0
 clear hr0_0 hc0_0
 have HR1:=Aside0.mk hr1
 have HC1:=Aside0.mk hc1
 clear hr1 hc1
 have HB:=Aside0.mk (Below.refl w.heap.size w)
 have H:((impl_GoodSign.f l0_0).bind fun t350=>(if t350 = true then ((impl_Sign_isClause.f k l0_0 l1).bind fun t351=>(some t351)) else (some false))) = some r:=h
 clear h
 replace H:=bI H;obtain ⟨t350,A3,H⟩:=H
 by_cases c4:t350 = true
 ·subst c4
  replace H:=pT H
  replace H:=bI H;obtain ⟨t351,A5,H⟩:=H
  obtain rfl:=Option.some.inj H
  go_enter Try.func26,Try.ntmps26
  go_wp2_with (first|(refine xB 2 #[.slice A0_0 l0_0.length c0_0] 26 ?_;intro gb349 hg w6 hbox hb;have BK349:=Aside0.mk (hbox);have GW349:=gZ w gb349;have GE349:=GW349;replace HB:=bS hb;clear hb hbox hg;have hcz7_0:=qc1_0 BK349;have hfz7_0:=fz BK349 0)|((with_reducible refine gate_callee (f:=54) rfl ?_);refine goesL_ (some 6) rfl rfl Try.func54 (by kernel_rfl) rfl #[.agg #[.slice A0_0 l0_0.length c0_0]] rfl Ya ?_;(with_reducible refine (impl_GoodSign.calls _ _ l0_0 true _ ?side1 ?side2 A3.out).mono ?_);(case side1=>exact Yx);(case side2=>exact Yw);rintro e w8 ⟨rfl,hb⟩;refine ⟨_,rfl,?_⟩;replace BK349:=bb BK349 hb;replace HB:=bS hb;(try clear hb);(try clear hb2);(try clear hk);(try clear hi);have hcz9_0:=qc1_0 BK349;have hfz9_0:=fz BK349 0)|(go_at_call 50;(with_reducible refine (impl_Sign_isClause.calls k _ _ l0_0 _ _ l1 t351 _ ?side1 ?side2 ?side3 ?side4 A5.out).mono ?_);(case side1=>exact Yx);(case side2=>exact Yw);(case side3=>exact sC HR1);(case side4=>exact HC1.out);rintro e w10 ⟨rfl,hb⟩;replace BK349:=bb BK349 hb;replace HB:=bS hb;clear hb))
  go_ret
  exact ⟨Yb,bH⟩
 ·replace c4:=Bool.eq_false_iff.mpr c4
  subst c4
  replace H:=pF H
  obtain rfl:=Option.some.inj H
  go_enter Try.func26,Try.ntmps26
  go_wp2_with (first|(refine xB 2 #[.slice A0_0 l0_0.length c0_0] 26 ?_;intro gb349 hg w11 hbox hb;have BK349:=Aside0.mk (hbox);have GW349:=gZ w gb349;have GE349:=GW349;replace HB:=bS hb;clear hb hbox hg;have hcz12_0:=qc1_0 BK349;have hfz12_0:=fz BK349 0)|((with_reducible refine gate_callee (f:=54) rfl ?_);refine goesL_ (some 6) rfl rfl Try.func54 (by kernel_rfl) rfl #[.agg #[.slice A0_0 l0_0.length c0_0]] rfl Ya ?_;(with_reducible refine (impl_GoodSign.calls _ _ l0_0 false _ ?side1 ?side2 A3.out).mono ?_);(case side1=>exact Yx);(case side2=>exact Yw);rintro e w13 ⟨rfl,hb⟩;refine ⟨_,rfl,?_⟩;replace BK349:=bb BK349 hb;replace HB:=bS hb;clear hb))
  go_ret
  exact ⟨Yb,bH⟩

/-! ### slices_Equal_int_int: function 97 -/
def slices_Equal_int_int.l0:Nat → List Int → List Int → Int → Int → Option (Bool)
 | 0,_,_,_,_=>none
 | k + 1,x0,x1,x12,x13=>if x13 < x12 then (if 0 ≤ x13 then (if x13 < (x0.length:Int) then (if x13 < (x1.length:Int) then (if (rd x0 x13) = (rd x1 x13) then (slices_Equal_int_int.l0 k x0 x1 x12 (wrap64 (x13 + 1))) else (some false)) else (none)) else (none)) else (none)) else (some true)
def slices_Equal_int_int.f (k:Nat) (l0:List Int) (l1:List Int):Option (Bool):=if (l0.length:Int) = (l1.length:Int) then (slices_Equal_int_int.l0 k l0 l1 (l0.length:Int) 0) else (some false)
theorem slices_Equal_int_int.mono_l:∀ k,(∀ y0 y1 y2 y3,LeO (slices_Equal_int_int.l0 k y0 y1 y2 y3) (slices_Equal_int_int.l0 (k + 1) y0 y1 y2 y3))
 | 0=>fun _ _ _ _ r h=>by simp [slices_Equal_int_int.l0] at h
 | k + 1=>by
  have ih0:=slices_Equal_int_int.mono_l k
  ·intro y0 y1 y2 y3
   unfold slices_Equal_int_int.l0
   exact mO
theorem slices_Equal_int_int.mono:∀ a0 a1 k,LeO (slices_Equal_int_int.f k a0 a1) (slices_Equal_int_int.f (k + 1) a0 a1):=by
 intro a0 a1 k
 have ih0:=slices_Equal_int_int.mono_l k
 unfold slices_Equal_int_int.f
 exact mO
set_option maxHeartbeats 8000000 in
set_option maxRecDepth 100000 in
theorem slices_Equal_int_int.calls (k:Nat) (A0:Option Addr) (c0:Nat) (l0:List Int) (A1:Option Addr) (c1:Nat) (l1:List Int) (r:Bool) (w:World) (hr0:Kd.C (Kd.int .i64) w A0 l0.length l0) (hc0:l0.length ≤ c0) (hr1:Kd.C (Kd.int .i64) w A1 l1.length l1) (hc1:l1.length ≤ c1) (h:slices_Equal_int_int.f k l0 l1 = some r) :
  Calls Try.prog 97 #[.slice A0 l0.length c0,.slice A1 l1.length c1] w fun e w'=>e = .returned (.bool r) ∧ Drawn0 w w':=by
 have HR0:=Aside0.mk hr0
 have HC0:=Aside0.mk hc0
 clear hr0 hc0
 have HR1:=Aside0.mk hr1
 have HC1:=Aside0.mk hc1
 clear hr1 hc1
 have H:(if (l0.length:Int) = (l1.length:Int) then (slices_Equal_int_int.l0 k l0 l1 (l0.length:Int) 0) else (some false)) = some r:=h
 clear h
 by_cases c3:(l0.length:Int) = (l1.length:Int)
 ·rw [if_pos c3] at H
  have c3b0:((l0.length:Int) == (l1.length:Int)) = true:=beq_iff_eq.mpr c3
  have c3b1:((l0.length:Int) != (l1.length:Int)) = false:=bne_eq_false_iff_eq.mpr c3
  have c3b2:(l0.length == l1.length) = true:=by first|simpa using c3|(simp at c3 ⊢;omega)
  clear c3
  have H':=Aside0.mk H
  clear H
  go_enter Try.func97,Try.ntmps97
  go_wp2
  repeat (go_quiet (fail);try go_wp2)
  go_loopg [13] k (fun kq v13 w'=>∃ (x13_1:Int),v13 = .int .i64 x13_1 ∧ Aside0 (slices_Equal_int_int.l0 kq l0 l1 (l0.length:Int) x13_1 = some r) ∧ Aside0 (kq ≤ k) ∧ Drawn0 w w')
  case atStart=>exact ⟨(0),Yd,H',⟨Nat.le_refl _⟩,Yh⟩
  case round =>
   clear H'
   (try clear c1);(try clear c3);(try clear c3b0);(try clear c3b1);(try clear c3b2)
   obtain ⟨x13_1,rfl,HA,HK1,⟨m1,rfl⟩⟩:=hrel
   cases gk with
   | zero=>exact absurd HA.out (by simp [slices_Equal_int_int.l0])
   | succ k1 =>
    have H:=HA.out
    clear HA
    simp only [slices_Equal_int_int.l0] at H
    by_cases c4:x13_1 < (l0.length:Int)
    ·rw [if_pos c4] at H
     have c4b0:=decide_eq_true c4
     clear c4
     replace H:=gI H;obtain ⟨c5b0,H⟩:=H
     replace H:=gI H;obtain ⟨c6b0,H⟩:=H
     replace H:=gI H;obtain ⟨c7b0,H⟩:=H
     by_cases c8:(rd l0 x13_1) = (rd l1 x13_1)
     ·rw [if_pos c8] at H
      have c8b0:((rd l0 x13_1) == (rd l1 x13_1)) = true:=beq_iff_eq.mpr c8
      have c8b1:((rd l0 x13_1) != (rd l1 x13_1)) = false:=bne_eq_false_iff_eq.mpr c8
      clear c8
      have H':=Aside0.mk H
      clear H
      obtain ⟨p352,q352,ad352,e352,hx352_0⟩:=aI HR0.out x13_1;cases e352
      obtain ⟨p353,q353,ad353,e353,hx353_0⟩:=aI HR1.out x13_1;cases e353
      go_wp2
      repeat (go_quiet (fail);try go_wp2)
      go_roundg k1
      case measure=>have:=HK1.out;omega
      case rel=>exact ⟨(wrap64 (x13_1 + 1)),Yd,H',⟨YH⟩,Yh⟩
     ·rw [if_neg c8] at H
      have c8b0:((rd l0 x13_1) == (rd l1 x13_1)) = false:=beq_eq_false_iff_ne.mpr c8
      have c8b1:((rd l0 x13_1) != (rd l1 x13_1)) = true:=bne_iff_ne.mpr c8
      obtain rfl:=Option.some.inj H
      obtain ⟨p352,q352,ad352,e352,hx352_0⟩:=aI HR0.out x13_1;cases e352
      obtain ⟨p353,q353,ad353,e353,hx353_0⟩:=aI HR1.out x13_1;cases e353
      go_wp2
      repeat (go_quiet (fail);try go_wp2)
      go_ret
      exact ⟨Yd,Yh⟩
    ·rw [if_neg c4] at H
     have c4b0:decide (x13_1 < (l0.length:Int)) = false:=decide_eq_false c4
     clear c4
     obtain rfl:=Option.some.inj H
     go_wp2
     repeat (go_quiet (fail);try go_wp2)
     go_ret
     exact ⟨Yd,Yh⟩
 ·rw [if_neg c3] at H
  have c3b0:((l0.length:Int) == (l1.length:Int)) = false:=beq_eq_false_iff_ne.mpr c3
  have c3b1:((l0.length:Int) != (l1.length:Int)) = true:=bne_iff_ne.mpr c3
  have c3b2:(l0.length == l1.length) = false:=by first|simpa using c3|(simp at c3 ⊢;omega)
  obtain rfl:=Option.some.inj H
  go_enter Try.func97,Try.ntmps97
  go_wp2
  repeat (go_quiet (fail);try go_wp2)
  go_ret
  exact ⟨Yd,Yh⟩

/-! ### impl_sameSides: function 99, by a walk of this session's own -/
def impl_sameSides.f (k:Nat) (a0_0:Bool) (l0_1:List Int) (l0_2:List Int) (a1_0:Bool) (l1_1:List Int) (l1_2:List Int):Option Bool:=(slices_Equal_int_int.f k l0_1 l1_1).bind fun t1=>(if t1 = true then ((slices_Equal_int_int.f k l0_2 l1_2).bind fun t2=>(if t2 = true then (some true) else ((slices_Equal_int_int.f k l0_1 l1_2).bind fun t3=>(if t3 = true then ((slices_Equal_int_int.f k l0_2 l1_1).bind fun t4=>(some t4)) else (some false))))) else ((slices_Equal_int_int.f k l0_1 l1_2).bind fun t3=>(if t3 = true then ((slices_Equal_int_int.f k l0_2 l1_1).bind fun t4=>(some t4)) else (some false))))
theorem impl_sameSides.mono (a0_0:Bool) (l0_1:List Int) (l0_2:List Int) (a1_0:Bool) (l1_1:List Int) (l1_2:List Int) (k:Nat):LeO (impl_sameSides.f k a0_0 l0_1 l0_2 a1_0 l1_1 l1_2) (impl_sameSides.f (k + 1) a0_0 l0_1 l0_2 a1_0 l1_1 l1_2):=by
 unfold impl_sameSides.f
 exact LeO.bind (slices_Equal_int_int.mono _ _ _) (fun _=>LeO.ite (LeO.bind (slices_Equal_int_int.mono _ _ _) (fun _=>LeO.ite (LeO.refl _) (LeO.bind (slices_Equal_int_int.mono _ _ _) (fun _=>LeO.ite (LeO.bind (slices_Equal_int_int.mono _ _ _) (fun _=>LeO.refl _)) (LeO.refl _))))) (LeO.bind (slices_Equal_int_int.mono _ _ _) (fun _=>LeO.ite (LeO.bind (slices_Equal_int_int.mono _ _ _) (fun _=>LeO.refl _)) (LeO.refl _))))
set_option maxHeartbeats 8000000 in
set_option maxRecDepth 1000000 in
theorem impl_sameSides.calls (k:Nat) (a0_0:Bool) (A0_1:Option Addr) (c0_1:Nat) (l0_1:List Int) (A0_2:Option Addr) (c0_2:Nat) (l0_2:List Int) (a1_0:Bool) (A1_1:Option Addr) (c1_1:Nat) (l1_1:List Int) (A1_2:Option Addr) (c1_2:Nat) (l1_2:List Int) (r:Bool) (w:World) (hr0_1:Kd.C (Kd.int .i64) w A0_1 l0_1.length l0_1) (hc0_1:l0_1.length ≤ c0_1) (hr0_2:Kd.C (Kd.int .i64) w A0_2 l0_2.length l0_2) (hc0_2:l0_2.length ≤ c0_2) (hr1_1:Kd.C (Kd.int .i64) w A1_1 l1_1.length l1_1) (hc1_1:l1_1.length ≤ c1_1) (hr1_2:Kd.C (Kd.int .i64) w A1_2 l1_2.length l1_2) (hc1_2:l1_2.length ≤ c1_2) (h:impl_sameSides.f k a0_0 l0_1 l0_2 a1_0 l1_1 l1_2 = some r) :
  Calls Try.prog 99 #[.agg #[.bool a0_0,.slice A0_1 l0_1.length c0_1,.slice A0_2 l0_2.length c0_2],.agg #[.bool a1_0,.slice A1_1 l1_1.length c1_1,.slice A1_2 l1_2.length c1_2]] w fun e w'=>e = .returned (.bool r) ∧ Below w.heap.size w w':=by
 have P1:=Aside0.mk hr0_1
 have P2:=Aside0.mk hr0_2
 have Q1:=Aside0.mk hr1_1
 have Q2:=Aside0.mk hr1_2
 unfold impl_sameSides.f at h
 have HH:=Aside0.mk h
 clear hr0_1 hr0_2 hr1_1 hr1_2 h
 go_enter Try.func99,Try.ntmps99
 go_upto_region 1 with fail
 have HX:=Aside0.mk (blk_alloc (heap_alloc_new w (.cells #[.bool a0_0,.slice A0_1 l0_1.length c0_1,.slice A0_2 l0_2.length c0_2] 83)) (.cells #[.bool a1_0,.slice A1_1 l1_1.length c1_1,.slice A1_2 l1_2.length c1_2] 83))
 have HY:=Aside0.mk (heap_alloc_new (w.alloc (.cells #[.bool a0_0,.slice A0_1 l0_1.length c0_1,.slice A0_2 l0_2.length c0_2] 83)) (.cells #[.bool a1_0,.slice A1_1 l1_1.length c1_1,.slice A1_2 l1_2.length c1_2] 83))
 have HB:=Aside0.mk (below_step (below_alloc (Below.refl w.heap.size w) (.cells #[.bool a0_0,.slice A0_1 l0_1.length c0_1,.slice A0_2 l0_2.length c0_2] 83)) (below_alloc (Below.refl _ _) (.cells #[.bool a1_0,.slice A1_1 l1_1.length c1_1,.slice A1_2 l1_2.length c1_2] 83)))
 have hsz:(w.alloc (.cells #[.bool a0_0,.slice A0_1 l0_1.length c0_1,.slice A0_2 l0_2.length c0_2] 83)).heap.size = w.heap.size + 1:=by unfold World.alloc;exact Array.size_push _
 rw [hsz] at HY
 clear hsz
 obtain ⟨gx,hgx⟩:∃ g,g = w.heap.size:=⟨_,rfl⟩
 obtain ⟨gy,hgy⟩:∃ g,g = w.heap.size + 1:=⟨_,rfl⟩
 generalize (w.alloc (.cells #[.bool a0_0,.slice A0_1 l0_1.length c0_1,.slice A0_2 l0_2.length c0_2] 83)).alloc (.cells #[.bool a1_0,.slice A1_1 l1_1.length c1_1,.slice A1_2 l1_2.length c1_2] 83) = W at HX HY HB ⊢
 rw [← hgy] at HY ⊢
 rw [← hgx] at HX ⊢
 clear hgx hgy
 have xa1:W.cell? ⟨gx,1,none⟩ = some (.slice A0_1 l0_1.length c0_1):=(blk_cell HX.out 1).trans rfl
 have xa2:W.cell? ⟨gx,2,none⟩ = some (.slice A0_2 l0_2.length c0_2):=(blk_cell HX.out 2).trans rfl
 have ya1:W.cell? ⟨gy,1,none⟩ = some (.slice A1_1 l1_1.length c1_1):=(blk_cell HY.out 1).trans rfl
 have ya2:W.cell? ⟨gy,2,none⟩ = some (.slice A1_2 l1_2.length c1_2):=(blk_cell HY.out 2).trans rfl
 have h9:=HH.out
 clear HH
 obtain ⟨t1,e1,h9⟩:=Option.bind_eq_some_iff.1 h9
 have E1:=Aside0.mk e1
 clear e1
 cases t1 with
 | false =>
  simp only [Bool.false_eq_true,if_false] at h9
  obtain ⟨t3,e3,h9⟩:=Option.bind_eq_some_iff.1 h9
  have E3:=Aside0.mk e3
  cases t3 with
  | false =>
   simp only [Bool.false_eq_true,if_false,Option.some.injEq] at h9
   subst h9
   clear e3
   have c1:=slices_Equal_int_int.calls k A0_1 c0_1 l0_1 A1_1 c1_1 l1_1 false W (Kd.C_below P1.out HB.out) hc0_1 (Kd.C_below Q1.out HB.out) hc1_1 E1.out
   go_wp2_with (first|(go_at_call 97;refine c1.mono ?_;clear c1;first|rintro e_ W1 rfl hd|rintro e_ W1 ⟨rfl,hd⟩;have HX:=Aside0.mk ((hd.below.block gx (blk_lt HX.out)).trans HX.out);have HY:=Aside0.mk ((hd.below.block gy (blk_lt HY.out)).trans HY.out);have HB:=Aside0.mk (below_step HB.out hd.below);clear hd;have xb1:W1.cell? ⟨gx,1,none⟩ = some (.slice A0_1 l0_1.length c0_1):=(blk_cell HX.out 1).trans rfl;have xb2:W1.cell? ⟨gx,2,none⟩ = some (.slice A0_2 l0_2.length c0_2):=(blk_cell HX.out 2).trans rfl;have yb1:W1.cell? ⟨gy,1,none⟩ = some (.slice A1_1 l1_1.length c1_1):=(blk_cell HY.out 1).trans rfl;have yb2:W1.cell? ⟨gy,2,none⟩ = some (.slice A1_2 l1_2.length c1_2):=(blk_cell HY.out 2).trans rfl;have c2:=slices_Equal_int_int.calls k A0_1 c0_1 l0_1 A1_2 c1_2 l1_2 false W1 (Kd.C_below P1.out HB.out) hc0_1 (Kd.C_below Q2.out HB.out) hc1_2 E3.out)|(go_at_call 97;refine c2.mono ?_;clear c2;first|rintro e_ W2 rfl hd|rintro e_ W2 ⟨rfl,hd⟩;have HX:=Aside0.mk ((hd.below.block gx (blk_lt HX.out)).trans HX.out);have HY:=Aside0.mk ((hd.below.block gy (blk_lt HY.out)).trans HY.out);have HB:=Aside0.mk (below_step HB.out hd.below);clear hd))
   go_ret
   exact ⟨rfl,HB.out⟩
  | true =>
   simp only [if_true] at h9
   obtain ⟨t4,e4,h9⟩:=Option.bind_eq_some_iff.1 h9
   have E4:=Aside0.mk e4
   simp only [Option.some.injEq] at h9
   subst h9
   clear e3 e4
   have c1:=slices_Equal_int_int.calls k A0_1 c0_1 l0_1 A1_1 c1_1 l1_1 false W (Kd.C_below P1.out HB.out) hc0_1 (Kd.C_below Q1.out HB.out) hc1_1 E1.out
   go_wp2_with (first|(go_at_call 97;refine c1.mono ?_;clear c1;first|rintro e_ W1 rfl hd|rintro e_ W1 ⟨rfl,hd⟩;have HX:=Aside0.mk ((hd.below.block gx (blk_lt HX.out)).trans HX.out);have HY:=Aside0.mk ((hd.below.block gy (blk_lt HY.out)).trans HY.out);have HB:=Aside0.mk (below_step HB.out hd.below);clear hd;have xb1:W1.cell? ⟨gx,1,none⟩ = some (.slice A0_1 l0_1.length c0_1):=(blk_cell HX.out 1).trans rfl;have xb2:W1.cell? ⟨gx,2,none⟩ = some (.slice A0_2 l0_2.length c0_2):=(blk_cell HX.out 2).trans rfl;have yb1:W1.cell? ⟨gy,1,none⟩ = some (.slice A1_1 l1_1.length c1_1):=(blk_cell HY.out 1).trans rfl;have yb2:W1.cell? ⟨gy,2,none⟩ = some (.slice A1_2 l1_2.length c1_2):=(blk_cell HY.out 2).trans rfl;have c2:=slices_Equal_int_int.calls k A0_1 c0_1 l0_1 A1_2 c1_2 l1_2 true W1 (Kd.C_below P1.out HB.out) hc0_1 (Kd.C_below Q2.out HB.out) hc1_2 E3.out)|(go_at_call 97;refine c2.mono ?_;clear c2;first|rintro e_ W2 rfl hd|rintro e_ W2 ⟨rfl,hd⟩;have HX:=Aside0.mk ((hd.below.block gx (blk_lt HX.out)).trans HX.out);have HY:=Aside0.mk ((hd.below.block gy (blk_lt HY.out)).trans HY.out);have HB:=Aside0.mk (below_step HB.out hd.below);clear hd;have xc1:W2.cell? ⟨gx,1,none⟩ = some (.slice A0_1 l0_1.length c0_1):=(blk_cell HX.out 1).trans rfl;have xc2:W2.cell? ⟨gx,2,none⟩ = some (.slice A0_2 l0_2.length c0_2):=(blk_cell HX.out 2).trans rfl;have yc1:W2.cell? ⟨gy,1,none⟩ = some (.slice A1_1 l1_1.length c1_1):=(blk_cell HY.out 1).trans rfl;have yc2:W2.cell? ⟨gy,2,none⟩ = some (.slice A1_2 l1_2.length c1_2):=(blk_cell HY.out 2).trans rfl;have c3:=slices_Equal_int_int.calls k A0_2 c0_2 l0_2 A1_1 c1_1 l1_1 t4 W2 (Kd.C_below P2.out HB.out) hc0_2 (Kd.C_below Q1.out HB.out) hc1_1 E4.out)|(go_at_call 97;refine c3.mono ?_;clear c3;first|rintro e_ W3 rfl hd|rintro e_ W3 ⟨rfl,hd⟩;have HX:=Aside0.mk ((hd.below.block gx (blk_lt HX.out)).trans HX.out);have HY:=Aside0.mk ((hd.below.block gy (blk_lt HY.out)).trans HY.out);have HB:=Aside0.mk (below_step HB.out hd.below);clear hd))
   go_ret
   exact ⟨rfl,HB.out⟩
 | true =>
  simp only [if_true] at h9
  obtain ⟨t2,e2,h9⟩:=Option.bind_eq_some_iff.1 h9
  have E2:=Aside0.mk e2
  clear e2
  cases t2 with
  | true =>
   simp only [if_true,Option.some.injEq] at h9
   subst h9
   have c1:=slices_Equal_int_int.calls k A0_1 c0_1 l0_1 A1_1 c1_1 l1_1 true W (Kd.C_below P1.out HB.out) hc0_1 (Kd.C_below Q1.out HB.out) hc1_1 E1.out
   go_wp2_with (first|(go_at_call 97;refine c1.mono ?_;clear c1;first|rintro e_ W1 rfl hd|rintro e_ W1 ⟨rfl,hd⟩;have HX:=Aside0.mk ((hd.below.block gx (blk_lt HX.out)).trans HX.out);have HY:=Aside0.mk ((hd.below.block gy (blk_lt HY.out)).trans HY.out);have HB:=Aside0.mk (below_step HB.out hd.below);clear hd;have xb1:W1.cell? ⟨gx,1,none⟩ = some (.slice A0_1 l0_1.length c0_1):=(blk_cell HX.out 1).trans rfl;have xb2:W1.cell? ⟨gx,2,none⟩ = some (.slice A0_2 l0_2.length c0_2):=(blk_cell HX.out 2).trans rfl;have yb1:W1.cell? ⟨gy,1,none⟩ = some (.slice A1_1 l1_1.length c1_1):=(blk_cell HY.out 1).trans rfl;have yb2:W1.cell? ⟨gy,2,none⟩ = some (.slice A1_2 l1_2.length c1_2):=(blk_cell HY.out 2).trans rfl;have c2:=slices_Equal_int_int.calls k A0_2 c0_2 l0_2 A1_2 c1_2 l1_2 true W1 (Kd.C_below P2.out HB.out) hc0_2 (Kd.C_below Q2.out HB.out) hc1_2 E2.out)|(go_at_call 97;refine c2.mono ?_;clear c2;first|rintro e_ W2 rfl hd|rintro e_ W2 ⟨rfl,hd⟩;have HX:=Aside0.mk ((hd.below.block gx (blk_lt HX.out)).trans HX.out);have HY:=Aside0.mk ((hd.below.block gy (blk_lt HY.out)).trans HY.out);have HB:=Aside0.mk (below_step HB.out hd.below);clear hd))
   go_ret
   exact ⟨rfl,HB.out⟩
  | false =>
   simp only [Bool.false_eq_true,if_false] at h9
   obtain ⟨t3,e3,h9⟩:=Option.bind_eq_some_iff.1 h9
   have E3:=Aside0.mk e3
   cases t3 with
   | false =>
    simp only [Bool.false_eq_true,if_false,Option.some.injEq] at h9
    subst h9
    clear e3
    have c1:=slices_Equal_int_int.calls k A0_1 c0_1 l0_1 A1_1 c1_1 l1_1 true W (Kd.C_below P1.out HB.out) hc0_1 (Kd.C_below Q1.out HB.out) hc1_1 E1.out
    go_wp2_with (first|(go_at_call 97;refine c1.mono ?_;clear c1;first|rintro e_ W1 rfl hd|rintro e_ W1 ⟨rfl,hd⟩;have HX:=Aside0.mk ((hd.below.block gx (blk_lt HX.out)).trans HX.out);have HY:=Aside0.mk ((hd.below.block gy (blk_lt HY.out)).trans HY.out);have HB:=Aside0.mk (below_step HB.out hd.below);clear hd;have xb1:W1.cell? ⟨gx,1,none⟩ = some (.slice A0_1 l0_1.length c0_1):=(blk_cell HX.out 1).trans rfl;have xb2:W1.cell? ⟨gx,2,none⟩ = some (.slice A0_2 l0_2.length c0_2):=(blk_cell HX.out 2).trans rfl;have yb1:W1.cell? ⟨gy,1,none⟩ = some (.slice A1_1 l1_1.length c1_1):=(blk_cell HY.out 1).trans rfl;have yb2:W1.cell? ⟨gy,2,none⟩ = some (.slice A1_2 l1_2.length c1_2):=(blk_cell HY.out 2).trans rfl;have c2:=slices_Equal_int_int.calls k A0_2 c0_2 l0_2 A1_2 c1_2 l1_2 false W1 (Kd.C_below P2.out HB.out) hc0_2 (Kd.C_below Q2.out HB.out) hc1_2 E2.out)|(go_at_call 97;refine c2.mono ?_;clear c2;first|rintro e_ W2 rfl hd|rintro e_ W2 ⟨rfl,hd⟩;have HX:=Aside0.mk ((hd.below.block gx (blk_lt HX.out)).trans HX.out);have HY:=Aside0.mk ((hd.below.block gy (blk_lt HY.out)).trans HY.out);have HB:=Aside0.mk (below_step HB.out hd.below);clear hd;have xc1:W2.cell? ⟨gx,1,none⟩ = some (.slice A0_1 l0_1.length c0_1):=(blk_cell HX.out 1).trans rfl;have xc2:W2.cell? ⟨gx,2,none⟩ = some (.slice A0_2 l0_2.length c0_2):=(blk_cell HX.out 2).trans rfl;have yc1:W2.cell? ⟨gy,1,none⟩ = some (.slice A1_1 l1_1.length c1_1):=(blk_cell HY.out 1).trans rfl;have yc2:W2.cell? ⟨gy,2,none⟩ = some (.slice A1_2 l1_2.length c1_2):=(blk_cell HY.out 2).trans rfl;have c3:=slices_Equal_int_int.calls k A0_1 c0_1 l0_1 A1_2 c1_2 l1_2 false W2 (Kd.C_below P1.out HB.out) hc0_1 (Kd.C_below Q2.out HB.out) hc1_2 E3.out)|(go_at_call 97;refine c3.mono ?_;clear c3;first|rintro e_ W3 rfl hd|rintro e_ W3 ⟨rfl,hd⟩;have HX:=Aside0.mk ((hd.below.block gx (blk_lt HX.out)).trans HX.out);have HY:=Aside0.mk ((hd.below.block gy (blk_lt HY.out)).trans HY.out);have HB:=Aside0.mk (below_step HB.out hd.below);clear hd))
    go_ret
    exact ⟨rfl,HB.out⟩
   | true =>
    simp only [if_true] at h9
    obtain ⟨t4,e4,h9⟩:=Option.bind_eq_some_iff.1 h9
    have E4:=Aside0.mk e4
    simp only [Option.some.injEq] at h9
    subst h9
    clear e3 e4
    have c1:=slices_Equal_int_int.calls k A0_1 c0_1 l0_1 A1_1 c1_1 l1_1 true W (Kd.C_below P1.out HB.out) hc0_1 (Kd.C_below Q1.out HB.out) hc1_1 E1.out
    go_wp2_with (first|(go_at_call 97;refine c1.mono ?_;clear c1;first|rintro e_ W1 rfl hd|rintro e_ W1 ⟨rfl,hd⟩;have HX:=Aside0.mk ((hd.below.block gx (blk_lt HX.out)).trans HX.out);have HY:=Aside0.mk ((hd.below.block gy (blk_lt HY.out)).trans HY.out);have HB:=Aside0.mk (below_step HB.out hd.below);clear hd;have xb1:W1.cell? ⟨gx,1,none⟩ = some (.slice A0_1 l0_1.length c0_1):=(blk_cell HX.out 1).trans rfl;have xb2:W1.cell? ⟨gx,2,none⟩ = some (.slice A0_2 l0_2.length c0_2):=(blk_cell HX.out 2).trans rfl;have yb1:W1.cell? ⟨gy,1,none⟩ = some (.slice A1_1 l1_1.length c1_1):=(blk_cell HY.out 1).trans rfl;have yb2:W1.cell? ⟨gy,2,none⟩ = some (.slice A1_2 l1_2.length c1_2):=(blk_cell HY.out 2).trans rfl;have c2:=slices_Equal_int_int.calls k A0_2 c0_2 l0_2 A1_2 c1_2 l1_2 false W1 (Kd.C_below P2.out HB.out) hc0_2 (Kd.C_below Q2.out HB.out) hc1_2 E2.out)|(go_at_call 97;refine c2.mono ?_;clear c2;first|rintro e_ W2 rfl hd|rintro e_ W2 ⟨rfl,hd⟩;have HX:=Aside0.mk ((hd.below.block gx (blk_lt HX.out)).trans HX.out);have HY:=Aside0.mk ((hd.below.block gy (blk_lt HY.out)).trans HY.out);have HB:=Aside0.mk (below_step HB.out hd.below);clear hd;have xc1:W2.cell? ⟨gx,1,none⟩ = some (.slice A0_1 l0_1.length c0_1):=(blk_cell HX.out 1).trans rfl;have xc2:W2.cell? ⟨gx,2,none⟩ = some (.slice A0_2 l0_2.length c0_2):=(blk_cell HX.out 2).trans rfl;have yc1:W2.cell? ⟨gy,1,none⟩ = some (.slice A1_1 l1_1.length c1_1):=(blk_cell HY.out 1).trans rfl;have yc2:W2.cell? ⟨gy,2,none⟩ = some (.slice A1_2 l1_2.length c1_2):=(blk_cell HY.out 2).trans rfl;have c3:=slices_Equal_int_int.calls k A0_1 c0_1 l0_1 A1_2 c1_2 l1_2 true W2 (Kd.C_below P1.out HB.out) hc0_1 (Kd.C_below Q2.out HB.out) hc1_2 E3.out)|(go_at_call 97;refine c3.mono ?_;clear c3;first|rintro e_ W3 rfl hd|rintro e_ W3 ⟨rfl,hd⟩;have HX:=Aside0.mk ((hd.below.block gx (blk_lt HX.out)).trans HX.out);have HY:=Aside0.mk ((hd.below.block gy (blk_lt HY.out)).trans HY.out);have HB:=Aside0.mk (below_step HB.out hd.below);clear hd;have xd1:W3.cell? ⟨gx,1,none⟩ = some (.slice A0_1 l0_1.length c0_1):=(blk_cell HX.out 1).trans rfl;have xd2:W3.cell? ⟨gx,2,none⟩ = some (.slice A0_2 l0_2.length c0_2):=(blk_cell HX.out 2).trans rfl;have yd1:W3.cell? ⟨gy,1,none⟩ = some (.slice A1_1 l1_1.length c1_1):=(blk_cell HY.out 1).trans rfl;have yd2:W3.cell? ⟨gy,2,none⟩ = some (.slice A1_2 l1_2.length c1_2):=(blk_cell HY.out 2).trans rfl;have c4:=slices_Equal_int_int.calls k A0_2 c0_2 l0_2 A1_1 c1_1 l1_1 t4 W3 (Kd.C_below P2.out HB.out) hc0_2 (Kd.C_below Q1.out HB.out) hc1_1 E4.out)|(go_at_call 97;refine c4.mono ?_;clear c4;first|rintro e_ W4 rfl hd|rintro e_ W4 ⟨rfl,hd⟩;have HX:=Aside0.mk ((hd.below.block gx (blk_lt HX.out)).trans HX.out);have HY:=Aside0.mk ((hd.below.block gy (blk_lt HY.out)).trans HY.out);have HB:=Aside0.mk (below_step HB.out hd.below);clear hd))
    go_ret
    exact ⟨rfl,HB.out⟩

/-! ### impl_tidy_1: function 98 -/
def impl_tidy_1.f (k:Nat) (a0_0:Bool) (l0_1:List Int) (l0_2:List Int) (a1_0:Bool) (l1_1:List Int) (l1_2:List Int):Option (Bool):=if (a1_0 == a0_0) = true then ((impl_sameSides.f k a1_0 l1_1 l1_2 a0_0 l0_1 l0_2).bind fun t355=>(some t355)) else (some false)
theorem impl_tidy_1.mono:∀ a0 a1 a2 a3 a4 a5 k,LeO (impl_tidy_1.f k a0 a1 a2 a3 a4 a5) (impl_tidy_1.f (k + 1) a0 a1 a2 a3 a4 a5):=by
 intro a0 a1 a2 a3 a4 a5 k
 unfold impl_tidy_1.f
 have m0:=@impl_sameSides.mono
 exact mO
set_option maxHeartbeats 8000000 in
set_option maxRecDepth 100000 in
theorem impl_tidy_1.calls (k:Nat) (a0_0:Bool) (A0_1:Option Addr) (c0_1:Nat) (l0_1:List Int) (A0_2:Option Addr) (c0_2:Nat) (l0_2:List Int) (g1_:Nat) (a1_0:Bool) (A1_1:Option Addr) (c1_1:Nat) (l1_1:List Int) (A1_2:Option Addr) (c1_2:Nat) (l1_2:List Int) (r:Bool) (w:World) (hr0_1:Kd.C (Kd.int .i64) w A0_1 l0_1.length l0_1) (hc0_1:l0_1.length ≤ c0_1) (hr0_2:Kd.C (Kd.int .i64) w A0_2 l0_2.length l0_2) (hc0_2:l0_2.length ≤ c0_2) (hr1_1:Kd.C (Kd.int .i64) w A1_1 l1_1.length l1_1) (hc1_1:l1_1.length ≤ c1_1) (hr1_2:Kd.C (Kd.int .i64) w A1_2 l1_2.length l1_2) (hc1_2:l1_2.length ≤ c1_2) (hg1:w.heap[g1_]? = some (.cells #[.bool a1_0,.slice A1_1 l1_1.length c1_1,.slice A1_2 l1_2.length c1_2] 83 (0,0))) (h:impl_tidy_1.f k a0_0 l0_1 l0_2 a1_0 l1_1 l1_2 = some r) :
  Calls Try.prog 98 #[.agg #[.bool a0_0,.slice A0_1 l0_1.length c0_1,.slice A0_2 l0_2.length c0_2],.pointer (some ⟨g1_,0,none⟩)] w fun e w'=>e = .returned (.bool r) ∧ Below w.heap.size w w':=by
 have hu83:=Try.underlying83
 have HR0_1:=Aside0.mk hr0_1
 have HC0_1:=Aside0.mk hc0_1
 clear hr0_1 hc0_1
 have HR0_2:=Aside0.mk hr0_2
 have HC0_2:=Aside0.mk hc0_2
 clear hr0_2 hc0_2
 have HR1_1:=Aside0.mk hr1_1
 have HC1_1:=Aside0.mk hc1_1
 clear hr1_1 hc1_1
 have HR1_2:=Aside0.mk hr1_2
 have HC1_2:=Aside0.mk hc1_2
 clear hr1_2 hc1_2
 have BK1:=Aside0.mk hg1
 clear hg1
 have HB:=Aside0.mk (Below.refl w.heap.size w)
 have H:(if (a1_0 == a0_0) = true then ((impl_sameSides.f k a1_0 l1_1 l1_2 a0_0 l0_1 l0_2).bind fun t355=>(some t355)) else (some false)) = some r:=h
 clear h
 by_cases c3:(a1_0 == a0_0) = true
 ·rw [if_pos c3] at H
  have c3b0:(a1_0 == a0_0) = true:=c3
  (try (have c3b1:decide (a1_0 = a0_0) = true:=by simpa using c3))
  (try (have c3b2:(a1_0 == a0_0) = true:=by simpa using c3))
  clear c3
  replace H:=bI H;obtain ⟨t355,A4,H⟩:=H
  obtain rfl:=Option.some.inj H
  go_enter Try.func98,Try.ntmps98
  go_wp2_with (first|(refine xB 2 #[.bool a0_0,.slice A0_1 l0_1.length c0_1,.slice A0_2 l0_2.length c0_2] 83 ?_;intro gb354 hg w5 hbox hb;have BK354:=Aside0.mk (hbox);have GW354:=gZ w gb354;have GE354:=GW354;replace HB:=bS hb;have NB1_354:=nl BK1 g1_ gb354;have NB354_1:=nr NB1_354;replace BK1:=bb BK1 hb;clear hb hbox hg;have hnb6:=NB1_354.out;have hnc6:=NB354_1.out;have hcz7_0:=qc3_0 BK1;have hcz7_1:=qc3_1 BK1;have hcz7_2:=qc3_2 BK1;have hfz7_0:=fz BK1 0;have hfz7_1:=fz BK1 1;have hfz7_2:=fz BK1 2;have hcz8_0:=qc3_0 BK354;have hcz8_1:=qc3_1 BK354;have hcz8_2:=qc3_2 BK354;have hfz8_0:=fz BK354 0;have hfz8_1:=fz BK354 1;have hfz8_2:=fz BK354 2)|(go_at_call 99;(with_reducible refine (impl_sameSides.calls k a1_0 _ _ l1_1 _ _ l1_2 a0_0 _ _ l0_1 _ _ l0_2 t355 _ ?side1 ?side2 ?side3 ?side4 ?side5 ?side6 ?side7 ?side8 A4.out).mono ?_);(case side1=>exact YY);(case side2=>exact YW);(case side3=>exact sC HR1_2);(case side4=>exact HC1_2.out);(case side5=>exact sC HR0_1);(case side6=>exact HC0_1.out);(case side7=>exact sC HR0_2);(case side8=>exact HC0_2.out);rintro e w9 ⟨rfl,hb⟩;replace BK1:=bb BK1 hb;replace BK354:=bb BK354 hb;replace HB:=bS hb;clear hb))
  go_ret
  exact ⟨Yb,bH⟩
 ·rw [if_neg c3] at H
  have c3b0:(a1_0 == a0_0) = false:=by simpa using c3
  (try (have c3b1:decide (a1_0 = a0_0) = false:=by simpa using c3))
  (try (have c3b2:(a1_0 == a0_0) = false:=by simpa using c3))
  (try (have c3b3:¬ (a1_0 = a0_0):=by simpa using c3))
  clear c3
  obtain rfl:=Option.some.inj H
  go_enter Try.func98,Try.ntmps98
  go_wp2_with (first|(refine xB 2 #[.bool a0_0,.slice A0_1 l0_1.length c0_1,.slice A0_2 l0_2.length c0_2] 83 ?_;intro gb354 hg w10 hbox hb;have BK354:=Aside0.mk (hbox);have GW354:=gZ w gb354;have GE354:=GW354;replace HB:=bS hb;have NB1_354:=nl BK1 g1_ gb354;have NB354_1:=nr NB1_354;replace BK1:=bb BK1 hb;clear hb hbox hg;have hnb11:=NB1_354.out;have hnc11:=NB354_1.out;have hcz12_0:=qc3_0 BK1;have hcz12_1:=qc3_1 BK1;have hcz12_2:=qc3_2 BK1;have hfz12_0:=fz BK1 0;have hfz12_1:=fz BK1 1;have hfz12_2:=fz BK1 2;have hcz13_0:=qc3_0 BK354;have hcz13_1:=qc3_1 BK354;have hcz13_2:=qc3_2 BK354;have hfz13_0:=fz BK354 0;have hfz13_1:=fz BK354 1;have hfz13_2:=fz BK354 2))
  go_ret
  exact ⟨Yb,bH⟩

/-! ### slices_Clone_int_int: function 119, by the kit's own contract -/
open Go.Shelf in
shelf_lay Lays2.n15 Nm2 15 at Try as Try.laysCloneLays2n15
theorem Try.flaysCloneLays2n15:Try.laysCloneLays2n15_ren.f 15 = 119:=by kernel_rfl
theorem Try.tlaysCloneLays2n15:Try.laysCloneLays2n15_ren.t 3 = 3:=by kernel_rfl
def slices_Clone_int_int.f (l0:List Int):Option (List Int):=if l0.length ≤ 17592186044416 then some l0 else none
theorem slices_Clone_int_int.calls (A0:Option Addr) (c0:Nat) (l0:List Int) (r:List Int) (w:World) (hr0:Kd.C (Kd.int .i64) w A0 l0.length l0) (hc0:l0.length ≤ c0) (h:slices_Clone_int_int.f l0 = some r) :
  Calls Try.prog 119 #[.slice A0 l0.length c0] w fun e w'=>∃ v0_:Value,e = .returned (v0_) ∧ Kd.R (Kd.int .i64) 3 w' w.heap.size (fun _=>True) v0_ r ∧ Below w.heap.size w w':=by
 unfold slices_Clone_int_int.f at h
 split at h
 ·rename_i hn
  obtain rfl:=Option.some.inj h
  have hR:ReadsOf (Value.int .i64) 0 w A0 l0.length l0:=Kd.reads_of_C hr0
  rcases A0 with _|⟨b,off,sp⟩
  ·have h0:l0 = []:=by
    rcases Nat.eq_zero_or_pos l0.length with h|h
    ·exact List.eq_nil_of_length_eq_zero h
    ·obtain ⟨ad,e,_⟩:=hR.2.2 h
     cases e
   subst h0
   have h':=Any.slices_Clone_int_nil Try.laysCloneLays2n15 0 c0 w
   rw [Try.flaysCloneLays2n15] at h'
   exact h'.mono fun e w' ⟨he,hw⟩=>⟨_,he,Kd.R_nil _ _ _ _ _,hw ▸ Below.refl _ _⟩
  ·rcases Nat.eq_zero_or_pos l0.length with h0|h0
   ·obtain rfl:l0 = []:=List.eq_nil_of_length_eq_zero h0
    have h':=Any.slices_Clone_int_zero Try.laysCloneLays2n15 ⟨b,off,sp⟩ c0 w
    rw [Try.flaysCloneLays2n15,Try.tlaysCloneLays2n15] at h'
    exact h'.mono fun e w' ⟨v,he,ho,_,hb⟩=>⟨v,he,Kd.R_of_own (enc:=(Value.int .i64)) (h1:=fun _=>rfl) ho (fun _ _=>trivial),hb⟩
   ·obtain ⟨ad,e,hc⟩:=hR.2.2 h0
    injection e with e
    subst e
    have hsp:sp = none:=by
     have h1:=hc 0 h0
     cases sp with
     | none=>rfl
     | some x=>simp [Addr.add,World.cell?] at h1;split at h1 <;> simp at h1
    subst hsp
    have h':=Any.slices_Clone_int Try.laysCloneLays2n15 b off l0.length c0 l0 w (Nat.le_refl _) (by omega) (fun j hj=>(Addr.add_lit b off j) ▸ hc j hj)
    rw [Try.flaysCloneLays2n15,Try.tlaysCloneLays2n15,List.take_length] at h'
    exact h'.mono fun e w' ⟨v,he,ho,_,hb⟩=>⟨v,he,Kd.R_of_own (enc:=(Value.int .i64)) (h1:=fun _=>rfl) ho (fun _ _=>trivial),hb⟩
 ·simp at h

/-! ### impl_copyLit: function 100 -/
def impl_copyLit.f (a0_0:Bool) (l0_1:List Int) (l0_2:List Int):Option (Bool × List Int × List Int):=(slices_Clone_int_int.f l0_1).bind fun t358=>((slices_Clone_int_int.f l0_2).bind fun t361=>(some (a0_0,t358,t361)))
def impl_copyLit.T1:Bool × List (List Nat × List Nat):=(true,[([],[]),([0],[0]),([],[]),([2],[2]),([3],[3]),([],[]),([5],[5]),([6,4],[6]),([1,4,7],[1,4,7]),([8,7,0,1,2,3,4,5,6,7,8],[8])])
def impl_copyLit.B1:List Nat:=[0,1,0,4,12,0,32,124,255,511]
theorem impl_copyLit.tab1:rtab .any (opsOf Try.f100 1) = impl_copyLit.T1:=by kernel_rfl
theorem impl_copyLit.bits1:waitsOk impl_copyLit.T1.2 impl_copyLit.B1 = true:=by kernel_rfl
set_option maxHeartbeats 8000000 in
set_option maxRecDepth 100000 in
theorem impl_copyLit.calls (a0_0:Bool) (A0_1:Option Addr) (c0_1:Nat) (l0_1:List Int) (A0_2:Option Addr) (c0_2:Nat) (l0_2:List Int) (r1:Bool) (r2:List Int) (r3:List Int) (w:World) (hr0_1:Kd.C (Kd.int .i64) w A0_1 l0_1.length l0_1) (hc0_1:l0_1.length ≤ c0_1) (hr0_2:Kd.C (Kd.int .i64) w A0_2 l0_2.length l0_2) (hc0_2:l0_2.length ≤ c0_2) (h:impl_copyLit.f a0_0 l0_1 l0_2 = some (r1,r2,r3)) :
  Calls Try.prog 100 #[.agg #[.bool a0_0,.slice A0_1 l0_1.length c0_1,.slice A0_2 l0_2.length c0_2]] w fun e w'=>∃ v1_ v2_:Value,e = .returned (.agg #[.bool r1,v1_,v2_]) ∧ Kd.R (Kd.int .i64) 3 w' w.heap.size (fun k_=>some k_ ≠ (v2_:Value).ownBlock) v1_ r2 ∧ Kd.R (Kd.int .i64) 3 w' w.heap.size (fun k_=>some k_ ≠ (v1_:Value).ownBlock) v2_ r3 ∧ Below w.heap.size w w':=by
 have hu83:=Try.underlying83
 have HR0_1:=Aside0.mk hr0_1
 have HC0_1:=Aside0.mk hc0_1
 clear hr0_1 hc0_1
 have HR0_2:=Aside0.mk hr0_2
 have HC0_2:=Aside0.mk hc0_2
 clear hr0_2 hc0_2
 have HB:=Aside0.mk (Below.refl w.heap.size w)
 have H:((slices_Clone_int_int.f l0_1).bind fun t358=>((slices_Clone_int_int.f l0_2).bind fun t361=>(some (a0_0,t358,t361)))) = some (r1,r2,r3):=h
 clear h
 replace H:=bI H;obtain ⟨t358,A2,H⟩:=H
 replace H:=bI H;obtain ⟨t361,A3,H⟩:=H
 simp only [Option.some.injEq,Prod.mk.injEq] at H
 obtain ⟨rfl,rfl,rfl⟩:=H
 go_enter Try.func100,Try.ntmps100
 try go_wp2_with (first|(refine xB 1 #[.bool a0_0,.slice A0_1 l0_1.length c0_1,.slice A0_2 l0_2.length c0_2] 83 ?_;intro gb356 hg w4 hbox hb;have BK356:=Aside0.mk (hbox);have GW356:=gZ w gb356;have GE356:=GW356;replace HB:=bS hb;clear hb hbox hg)|(refine xB 2 #[.bool false,.slice none 0 0,.slice none 0 0] 83 ?_;intro gb357 hg w5 hbox hb;have BK357:=Aside0.mk (hbox);have GW357:=gZ w gb357;have GE357:=GW357;replace HB:=bS hb;have NB356_357:=nl BK356 gb356 gb357;have NB357_356:=nr NB356_357;replace BK356:=bb BK356 hb;clear hb hbox hg))
 replace BK356:=Aside0.mk (blk_drew BK356.out);replace BK357:=Aside0.mk (blk_drew BK357.out);replace HB:=Aside0.mk (below_drew1 HB.out)
 refine start_ (n:=10) (S:=fun w'=>w'.cell? ⟨gb356,0,none⟩ = some (.bool a0_0) ∧ w'.cell? ⟨gb356,1,none⟩ = some (.slice A0_1 l0_1.length c0_1) ∧ w'.cell? ⟨gb356,2,none⟩ = some (.slice A0_2 l0_2.length c0_2)) (ds:=[]) #[false,false,false,false,false,false,false,false,false,false] (by kernel_rfl) rfl rfl (qA3 BK356) (fun hHeld=>?_);refine with_tabW impl_copyLit.tab1 impl_copyLit.bits1 (fun HT_ HW_=>?_)
 generalize w5.drew = w6 at BK356 BK357 HB hHeld ⊢
 refine pV 0 (some 3) (bs 10 1) HT_ ?_
 refine pV 2 (some 5) (bs 10 5) HT_ ?_
 refine pV 5 (some 8) (bs 10 37) HT_ ?_
 refine tV3 1 (some 4) (bs 10 39) HT_ HW_ hHeld ?_
 refine tV3 3 (some 6) (bs 10 47) HT_ HW_ hHeld ?_
 refine tV3 6 (some 9) (bs 10 111) HT_ HW_ hHeld ?_
 refine oN 4 (some 7) (bs 10 127) HT_ fun K hK=>?_
 refine goes_ Try.func119 (by kernel_rfl) rfl #[.slice A0_1 l0_1.length c0_1] (by rfl) rfl rfl Ya ?_
 with_reducible refine (slices_Clone_int_int.calls _ _ l0_1 t358 _ ?side1 ?side2 A2.out).mono ?_
 (case side1=>exact sC HR0_1)
 (case side2=>exact HC0_1.out)
 rintro e w7 ⟨v359,rfl,ho0,hb⟩
 refine ⟨_,rfl,?_⟩
 have HO360:=Aside0.mk (Kd.R_lower ho0 (below_size bH));replace BK356:=bb BK356 hb;replace BK357:=bb BK357 hb;replace HB:=bS hb
 (try clear hb);(try clear ho0)
 refine hK.out _ _ (qA3 BK356) (fun hHeld=>?_)
 clear hK K
 refine nM (N:=some 7) ?_
 refine oN 7 (some 10) (bs 10 255) HT_ fun K hK=>?_
 refine goes_ Try.func119 (by kernel_rfl) rfl #[.slice A0_2 l0_2.length c0_2] (by rfl) rfl rfl Ya ?_
 with_reducible refine (slices_Clone_int_int.calls _ _ l0_2 t361 _ ?side1 ?side2 A3.out).mono ?_
 (case side1=>exact sC HR0_2)
 (case side2=>exact HC0_2.out)
 rintro e w8 ⟨v362,rfl,ho0,hb⟩
 refine ⟨_,rfl,?_⟩
 have HO363:=Aside0.mk (Kd.R_lower (Kd.R_new' ho0 (Kd.R_lt (rR HO360))) (below_size bH));replace HO360:=Aside0.mk (Kd.R_elder' (rR HO360) (Kd.R_base ho0) hb);replace BK356:=bb BK356 hb;replace BK357:=bb BK357 hb;replace HB:=bS hb
 (try clear hb);(try clear ho0)
 obtain ⟨Ao9,co9,eo9⟩:=Kd.R_slice HO363.out
 (first|subst eo9|(injection eo9 with f1_ f2_ f3_;have f4_:=f1_.symm;have f5_:=f3_.symm;clear f1_ f2_ f3_;subst f4_;subst f5_))
 obtain ⟨Ao10,co10,eo10⟩:=Kd.R_slice HO360.out
 (first|subst eo10|(injection eo10 with f1_ f2_ f3_;have f4_:=f1_.symm;have f5_:=f3_.symm;clear f1_ f2_ f3_;subst f4_;subst f5_))
 refine hK.out _ _ (qA3 BK356) (fun hHeld=>?_)
 clear hK K
 refine nM (N:=some 10) ?_
 refine pV 8 (some 11) (bs 10 511) HT_ ?_
 refine oN 9 (none) (bs 10 1023) HT_ fun K hK=>?_
 have hs11:=qc3_0 BK357
 have hfs11:=fz BK357 0
 have hns11_0:=NB356_357.out
 have hms11_0:=NB357_356.out
 have hs12:=qc3_1 BK357
 have hfs12:=fz BK357 1
 have hns12_0:=NB356_357.out
 have hms12_0:=NB357_356.out
 have hs13:=qc3_2 BK357
 have hfs13:=fz BK357 2
 have hns13_0:=NB356_357.out
 have hms13_0:=NB357_356.out
 refine skip_ (w1:=?_) (by rfl) rfl ?_ ?_
 rotate_left
 ·go_simp
  rfl
 refine hK.out _ _ ⟨((cell_far (p:=⟨gb357,_,none⟩) NB356_357.out _).trans (((cell_far (p:=⟨gb357,_,none⟩) NB356_357.out _).trans (((cell_far (p:=⟨gb357,_,none⟩) NB356_357.out _).trans (hHeld.1)))))),((cell_far (p:=⟨gb357,_,none⟩) NB356_357.out _).trans (((cell_far (p:=⟨gb357,_,none⟩) NB356_357.out _).trans (((cell_far (p:=⟨gb357,_,none⟩) NB356_357.out _).trans (hHeld.2.1)))))),((cell_far (p:=⟨gb357,_,none⟩) NB356_357.out _).trans (((cell_far (p:=⟨gb357,_,none⟩) NB356_357.out _).trans (((cell_far (p:=⟨gb357,_,none⟩) NB356_357.out _).trans (hHeld.2.2))))))⟩ (fun hHeld=>?_)
 clear hK K
 refine done_ (done_of HT_.out (by kernel_rfl)) ?_
 try go_wp2
 refine bodyPost_ret (results_cell_row rfl _ _ gb357 83 #[.bool a0_0,.slice Ao10 t358.length co10,.slice Ao9 t361.length co9] (0,0) _ rfl (by (with_reducible repeat (first|refine blk_drewN ?_ _|refine blk_drew ?_|refine blk_alloc ?_ _));refine blk_put (cs:=#[.bool a0_0,.slice Ao10 t358.length co10,.slice none 0 0]) ?_ 2 _ rfl;(with_reducible repeat (first|refine blk_drewN ?_ _|refine blk_drew ?_|refine blk_alloc ?_ _));refine blk_put (cs:=#[.bool a0_0,.slice none 0 0,.slice none 0 0]) ?_ 1 _ rfl;(with_reducible repeat (first|refine blk_drewN ?_ _|refine blk_drew ?_|refine blk_alloc ?_ _));refine blk_put (cs:=#[.bool false,.slice none 0 0,.slice none 0 0]) ?_ 0 _ rfl;(with_reducible repeat (first|refine blk_drewN ?_ _|refine blk_drew ?_|refine blk_alloc ?_ _));exact BK357.out) Try.underlying83 rfl (by kernel_rfl)) rfl ?_
 exact ⟨_,_,Yb,by (with_reducible repeat (first|apply Kd.R_alloc|apply Kd.R_drewN|apply Kd.R_drew));exact Kd.R_mono (Kd.R_far (p:=⟨gb357,2,none⟩) (Kd.R_far (p:=⟨gb357,1,none⟩) (Kd.R_far (p:=⟨gb357,0,none⟩) (Kd.R_types HO360.out BK357.out (by decide)) (fun _ hk=>hk.2) (.bool a0_0)) (fun _ hk=>hk.2) (.slice Ao10 t358.length co10)) (fun _ hk=>hk.2) (.slice Ao9 t361.length co9)) (fun _ hk=>hk.1.2),by (with_reducible repeat (first|apply Kd.R_alloc|apply Kd.R_drewN|apply Kd.R_drew));exact Kd.R_mono (Kd.R_far (p:=⟨gb357,2,none⟩) (Kd.R_far (p:=⟨gb357,1,none⟩) (Kd.R_far (p:=⟨gb357,0,none⟩) (Kd.R_types HO363.out BK357.out (by decide)) (fun _ hk=>hk.2) (.bool a0_0)) (fun _ hk=>hk.2) (.slice Ao10 t358.length co10)) (fun _ hk=>hk.2) (.slice Ao9 t361.length co9)) (fun _ hk=>hk.1.2),bH⟩

end Go.Proofs.Ytmgkflkfoccgkaa.QFnTidied
