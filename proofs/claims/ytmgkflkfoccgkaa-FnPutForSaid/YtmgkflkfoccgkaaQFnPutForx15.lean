-- Written by this session's own program (wip/x/xprint.py, over the kit's printer); Lean checks it.
import Derived.Test.YtmgkflkfoccgkaaQFnPutForx0
import Derived.Test.YtmgkflkfoccgkaaQFnPutForx1
import Derived.Test.YtmgkflkfoccgkaaQFnPutForx5
import Derived.Test.YtmgkflkfoccgkaaQFnPutForx6
import Derived.Test.YtmgkflkfoccgkaaQFnPutForx9
import Derived.Test.YtmgkflkfoccgkaaQFnPutForx10
import Derived.Test.YtmgkflkfoccgkaaQFnPutForx14
namespace Go.Proofs.Ytmgkflkfoccgkaa.QFnPutFor
open Go.RowKit Go.Proofs.YtmgkflkfoccgkaaW.PrintWords Go.Proofs.YtmgkflkfoccgkaaW.PrintLast Go.Proofs.YtmgkflkfoccgkaaW.PrintMore
attribute [local go_sem] max2_int min2_int max_two min_two max_three min_three max_four min_four   -- for this text's walks alone
set_option linter.unusedVariables false
set_option linter.unusedSimpArgs false

/-! ### spec_DrawHoldsAt: function 13 -/
def spec_DrawHoldsAt.f (k:Nat) (l0:List Int):Option (List Int × Int × (List (List Int)) × (List (S83)) × List Int):=(spec_l1Cur_sign.f l0 0 0).bind fun bt495=>((spec_l1Cur_world.f k l0 bt495.2.1 bt495.2.2 bt495.1).bind fun bt501=>((spec_l1Cur_clause.f k l0 bt501.2.2.1 bt501.2.2.2 bt495.1).bind fun bt508=>((spec_l1Cur_env.f k l0 bt508.2.1 bt508.2.2 bt501.1 bt501.2.1).bind fun bt513=>(some (bt495.1,bt501.1,bt501.2.1,bt508.1,bt513.1)))))
theorem spec_DrawHoldsAt.mono:∀ a0 k,LeO (spec_DrawHoldsAt.f k a0) (spec_DrawHoldsAt.f (k + 1) a0):=by
 intro a0 k
 unfold spec_DrawHoldsAt.f
 have m0:=@spec_l1Cur_clause.mono
 have m1:=@spec_l1Cur_env.mono
 have m2:=@spec_l1Cur_world.mono
 exact mO
def spec_DrawHoldsAt.T4:Bool × List (List Nat × List Nat):=(true,[([],[]),([],[]),([],[]),([],[]),([2,3],[2,3]),([],[]),([],[]),([5,6,4],[5,6]),([0,7,0],[0]),([1,8,0,1,8],[1]),([4,9,0,1,2,3,4,8,9],[4]),([7,10,0,1,2,3,4,5,6,7,8,9,10],[7])])
def spec_DrawHoldsAt.B4:List Nat:=[0,0,0,0,12,0,0,124,253,511,1023,2047]
theorem spec_DrawHoldsAt.tab4:rtab .any (opsOf Try.f13 4) = spec_DrawHoldsAt.T4:=by kernel_rfl
theorem spec_DrawHoldsAt.bits4:waitsOk spec_DrawHoldsAt.T4.2 spec_DrawHoldsAt.B4 = true:=by kernel_rfl
set_option maxHeartbeats 8000000 in
set_option maxRecDepth 100000 in
theorem spec_DrawHoldsAt.calls (k:Nat) (A0:Option Addr) (c0:Nat) (l0:List Int) (r1:List Int) (r2:Int) (r3:List (List Int)) (r4:List (S83)) (r5:List Int) (w:World) (hr0:Kd.C (Kd.int .u8) w A0 l0.length l0) (hc0:l0.length ≤ c0) (h:spec_DrawHoldsAt.f k l0 = some (r1,r2,r3,r4,r5)) :
  Calls Try.prog 13 #[.slice A0 l0.length c0] w fun e w'=>∃ v0_ v2_ v3_ v4_:Value,e = .returned (.tuple #[.agg #[v0_],.agg #[.int .i64 r2,v2_],v3_,v4_]) ∧ Kd.R (Kd.int .i64) 3 w' w.heap.size (fun k_=>(w.heap.size ≤ k_) ∧ some k_ ≠ (v4_:Value).ownBlock) v0_ r1 ∧ Kd.N (Kd.slice 3 (Kd.int .i64)) 24 w' w.heap.size (fun k_=>(w.heap.size ≤ k_) ∧ some k_ ≠ (v0_:Value).ownBlock ∧ some k_ ≠ (v3_:Value).ownBlock ∧ some k_ ≠ (v4_:Value).ownBlock) v2_ r3 ∧ Kd.N k83 83 w' w.heap.size (fun k_=>(w.heap.size ≤ k_) ∧ some k_ ≠ (v0_:Value).ownBlock ∧ some k_ ≠ (v2_:Value).ownBlock ∧ some k_ ≠ (v4_:Value).ownBlock) v3_ r4 ∧ Kd.R (Kd.int .i64) 3 w' w.heap.size (fun k_=>(w.heap.size ≤ k_) ∧ some k_ ≠ (v0_:Value).ownBlock) v4_ r5 ∧ Below w.heap.size w w':=by
 have hu26:=Try.underlying26
 have hu31:=Try.underlying31
 have hu60:=Try.underlying60
 have HR0:=Aside0.mk hr0
 have HC0:=Aside0.mk hc0
 clear hr0 hc0
 have HB:=Aside0.mk (Below.refl w.heap.size w)
 have H:((spec_l1Cur_sign.f l0 0 0).bind fun bt495=>((spec_l1Cur_world.f k l0 bt495.2.1 bt495.2.2 bt495.1).bind fun bt501=>((spec_l1Cur_clause.f k l0 bt501.2.2.1 bt501.2.2.2 bt495.1).bind fun bt508=>((spec_l1Cur_env.f k l0 bt508.2.1 bt508.2.2 bt501.1 bt501.2.1).bind fun bt513=>(some (bt495.1,bt501.1,bt501.2.1,bt508.1,bt513.1)))))) = some (r1,r2,r3,r4,r5):=h
 clear h
 replace H:=Option.bind_eq_some_iff.mp H
 obtain ⟨⟨t495,t498,t499⟩,A20,H⟩:=H
 replace H:((spec_l1Cur_world.f k l0 t498 t499 t495).bind fun bt501=>((spec_l1Cur_clause.f k l0 bt501.2.2.1 bt501.2.2.2 t495).bind fun bt508=>((spec_l1Cur_env.f k l0 bt508.2.1 bt508.2.2 bt501.1 bt501.2.1).bind fun bt513=>(some (t495,bt501.1,bt501.2.1,bt508.1,bt513.1))))) = some (r1,r2,r3,r4,r5):=H
 have A2:=Aside0.mk A20
 clear A20
 replace H:=Option.bind_eq_some_iff.mp H
 obtain ⟨⟨t501,t502,t505,t506⟩,A30,H⟩:=H
 replace H:((spec_l1Cur_clause.f k l0 t505 t506 t495).bind fun bt508=>((spec_l1Cur_env.f k l0 bt508.2.1 bt508.2.2 t501 t502).bind fun bt513=>(some (t495,t501,t502,bt508.1,bt513.1)))) = some (r1,r2,r3,r4,r5):=H
 have A3:=Aside0.mk A30
 clear A30
 replace H:=Option.bind_eq_some_iff.mp H
 obtain ⟨⟨t508,t511,t512⟩,A40,H⟩:=H
 replace H:((spec_l1Cur_env.f k l0 t511 t512 t501 t502).bind fun bt513=>(some (t495,t501,t502,t508,bt513.1))) = some (r1,r2,r3,r4,r5):=H
 have A4:=Aside0.mk A40
 clear A40
 replace H:=Option.bind_eq_some_iff.mp H
 obtain ⟨⟨t513,t516,t517⟩,A50,H⟩:=H
 replace H:(some (t495,t501,t502,t508,t513)) = some (r1,r2,r3,r4,r5):=H
 have A5:=Aside0.mk A50
 clear A50
 simp only [Option.some.injEq,Prod.mk.injEq] at H
 obtain ⟨rfl,rfl,rfl,rfl,rfl⟩:=H
 go_enter Try.func13,Try.ntmps13
 try go_wp2_with (first|((with_reducible refine gate_dst (N:=2) rfl ?_);refine box_event ?hg (N:=2) ?hd (cs:=#[.slice none 0 0]) (t:=26) ?hr ?_;(case hd=>rfl);(case hg=>rfl);(case hr=>exact Yd);intro gb492 hg w6 hbox hb;have BK492:=Aside0.mk (hbox);have GW492:=Aside0.mk ((hZ:w.heap.size ≤ gb492));have GE492:=Aside0.mk ((hZ:w.heap.size ≤ gb492));replace HB:=Aside0.mk (below_step bH hb);clear hb hbox hg)|((with_reducible refine gate_dst (N:=3) rfl ?_);refine box_event ?hg (N:=3) ?hd (cs:=#[.int .i64 0,.slice none 0 0]) (t:=31) ?hr ?_;(case hd=>rfl);(case hg=>rfl);(case hr=>exact Yd);intro gb493 hg w7 hbox hb;have BK493:=Aside0.mk (hbox);have GW493:=Aside0.mk ((hZ:w.heap.size ≤ gb493));have GE493:=Aside0.mk ((hZ:w.heap.size ≤ gb493));replace HB:=Aside0.mk (below_step bH hb);have NB492_493:=Aside0.mk ((nL BK492:gb492 ≠ gb493));have NB493_492:=Aside0.mk ((nG BK492:gb493 ≠ gb492));replace BK492:=Aside0.mk (blk_below (bB BK492) hb);clear hb hbox hg)|((with_reducible refine gate_dst (N:=11) rfl ?_);refine box_event ?hg (N:=11) ?hd (cs:=#[.slice A0 l0.length c0,.int .i64 0,.int .u64 0]) (t:=60) ?hr ?_;(case hd=>rfl);(case hg=>rfl);(case hr=>exact Yd);intro gb494 hg w8 hbox hb;have BK494:=Aside0.mk (hbox);have GW494:=Aside0.mk ((hZ:w.heap.size ≤ gb494));have GE494:=Aside0.mk ((hZ:w.heap.size ≤ gb494));replace HB:=Aside0.mk (below_step bH hb);have NB492_494:=Aside0.mk ((nL BK492:gb492 ≠ gb494));have NB494_492:=Aside0.mk ((nG BK492:gb494 ≠ gb492));replace BK492:=Aside0.mk (blk_below (bB BK492) hb);have NB493_494:=Aside0.mk ((nL BK493:gb493 ≠ gb494));have NB494_493:=Aside0.mk ((nG BK493:gb494 ≠ gb493));replace BK493:=Aside0.mk (blk_below (bB BK493) hb);clear hb hbox hg;have HI494:=Aside0.mk (show IsS60 w w8 gb494 l0 0 0 from ⟨_,_,BK494.out,GW494.out,HR0.out⟩);clear BK494)|((with_reducible refine gate_callee (f:=35) rfl ?_);refine goesL_ (some 13) rfl rfl Try.func35 (by kernel_rfl) rfl #[.pointer (some ⟨gb494,0,none⟩)] rfl Ya ?_;(with_reducible refine (spec_l1Cur_sign.calls gb494 l0 0 0 t495 t498 t499 w _ ?side1 ?side2 A2.out).mono ?_);(case side1=>exact YD);(case side2=>exact bH);rintro e w9 ⟨v496,rfl,ho0,hi,hb,hk⟩;refine ⟨_,rfl,?_⟩;replace BK492:=Aside0.mk (KeepBut.blk hk (g':=gb492) (o:=.cells #[.slice none 0 0] 26 (0,0)) (bB BK492) NB492_494.out (by simp));replace BK493:=Aside0.mk (KeepBut.blk hk (g':=gb493) (o:=.cells #[.int .i64 0,.slice none 0 0] 31 (0,0)) (bB BK493) NB493_494.out (by simp));have HO497:=Aside0.mk (Kd.R_lower (Kd.R_newM (M:=fun k_=>(w.heap.size ≤ k_)) ho0 (below_size bH) (fun k_ h_=>h_)) (below_size bH));replace HB:=Aside0.mk (hb);replace HI494:=Aside0.mk (hi);(try clear hb);(try clear hb2);(try clear hk);(try clear hi);(try clear ho0))|((with_reducible refine gate_dst (N:=7) rfl ?_);refine box_event ?hg (N:=7) ?hd (cs:=#[.slice none 0 0]) (t:=26) ?hr ?_;(case hd=>rfl);(case hg=>rfl);(case hr=>exact Yd);intro gb500 hg w10 hbox hb;replace HO497:=Aside0.mk (Kd.R_below (rR HO497) hb);have BK500:=Aside0.mk (hbox);have GW500:=Aside0.mk ((by rw [hg];exact (below_size bH):w.heap.size ≤ gb500));have GE500:=Aside0.mk ((by rw [hg];exact (below_size bH):w.heap.size ≤ gb500));replace HB:=Aside0.mk (below_step bH hb);have NB492_500:=Aside0.mk ((nL BK492:gb492 ≠ gb500));have NB500_492:=Aside0.mk ((nG BK492:gb500 ≠ gb492));replace BK492:=Aside0.mk (blk_below (bB BK492) hb);have NB493_500:=Aside0.mk ((nL BK493:gb493 ≠ gb500));have NB500_493:=Aside0.mk ((nG BK493:gb500 ≠ gb493));replace BK493:=Aside0.mk (blk_below (bB BK493) hb);have NB494_500:=Aside0.mk ((by rw [hg];exact Nat.ne_of_lt (IsS60.lt (show IsS60 w _ gb494 l0 t498 t499 from YD)):gb494 ≠ gb500));have NB500_494:=Aside0.mk ((by rw [hg];exact Nat.ne_of_gt (IsS60.lt (show IsS60 w _ gb494 l0 t498 t499 from YD)):gb500 ≠ gb494));replace HI494:=Aside0.mk (IsS60.below YD hb);clear hb hbox hg;obtain ⟨Ao11,co11,eo11⟩:=Kd.R_slice HO497.out;subst eo11;have hnb12:=NB500_492.out;have hnc12:=NB492_500.out;have hnb13:=NB500_493.out;have hnc13:=NB493_500.out;have hnb14:=NB500_494.out;have hnc14:=NB494_500.out;have hcz15_0:w10.cell? ⟨gb500,0,none⟩ = some (.slice none 0 0):=(blk_cell BK500.out 0).trans rfl;have hfz15_0:=blk_frozen BK500.out 0)|((with_reducible refine gate_callee (f:=44) rfl ?_);refine goesL_ (some 16) rfl rfl Try.func44 (by kernel_rfl) rfl #[.pointer (some ⟨gb494,0,none⟩),.agg #[.slice Ao11 t495.length co11]] rfl Ya ?_;(with_reducible refine (spec_l1Cur_world.calls k gb494 l0 t498 t499 _ _ t495 t501 t502 t505 t506 w _ ?side1 ?side2 ?side3 ?side4 ?side5 A3.out).mono ?_);(case side1=>exact Yj);(case side2=>exact bH);(case side3=>refine (Kd.R_reads' (e:=3) (base:=w.heap.size) (ok:=fun k_=>((w.heap.size ≤ k_) ∧ True)) (n:=t495.length) (c:=co11) ?_).2.2;exact YB);(case side4=>exact (Kd.R_reads' HO497.out).2.1);(case side5=>exact far_slice (IsS60.own_ne HI494.out HO497.out (by decide)));rintro e w16 ⟨v503,rfl,ho0,hi,hb,hk⟩;refine ⟨_,rfl,?_⟩;have HO504:=Aside0.mk (Kd.N_lower (Kd.N_mono (ok':=fun k_=>(w.heap.size ≤ k_) ∧ some k_ ≠ (.slice Ao11 t495.length co11:Value).ownBlock ∧ k_ ≠ gb492 ∧ k_ ≠ gb493 ∧ k_ ≠ gb500 ∧ k_ ≠ gb494) (Kd.S_N (Kd.S_bound ho0)) (fun k_ hk_=>⟨(Nat.le_trans (below_size bH) hk_.2.1),(Kd.fresh' (Kd.R_lt YB) k_ hk_.2.1),(Kd.freshB (g:=gb492) (o:=.cells #[.slice none 0 0] 26 (0,0)) Zb k_ hk_.2.1),(Kd.freshB (g:=gb493) (o:=.cells #[.int .i64 0,.slice none 0 0] 31 (0,0)) Za k_ hk_.2.1),(Kd.freshB (g:=gb500) (o:=.cells #[.slice Ao11 t495.length co11] 26 (0,0)) YY k_ hk_.2.1),(IsS60.fresh Yj k_ hk_.2.1)⟩)) (below_size bH));replace BK492:=Aside0.mk (KeepBut.blk hk (g':=gb492) (o:=.cells #[.slice none 0 0] 26 (0,0)) Zb NB492_494.out (by simp));replace BK493:=Aside0.mk (KeepBut.blk hk (g':=gb493) (o:=.cells #[.int .i64 0,.slice none 0 0] 31 (0,0)) Za NB493_494.out (by simp));replace HO497:=Aside0.mk (Kd.R_mono (Kd.R_keep (IsS60.apart (show IsS60 w _ gb494 l0 t498 t499 from Yj) YB (by decide)) hk (fun _ h=>h.2)) (fun _ h=>h.1));replace BK500:=Aside0.mk (KeepBut.blk hk (g':=gb500) (o:=.cells #[.slice Ao11 t495.length co11] 26 (0,0)) YY NB500_494.out (by simp));replace HB:=Aside0.mk (hb);replace HI494:=Aside0.mk (hi);(try clear hb);(try clear hb2);(try clear hk);(try clear hi);(try clear ho0))|((with_reducible refine gate_dst (N:=8) rfl ?_);refine box_event ?hg (N:=8) ?hd (cs:=#[.int .i64 0,.slice none 0 0]) (t:=31) ?hr ?_;(case hd=>rfl);(case hg=>rfl);(case hr=>exact Yd);intro gb507 hg w17 hbox hb;replace HO497:=Aside0.mk (Kd.R_below (rR HO497) hb);replace HO504:=Aside0.mk (Kd.N_below (Kd.N_elderB (rN HO504) gb507 (Nat.le_of_eq hg.symm)) hb);have BK507:=Aside0.mk (hbox);have GW507:=Aside0.mk ((by rw [hg];exact (below_size bH):w.heap.size ≤ gb507));have GE507:=Aside0.mk ((by rw [hg];exact (below_size bH):w.heap.size ≤ gb507));replace HB:=Aside0.mk (below_step bH hb);have NB492_507:=Aside0.mk ((nL BK492:gb492 ≠ gb507));have NB507_492:=Aside0.mk ((nG BK492:gb507 ≠ gb492));replace BK492:=Aside0.mk (blk_below (bB BK492) hb);have NB493_507:=Aside0.mk ((nL BK493:gb493 ≠ gb507));have NB507_493:=Aside0.mk ((nG BK493:gb507 ≠ gb493));replace BK493:=Aside0.mk (blk_below (bB BK493) hb);have NB500_507:=Aside0.mk ((nL BK500:gb500 ≠ gb507));have NB507_500:=Aside0.mk ((nG BK500:gb507 ≠ gb500));replace BK500:=Aside0.mk (blk_below (bB BK500) hb);have NB494_507:=Aside0.mk ((by rw [hg];exact Nat.ne_of_lt (IsS60.lt (show IsS60 w _ gb494 l0 t505 t506 from Yj)):gb494 ≠ gb507));have NB507_494:=Aside0.mk ((by rw [hg];exact Nat.ne_of_gt (IsS60.lt (show IsS60 w _ gb494 l0 t505 t506 from Yj)):gb507 ≠ gb494));replace HI494:=Aside0.mk (IsS60.below Yj hb);clear hb hbox hg;have hnb18:=NB507_492.out;have hnc18:=NB492_507.out;have hnb19:=NB507_493.out;have hnc19:=NB493_507.out;have hnb20:=NB507_500.out;have hnc20:=NB500_507.out;have hnb21:=NB507_494.out;have hnc21:=NB494_507.out;have hcz22_0:w17.cell? ⟨gb507,0,none⟩ = some (.int .i64 0):=(blk_cell BK507.out 0).trans rfl;have hcz22_1:w17.cell? ⟨gb507,1,none⟩ = some (.slice none 0 0):=(blk_cell BK507.out 1).trans rfl;have hfz22_0:=blk_frozen BK507.out 0;have hfz22_1:=blk_frozen BK507.out 1;obtain ⟨Ao23,co23,eo23⟩:=Kd.N_slice HO504.out;subst eo23))
 have n0_:Aside0 (Kd.R (Kd.int .i64) 3 ((w17.setCell ⟨gb507,0,none⟩ (.int .i64 t501)).setCell ⟨gb507,1,none⟩ (.slice Ao23 t502.length co23)) w.heap.size (fun k_=>(w.heap.size ≤ k_)) (.slice Ao11 t495.length co11) t495):=⟨by (with_reducible repeat (first|apply Kd.R_alloc|apply Kd.R_drewN|apply Kd.R_drew));exact Kd.R_mono (Kd.R_far (p:=⟨gb507,1,none⟩) (Kd.R_far (p:=⟨gb507,0,none⟩) (Kd.R_types HO497.out BK507.out (by decide)) (fun _ hk=>hk.2) (.int .i64 t501)) (fun _ hk=>hk.2) (.slice Ao23 t502.length co23)) (fun _ hk=>hk.1.1)⟩
 have n1_:Aside0 (Kd.N (Kd.slice 3 (Kd.int .i64)) 24 ((w17.setCell ⟨gb507,0,none⟩ (.int .i64 t501)).setCell ⟨gb507,1,none⟩ (.slice Ao23 t502.length co23)) w.heap.size (fun k_=>(w.heap.size ≤ k_) ∧ some k_ ≠ (.slice Ao11 t495.length co11:Value).ownBlock ∧ k_ ≠ gb492 ∧ k_ ≠ gb493 ∧ k_ ≠ gb500 ∧ k_ ≠ gb494 ∧ k_ ≠ gb507) (.slice Ao23 t502.length co23) t502):=⟨by (with_reducible repeat (first|apply Kd.N_alloc|apply Kd.N_drewN|apply Kd.N_drew));exact Kd.N_mono (Kd.N_far (p:=⟨gb507,1,none⟩) (Kd.N_far (p:=⟨gb507,0,none⟩) (Kd.N_mono HO504.out (fun k_ hk=>(⟨hk,hk.2⟩:_ ∧ k_ ≠ gb507))) (fun _ hk=>hk.2) (.int .i64 t501)) (fun _ hk=>hk.2) (.slice Ao23 t502.length co23)) (fun _ hk=>⟨hk.1.1.1,⟨hk.1.1.2.1,⟨hk.1.1.2.2.1,⟨hk.1.1.2.2.2.1,⟨hk.1.1.2.2.2.2.1,⟨hk.1.1.2.2.2.2.2,hk.1.2⟩⟩⟩⟩⟩⟩)⟩
 have n2_:Aside0 (((w17.setCell ⟨gb507,0,none⟩ (.int .i64 t501)).setCell ⟨gb507,1,none⟩ (.slice Ao23 t502.length co23)).heap[gb492]? = some (.cells #[.slice none 0 0] 26 (0,0))):=⟨by (with_reducible repeat (first|refine blk_drewN ?_ _|refine blk_drew ?_|refine blk_alloc ?_ _));refine blk_far ?_ NB492_507.out _;(with_reducible repeat (first|refine blk_drewN ?_ _|refine blk_drew ?_|refine blk_alloc ?_ _));refine blk_far ?_ NB492_507.out _;(with_reducible repeat (first|refine blk_drewN ?_ _|refine blk_drew ?_|refine blk_alloc ?_ _));exact BK492.out⟩
 have n3_:Aside0 (((w17.setCell ⟨gb507,0,none⟩ (.int .i64 t501)).setCell ⟨gb507,1,none⟩ (.slice Ao23 t502.length co23)).heap[gb493]? = some (.cells #[.int .i64 0,.slice none 0 0] 31 (0,0))):=⟨by (with_reducible repeat (first|refine blk_drewN ?_ _|refine blk_drew ?_|refine blk_alloc ?_ _));refine blk_far ?_ NB493_507.out _;(with_reducible repeat (first|refine blk_drewN ?_ _|refine blk_drew ?_|refine blk_alloc ?_ _));refine blk_far ?_ NB493_507.out _;(with_reducible repeat (first|refine blk_drewN ?_ _|refine blk_drew ?_|refine blk_alloc ?_ _));exact BK493.out⟩
 have n4_:Aside0 (((w17.setCell ⟨gb507,0,none⟩ (.int .i64 t501)).setCell ⟨gb507,1,none⟩ (.slice Ao23 t502.length co23)).heap[gb500]? = some (.cells #[.slice Ao11 t495.length co11] 26 (0,0))):=⟨by (with_reducible repeat (first|refine blk_drewN ?_ _|refine blk_drew ?_|refine blk_alloc ?_ _));refine blk_far ?_ NB500_507.out _;(with_reducible repeat (first|refine blk_drewN ?_ _|refine blk_drew ?_|refine blk_alloc ?_ _));refine blk_far ?_ NB500_507.out _;(with_reducible repeat (first|refine blk_drewN ?_ _|refine blk_drew ?_|refine blk_alloc ?_ _));exact BK500.out⟩
 have n5_:Aside0 (((w17.setCell ⟨gb507,0,none⟩ (.int .i64 t501)).setCell ⟨gb507,1,none⟩ (.slice Ao23 t502.length co23)).heap[gb507]? = some (.cells #[.int .i64 t501,.slice Ao23 t502.length co23] 31 (0,0))):=⟨by (with_reducible repeat (first|refine blk_drewN ?_ _|refine blk_drew ?_|refine blk_alloc ?_ _));refine blk_put (cs:=#[.int .i64 t501,.slice none 0 0]) ?_ 1 _ rfl;(with_reducible repeat (first|refine blk_drewN ?_ _|refine blk_drew ?_|refine blk_alloc ?_ _));refine blk_put (cs:=#[.int .i64 0,.slice none 0 0]) ?_ 0 _ rfl;(with_reducible repeat (first|refine blk_drewN ?_ _|refine blk_drew ?_|refine blk_alloc ?_ _));exact BK507.out⟩
 have n6_:Aside0 (IsS60 w ((w17.setCell ⟨gb507,0,none⟩ (.int .i64 t501)).setCell ⟨gb507,1,none⟩ (.slice Ao23 t502.length co23)) gb494 l0 t505 t506):=⟨Ym⟩
 have n7_:Aside0 (Below w.heap.size w ((w17.setCell ⟨gb507,0,none⟩ (.int .i64 t501)).setCell ⟨gb507,1,none⟩ (.slice Ao23 t502.length co23))):=⟨bH⟩
 (try clear HO497)
 (try clear HO504)
 (try clear BK492)
 (try clear BK493)
 (try clear BK500)
 (try clear BK507)
 (try clear HI494)
 (try clear HB)
 generalize ((w17.setCell ⟨gb507,0,none⟩ (.int .i64 t501)).setCell ⟨gb507,1,none⟩ (.slice Ao23 t502.length co23)) = w24 at n0_ n1_ n2_ n3_ n4_ n5_ n6_ n7_ ⊢
 have HO497:=n0_
 have HO504:=n1_
 have BK492:=n2_
 have BK493:=n3_
 have BK500:=n4_
 have BK507:=n5_
 have HI494:=n6_
 have HB:=n7_
 clear n0_ n1_ n2_ n3_ n4_ n5_ n6_ n7_
 replace HO497:=Aside0.mk (Kd.R_drew HO497.out);replace HO504:=Aside0.mk (Kd.N_drew HO504.out);replace BK492:=Aside0.mk (blk_drew BK492.out);replace BK493:=Aside0.mk (blk_drew BK493.out);replace BK500:=Aside0.mk (blk_drew BK500.out);replace BK507:=Aside0.mk (blk_drew BK507.out);replace HI494:=Aside0.mk (IsS60.drew HI494.out);replace HB:=Aside0.mk (below_drew1 HB.out)
 refine start_ (n:=12) (S:=fun w'=>w'.cell? ⟨gb500,0,none⟩ = some (.slice Ao11 t495.length co11) ∧ w'.cell? ⟨gb507,0,none⟩ = some (.int .i64 t501) ∧ w'.cell? ⟨gb507,1,none⟩ = some (.slice Ao23 t502.length co23)) (ds:=[]) #[false,false,false,false,false,false,false,false,false,false,false,false] (by kernel_rfl) rfl rfl ⟨(blk_cell BK500.out 0).trans rfl,(blk_cell BK507.out 0).trans rfl,(blk_cell BK507.out 1).trans rfl⟩ (fun hHeld=>?_);refine with_tabW spec_DrawHoldsAt.tab4 spec_DrawHoldsAt.bits4 (fun HT_ HW_=>?_)
 generalize w24.drew = w25 at HO497 HO504 BK492 BK493 BK500 BK507 HI494 HB hHeld ⊢
 refine pU (i:=2) (N:=some 19) #[false,false,true,false,false,false,false,false,false,false,false,false] (any_of HT_.out (by kernel_rfl)) ?_
 refine pU (i:=5) (N:=some 22) #[false,false,true,false,false,true,false,false,false,false,false,false] (any_of HT_.out (by kernel_rfl)) ?_
 refine take_ (i:=0) (N:=some 17) (v:=?_) (a':=?_) #[true,false,true,false,false,true,false,false,false,false,false,false] rfl rfl (take_ofW HT_.out HW_.out (by kernel_rfl)) (fun _ _ _ h=>h) (Or.inl ⟨by rfl,?_⟩) hHeld ?_ ?_
 rotate_left
 ·rintro w' ⟨s0,s1,s2⟩
  go_simp
  with_reducible rfl
 rotate_left
 ·simp only [Act.put,List.setIfInBounds_toArray,List.set_cons_zero,List.set_cons_succ,i64_w,i32_w]
  rfl
 refine take_ (i:=1) (N:=some 18) (v:=?_) (a':=?_) #[true,true,true,false,false,true,false,false,false,false,false,false] rfl rfl (take_ofW HT_.out HW_.out (by kernel_rfl)) (fun _ _ _ h=>h) (Or.inl ⟨by rfl,?_⟩) hHeld ?_ ?_
 rotate_left
 ·rintro w' ⟨s0,s1,s2⟩
  go_simp
  with_reducible rfl
 rotate_left
 ·simp only [Act.put,List.setIfInBounds_toArray,List.set_cons_zero,List.set_cons_succ,i64_w,i32_w]
  rfl
 refine take_ (i:=3) (N:=some 20) (v:=?_) (a':=?_) #[true,true,true,true,false,true,false,false,false,false,false,false] rfl rfl (take_ofW HT_.out HW_.out (by kernel_rfl)) (fun _ _ _ h=>h) (Or.inl ⟨by rfl,?_⟩) hHeld ?_ ?_
 rotate_left
 ·rintro w' ⟨s0,s1,s2⟩
  go_simp
  with_reducible rfl
 rotate_left
 ·simp only [Act.put,List.setIfInBounds_toArray,List.set_cons_zero,List.set_cons_succ,i64_w,i32_w]
  rfl
 refine take_ (i:=6) (N:=some 23) (v:=?_) (a':=?_) #[true,true,true,true,false,true,true,false,false,false,false,false] rfl rfl (take_ofW HT_.out HW_.out (by kernel_rfl)) (fun _ _ _ h=>h) (Or.inl ⟨by rfl,?_⟩) hHeld ?_ ?_
 rotate_left
 ·rintro w' ⟨s0,s1,s2⟩
  go_simp
  with_reducible rfl
 rotate_left
 ·simp only [Act.put,List.setIfInBounds_toArray,List.set_cons_zero,List.set_cons_succ,i64_w,i32_w]
  rfl
 refine one_ (i:=4) (N:=some 21) #[true,true,true,true,true,true,true,false,false,false,false,false] rfl rfl (one_of HT_.out (by kernel_rfl)) (by decide) (fun K hK=>?_)
 refine goes_ Try.func49 (by kernel_rfl) rfl #[.pointer (some ⟨gb494,0,none⟩),.agg #[.slice Ao11 t495.length co11]] (by rfl) rfl rfl Ya ?_
 with_reducible refine (spec_l1Cur_clause.calls k gb494 l0 t505 t506 _ _ t495 t508 t511 t512 w _ ?side1 ?side2 ?side3 ?side4 ?side5 A4.out).mono ?_
 (case side1=>exact Ym)
 (case side2=>exact bH)
 (case side3=>repeat (first|exact (Kd.R_reads' HO497.out).2.2|(with_reducible refine Kd.C_alloc ?_ _)|(with_reducible refine Kd.C_drewN ?_ _)|(with_reducible refine Kd.C_drew ?_)))
 (case side4=>exact (Kd.R_reads' HO497.out).2.1)
 (case side5=>exact far_slice (IsS60.own_ne HI494.out HO497.out (by decide)))
 rintro e w26 ⟨v509,rfl,ho0,hi,hb,hk⟩
 refine ⟨_,rfl,?_⟩
 have HO510:=Aside0.mk (Kd.N_lower (Kd.N_mono (ok':=fun k_=>(w.heap.size ≤ k_) ∧ some k_ ≠ (.slice Ao11 t495.length co11:Value).ownBlock ∧ some k_ ≠ (.slice Ao23 t502.length co23:Value).ownBlock ∧ k_ ≠ gb492 ∧ k_ ≠ gb493 ∧ k_ ≠ gb500 ∧ k_ ≠ gb507 ∧ k_ ≠ gb494) ho0 (fun k_ hk_=>⟨(Nat.le_trans (below_size bH) hk_),(Kd.fresh' (Kd.R_lt (rR HO497)) k_ hk_),(Kd.fresh' (Kd.N_lt (rN HO504)) k_ hk_),(Kd.freshB (bB BK492) k_ hk_),(Kd.freshB (bB BK493) k_ hk_),(Kd.freshB (bB BK500) k_ hk_),(Kd.freshB (bB BK507) k_ hk_),(IsS60.fresh Ym k_ hk_)⟩)) (below_size bH));replace BK492:=Aside0.mk (KeepBut.blk hk (g':=gb492) (o:=.cells #[.slice none 0 0] 26 (0,0)) (bB BK492) NB492_494.out (by simp));replace BK493:=Aside0.mk (KeepBut.blk hk (g':=gb493) (o:=.cells #[.int .i64 0,.slice none 0 0] 31 (0,0)) (bB BK493) NB493_494.out (by simp));replace HO497:=Aside0.mk (Kd.R_mono (Kd.R_keep (IsS60.apart (show IsS60 w _ gb494 l0 t505 t506 from Ym) (rR HO497) (by decide)) hk (fun _ h=>h.2)) (fun _ h=>h.1));replace BK500:=Aside0.mk (KeepBut.blk hk (g':=gb500) (o:=.cells #[.slice Ao11 t495.length co11] 26 (0,0)) (bB BK500) NB500_494.out (by simp));replace HO504:=Aside0.mk (Kd.N_mono (Kd.N_told (Kd.N_oldK (Kd.N_mono (ok:=fun k_=>(((w.heap.size ≤ k_)) ∧ (some k_ ≠ (.slice Ao11 t495.length co11:Value).ownBlock ∧ (k_ ≠ gb492 ∧ (k_ ≠ gb493 ∧ (k_ ≠ gb500 ∧ (k_ ≠ gb494 ∧ k_ ≠ gb507))))))) (rN HO504) (fun k_ hk_=>(⟨hk_,hk_.2.2.2.2.2.1⟩:_ ∧ k_ ≠ gb494))) hk) (Kd.N_base ho0)) (fun _ h_=>h_.1));replace BK507:=Aside0.mk (KeepBut.blk hk (g':=gb507) (o:=.cells #[.int .i64 t501,.slice Ao23 t502.length co23] 31 (0,0)) (bB BK507) NB507_494.out (by simp));replace HB:=Aside0.mk (hb);replace HI494:=Aside0.mk (hi)
 (try clear hb)
 (try clear hb2)
 (try clear hk)
 (try clear hi)
 (try clear ho0)
 refine hK.out _ _ ⟨(blk_cell BK500.out 0).trans rfl,(blk_cell BK507.out 0).trans rfl,(blk_cell BK507.out 1).trans rfl⟩ (fun hHeld=>?_)
 clear hK K
 refine nM (N:=some 21) ?_
 refine one_ (i:=7) (N:=some 24) #[true,true,true,true,true,true,true,true,false,false,false,false] rfl rfl (one_of HT_.out (by kernel_rfl)) (by decide) (fun K hK=>?_)
 refine goes_ Try.func45 (by kernel_rfl) rfl #[.pointer (some ⟨gb494,0,none⟩),.agg #[.int .i64 t501,.slice Ao23 t502.length co23]] (by rfl) rfl rfl Ya ?_
 with_reducible refine (spec_l1Cur_env.calls k gb494 l0 t511 t512 t501 _ _ t502 t513 t516 t517 w _ ?side1 ?side2 ?side3 ?side4 A5.out).mono ?_
 (case side1=>exact Ym)
 (case side2=>exact bH)
 (case side3=>exact Kd.C_foot_ownV (base:=0) (Kd.N_V (Kd.N_mono (ok:=fun k_=>((((w.heap.size ≤ k_)) ∧ (some k_ ≠ (.slice Ao11 t495.length co11:Value).ownBlock ∧ (k_ ≠ gb492 ∧ (k_ ≠ gb493 ∧ (k_ ≠ gb500 ∧ (k_ ≠ gb494 ∧ k_ ≠ gb507)))))) ∧ some k_ ≠ (v509:Value).ownBlock)) (rN HO504) (fun k_ hk_=>(⟨hk_,hk_.1.2.2.2.2.2.1⟩:_ ∧ k_ ≠ gb494)))) (fun _ h_=>h_.2))
 (case side4=>exact (Kd.N_reads' HO504.out).2.1)
 rintro e w27 ⟨v514,rfl,ho0,hi,hb,hk⟩
 refine ⟨_,rfl,?_⟩
 replace BK492:=Aside0.mk (KeepBut.blk hk (g':=gb492) (o:=.cells #[.slice none 0 0] 26 (0,0)) (bB BK492) NB492_494.out (by simp));replace BK493:=Aside0.mk (KeepBut.blk hk (g':=gb493) (o:=.cells #[.int .i64 0,.slice none 0 0] 31 (0,0)) (bB BK493) NB493_494.out (by simp));replace BK500:=Aside0.mk (KeepBut.blk hk (g':=gb500) (o:=.cells #[.slice Ao11 t495.length co11] 26 (0,0)) (bB BK500) NB500_494.out (by simp));replace HO504:=Aside0.mk (Kd.N_mono (Kd.N_told (Kd.N_oldK (Kd.N_mono (ok:=fun k_=>((((w.heap.size ≤ k_)) ∧ (some k_ ≠ (.slice Ao11 t495.length co11:Value).ownBlock ∧ (k_ ≠ gb492 ∧ (k_ ≠ gb493 ∧ (k_ ≠ gb500 ∧ (k_ ≠ gb494 ∧ k_ ≠ gb507)))))) ∧ some k_ ≠ (v509:Value).ownBlock)) (rN HO504) (fun k_ hk_=>(⟨hk_,hk_.1.2.2.2.2.2.1⟩:_ ∧ k_ ≠ gb494))) hk) (Kd.R_base ho0)) (fun _ h_=>h_.1));replace BK507:=Aside0.mk (KeepBut.blk hk (g':=gb507) (o:=.cells #[.int .i64 t501,.slice Ao23 t502.length co23] 31 (0,0)) (bB BK507) NB507_494.out (by simp));replace HO510:=Aside0.mk (Kd.N_mono (Kd.N_told (Kd.N_oldK (Kd.N_mono (ok:=fun k_=>(((w.heap.size ≤ k_)) ∧ (some k_ ≠ (.slice Ao11 t495.length co11:Value).ownBlock ∧ (some k_ ≠ (.slice Ao23 t502.length co23:Value).ownBlock ∧ (k_ ≠ gb492 ∧ (k_ ≠ gb493 ∧ (k_ ≠ gb500 ∧ (k_ ≠ gb507 ∧ k_ ≠ gb494)))))))) (rN HO510) (fun k_ hk_=>(⟨hk_,hk_.2.2.2.2.2.2.2⟩:_ ∧ k_ ≠ gb494))) hk) (Kd.R_base ho0)) (fun _ h_=>h_.1));have HO515:=Aside0.mk (Kd.R_lower (Kd.R_new' (Kd.R_newM (M:=fun k_=>(w.heap.size ≤ k_)) ho0 (below_size bH) (fun k_ h_=>h_)) (Kd.R_lt (rR HO497))) (below_size bH));replace HO497:=Aside0.mk (Kd.R_mono (Kd.R_told (Kd.R_oldK (IsS60.apart (show IsS60 w _ gb494 l0 t511 t512 from Ym) (rR HO497) (by decide)) hk) (Kd.R_base ho0)) (fun _ h_=>h_.1));replace HB:=Aside0.mk (hb);replace HI494:=Aside0.mk (hi)
 (try clear hb)
 (try clear hb2)
 (try clear hk)
 (try clear hi)
 (try clear ho0)
 refine hK.out _ _ ⟨(blk_cell BK500.out 0).trans rfl,(blk_cell BK507.out 0).trans rfl,(blk_cell BK507.out 1).trans rfl⟩ (fun hHeld=>?_)
 clear hK K
 refine nM (N:=some 24) ?_
 refine one_ (i:=8) (N:=none) #[true,true,true,true,true,true,true,true,true,false,false,false] rfl rfl (one_of HT_.out (by kernel_rfl)) (by decide) (fun K hK=>?_)
 have hs28:w27.cell? ⟨gb492,0,none⟩ = some (.slice none 0 0):=(blk_cell BK492.out 0).trans rfl
 have hfs28:=blk_frozen BK492.out 0
 have hns28_1:=NB493_492.out
 have hns28_2:=NB500_492.out
 have hns28_3:=NB507_492.out
 have hms28_1:=NB492_493.out
 have hms28_2:=NB492_500.out
 have hms28_3:=NB492_507.out
 refine skip_ (w1:=?_) (by rfl) rfl ?_ ?_
 rotate_left
 ·go_simp
  rfl
 refine hK.out _ _ ⟨((cell_far (p:=⟨gb492,_,none⟩) NB500_492.out _).trans (hHeld.1)),((cell_far (p:=⟨gb492,_,none⟩) NB507_492.out _).trans (hHeld.2.1)),((cell_far (p:=⟨gb492,_,none⟩) NB507_492.out _).trans (hHeld.2.2))⟩ (fun hHeld=>?_)
 clear hK K
 refine one_ (i:=9) (N:=none) #[true,true,true,true,true,true,true,true,true,true,false,false] rfl rfl (one_of HT_.out (by kernel_rfl)) (by decide) (fun K hK=>?_)
 have hs29:w27.cell? ⟨gb493,0,none⟩ = some (.int .i64 0):=(blk_cell BK493.out 0).trans rfl
 have hfs29:=blk_frozen BK493.out 0
 have hns29_0:=NB492_493.out
 have hns29_2:=NB500_493.out
 have hns29_3:=NB507_493.out
 have hms29_0:=NB493_492.out
 have hms29_2:=NB493_500.out
 have hms29_3:=NB493_507.out
 have hs30:w27.cell? ⟨gb493,1,none⟩ = some (.slice none 0 0):=(blk_cell BK493.out 1).trans rfl
 have hfs30:=blk_frozen BK493.out 1
 have hns30_0:=NB492_493.out
 have hns30_2:=NB500_493.out
 have hns30_3:=NB507_493.out
 have hms30_0:=NB493_492.out
 have hms30_2:=NB493_500.out
 have hms30_3:=NB493_507.out
 refine skip_ (w1:=?_) (by rfl) rfl ?_ ?_
 rotate_left
 ·go_simp
  rfl
 refine hK.out _ _ ⟨((cell_far (p:=⟨gb493,_,none⟩) NB500_493.out _).trans (((cell_far (p:=⟨gb493,_,none⟩) NB500_493.out _).trans (hHeld.1)))),((cell_far (p:=⟨gb493,_,none⟩) NB507_493.out _).trans (((cell_far (p:=⟨gb493,_,none⟩) NB507_493.out _).trans (hHeld.2.1)))),((cell_far (p:=⟨gb493,_,none⟩) NB507_493.out _).trans (((cell_far (p:=⟨gb493,_,none⟩) NB507_493.out _).trans (hHeld.2.2))))⟩ (fun hHeld=>?_)
 clear hK K
 refine pU (i:=10) (N:=some 4) #[true,true,true,true,true,true,true,true,true,true,true,false] (any_of HT_.out (by kernel_rfl)) ?_
 refine pU (i:=11) (N:=some 5) #[true,true,true,true,true,true,true,true,true,true,true,true] (any_of HT_.out (by kernel_rfl)) ?_
 refine done_ (done_of HT_.out (by kernel_rfl)) ?_
 try go_wp2
 refine bodyPost_ret (results_list (rs:=[.cell 2 26,.cell 3 31,.tmp 4,.tmp 5]) rfl (by simp) (.cell gb492 26 #[.slice Ao11 t495.length co11] (0,0) _ rfl (by (with_reducible repeat (first|refine blk_drewN ?_ _|refine blk_drew ?_|refine blk_alloc ?_ _));refine blk_far ?_ NB492_493.out _;(with_reducible repeat (first|refine blk_drewN ?_ _|refine blk_drew ?_|refine blk_alloc ?_ _));refine blk_far ?_ NB492_493.out _;(with_reducible repeat (first|refine blk_drewN ?_ _|refine blk_drew ?_|refine blk_alloc ?_ _));refine blk_put (cs:=#[.slice none 0 0]) ?_ 0 _ rfl;(with_reducible repeat (first|refine blk_drewN ?_ _|refine blk_drew ?_|refine blk_alloc ?_ _));exact BK492.out) Try.underlying26 rfl (by kernel_rfl) (.cell gb493 31 #[.int .i64 t501,.slice Ao23 t502.length co23] (0,0) _ rfl (by (with_reducible repeat (first|refine blk_drewN ?_ _|refine blk_drew ?_|refine blk_alloc ?_ _));refine blk_put (cs:=#[.int .i64 t501,.slice none 0 0]) ?_ 1 _ rfl;(with_reducible repeat (first|refine blk_drewN ?_ _|refine blk_drew ?_|refine blk_alloc ?_ _));refine blk_put (cs:=#[.int .i64 0,.slice none 0 0]) ?_ 0 _ rfl;(with_reducible repeat (first|refine blk_drewN ?_ _|refine blk_drew ?_|refine blk_alloc ?_ _));refine blk_far ?_ NB493_492.out _;(with_reducible repeat (first|refine blk_drewN ?_ _|refine blk_drew ?_|refine blk_alloc ?_ _));exact BK493.out) Try.underlying31 rfl (by kernel_rfl) (.tmp (.tmp .nil))))) rfl ?_
 exact ⟨_,_,_,_,Yb,by (with_reducible repeat (first|apply Kd.R_alloc|apply Kd.R_drewN|apply Kd.R_drew));exact Kd.R_mono (Kd.R_far (p:=⟨gb493,1,none⟩) (Kd.R_far (p:=⟨gb493,0,none⟩) (Kd.R_far (p:=⟨gb492,0,none⟩) (Kd.R_types (Kd.R_types HO497.out BK492.out (by decide)) BK493.out (by decide)) (fun _ hk=>hk.1.2) (.slice Ao11 t495.length co11)) (fun _ hk=>hk.2) (.int .i64 t501)) (fun _ hk=>hk.2) (.slice Ao23 t502.length co23)) (fun _ hk=>⟨hk.1.1.1,hk.1.1.2⟩),by (with_reducible repeat (first|apply Kd.N_alloc|apply Kd.N_drewN|apply Kd.N_drew));exact Kd.N_mono (Kd.N_far (p:=⟨gb493,1,none⟩) (Kd.N_far (p:=⟨gb493,0,none⟩) (Kd.N_far (p:=⟨gb492,0,none⟩) (Kd.N_mono (Kd.N_mono HO504.out (fun k_ hk=>(⟨hk,hk.1.1.2.2.1⟩:_ ∧ k_ ≠ gb492))) (fun k_ hk=>(⟨hk,hk.1.1.1.2.2.2.1⟩:_ ∧ k_ ≠ gb493))) (fun _ hk=>hk.1.2) (.slice Ao11 t495.length co11)) (fun _ hk=>hk.2) (.int .i64 t501)) (fun _ hk=>hk.2) (.slice Ao23 t502.length co23)) (fun _ hk=>⟨hk.1.1.1.1.1,⟨hk.1.1.1.1.2.1,⟨hk.1.1.1.2,hk.1.1.2⟩⟩⟩),by (with_reducible repeat (first|apply Kd.N_alloc|apply Kd.N_drewN|apply Kd.N_drew));exact Kd.N_mono (Kd.N_far (p:=⟨gb493,1,none⟩) (Kd.N_far (p:=⟨gb493,0,none⟩) (Kd.N_far (p:=⟨gb492,0,none⟩) (Kd.N_mono (Kd.N_mono HO510.out (fun k_ hk=>(⟨hk,hk.1.2.2.2.1⟩:_ ∧ k_ ≠ gb492))) (fun k_ hk=>(⟨hk,hk.1.1.2.2.2.2.1⟩:_ ∧ k_ ≠ gb493))) (fun _ hk=>hk.1.2) (.slice Ao11 t495.length co11)) (fun _ hk=>hk.2) (.int .i64 t501)) (fun _ hk=>hk.2) (.slice Ao23 t502.length co23)) (fun _ hk=>⟨hk.1.1.1.1,⟨hk.1.1.1.2.1,⟨hk.1.1.1.2.2.1,hk.1.1.2⟩⟩⟩),by (with_reducible repeat (first|apply Kd.R_alloc|apply Kd.R_drewN|apply Kd.R_drew));exact Kd.R_mono (Kd.R_far (p:=⟨gb493,1,none⟩) (Kd.R_far (p:=⟨gb493,0,none⟩) (Kd.R_far (p:=⟨gb492,0,none⟩) (Kd.R_types (Kd.R_types HO515.out BK492.out (by decide)) BK493.out (by decide)) (fun _ hk=>hk.1.2) (.slice Ao11 t495.length co11)) (fun _ hk=>hk.2) (.int .i64 t501)) (fun _ hk=>hk.2) (.slice Ao23 t502.length co23)) (fun _ hk=>⟨hk.1.1.1.1,hk.1.1.2⟩),bH⟩

/-! ### impl_Sign_isLit: function 90 -/
def impl_Sign_isLit.f (k:Nat) (l0_0:List Int) (a1_0:Bool) (l1_1:List Int) (l1_2:List Int):Option (Bool):=(impl_Sign_isTerm.f k l0_0 l1_1).bind fun t520=>(if t520 = true then ((impl_Sign_isTerm.f k l0_0 l1_2).bind fun t521=>(some t521)) else (some false))
theorem impl_Sign_isLit.mono:∀ a0 a1 a2 a3 k,LeO (impl_Sign_isLit.f k a0 a1 a2 a3) (impl_Sign_isLit.f (k + 1) a0 a1 a2 a3):=by
 intro a0 a1 a2 a3 k
 unfold impl_Sign_isLit.f
 have m0:=@impl_Sign_isTerm.mono
 exact mO
set_option maxHeartbeats 8000000 in
set_option maxRecDepth 100000 in
theorem impl_Sign_isLit.calls (k:Nat) (A0_0:Option Addr) (c0_0:Nat) (l0_0:List Int) (a1_0:Bool) (A1_1:Option Addr) (c1_1:Nat) (l1_1:List Int) (A1_2:Option Addr) (c1_2:Nat) (l1_2:List Int) (r:Bool) (w:World) (hr0_0:Kd.C (Kd.int .i64) w A0_0 l0_0.length l0_0) (hc0_0:l0_0.length ≤ c0_0) (hr1_1:Kd.C (Kd.int .i64) w A1_1 l1_1.length l1_1) (hc1_1:l1_1.length ≤ c1_1) (hr1_2:Kd.C (Kd.int .i64) w A1_2 l1_2.length l1_2) (hc1_2:l1_2.length ≤ c1_2) (h:impl_Sign_isLit.f k l0_0 a1_0 l1_1 l1_2 = some r) :
  Calls Try.prog 90 #[.agg #[.slice A0_0 l0_0.length c0_0],.agg #[.bool a1_0,.slice A1_1 l1_1.length c1_1,.slice A1_2 l1_2.length c1_2]] w fun e w'=>e = .returned (.bool r) ∧ Below w.heap.size w w':=by
 have hu26:=Try.underlying26
 have hu83:=Try.underlying83
 have HR0_0:=Aside0.mk hr0_0
 have HC0_0:=Aside0.mk hc0_0
 clear hr0_0 hc0_0
 have HR1_1:=Aside0.mk hr1_1
 have HC1_1:=Aside0.mk hc1_1
 clear hr1_1 hc1_1
 have HR1_2:=Aside0.mk hr1_2
 have HC1_2:=Aside0.mk hc1_2
 clear hr1_2 hc1_2
 have HB:=Aside0.mk (Below.refl w.heap.size w)
 have H:((impl_Sign_isTerm.f k l0_0 l1_1).bind fun t520=>(if t520 = true then ((impl_Sign_isTerm.f k l0_0 l1_2).bind fun t521=>(some t521)) else (some false))) = some r:=h
 clear h
 replace H:=Option.bind_eq_some_iff.mp H
 obtain ⟨t520,A30,H⟩:=H
 replace H:(if t520 = true then ((impl_Sign_isTerm.f k l0_0 l1_2).bind fun t521=>(some t521)) else (some false)) = some r:=H
 have A3:=Aside0.mk A30
 clear A30
 by_cases c4:t520 = true
 ·subst c4
  have H1:((impl_Sign_isTerm.f k l0_0 l1_2).bind fun t521=>(some t521)) = some r:=by rw [if_pos rfl] at H;exact H
  clear H
  have H:=H1
  clear H1
  replace H:=Option.bind_eq_some_iff.mp H
  obtain ⟨t521,A50,H⟩:=H
  replace H:(some t521) = some r:=H
  have A5:=Aside0.mk A50
  clear A50
  obtain rfl:=Option.some.inj H
  go_enter Try.func90,Try.ntmps90
  go_wp2_with (first|((with_reducible refine gate_dst (N:=2) rfl ?_);refine box_event ?hg (N:=2) ?hd (cs:=#[.slice A0_0 l0_0.length c0_0]) (t:=26) ?hr ?_;(case hd=>rfl);(case hg=>rfl);(case hr=>exact Yd);intro gb518 hg w6 hbox hb;have BK518:=Aside0.mk (hbox);have GW518:=Aside0.mk ((hZ:w.heap.size ≤ gb518));have GE518:=Aside0.mk ((hZ:w.heap.size ≤ gb518));replace HB:=Aside0.mk (below_step bH hb);clear hb hbox hg)|((with_reducible refine gate_dst (N:=3) rfl ?_);refine box_event ?hg (N:=3) ?hd (cs:=#[.bool a1_0,.slice A1_1 l1_1.length c1_1,.slice A1_2 l1_2.length c1_2]) (t:=83) ?hr ?_;(case hd=>rfl);(case hg=>rfl);(case hr=>exact Yd);intro gb519 hg w7 hbox hb;have BK519:=Aside0.mk (hbox);have GW519:=Aside0.mk ((hZ:w.heap.size ≤ gb519));have GE519:=Aside0.mk ((hZ:w.heap.size ≤ gb519));replace HB:=Aside0.mk (below_step bH hb);have NB518_519:=Aside0.mk ((nL BK518:gb518 ≠ gb519));have NB519_518:=Aside0.mk ((nG BK518:gb519 ≠ gb518));replace BK518:=Aside0.mk (blk_below (bB BK518) hb);clear hb hbox hg;have hnb8:=NB518_519.out;have hnc8:=NB519_518.out;have hcz9_0:w7.cell? ⟨gb518,0,none⟩ = some (.slice A0_0 l0_0.length c0_0):=(blk_cell BK518.out 0).trans rfl;have hfz9_0:=blk_frozen BK518.out 0;have hcz10_0:w7.cell? ⟨gb519,0,none⟩ = some (.bool a1_0):=(blk_cell BK519.out 0).trans rfl;have hcz10_1:w7.cell? ⟨gb519,1,none⟩ = some (.slice A1_1 l1_1.length c1_1):=(blk_cell BK519.out 1).trans rfl;have hcz10_2:w7.cell? ⟨gb519,2,none⟩ = some (.slice A1_2 l1_2.length c1_2):=(blk_cell BK519.out 2).trans rfl;have hfz10_0:=blk_frozen BK519.out 0;have hfz10_1:=blk_frozen BK519.out 1;have hfz10_2:=blk_frozen BK519.out 2)|((with_reducible refine gate_callee (f:=40) rfl ?_);refine goesL_ (some 8) rfl rfl Try.func40 (by kernel_rfl) rfl #[.agg #[.slice A0_0 l0_0.length c0_0],.slice A1_1 l1_1.length c1_1] rfl Ya ?_;(with_reducible refine (impl_Sign_isTerm.calls k _ _ l0_0 _ _ l1_1 true _ ?side1 ?side2 ?side3 ?side4 A3.out).mono ?_);(case side1=>exact Yv);(case side2=>exact Yu);(case side3=>exact YN);(case side4=>exact YK);rintro e w11 ⟨rfl,hb⟩;refine ⟨_,rfl,?_⟩;replace BK518:=Aside0.mk (blk_below (bB BK518) hb);replace BK519:=Aside0.mk (blk_below (bB BK519) hb);replace HB:=Aside0.mk (below_step bH hb);(try clear hb);(try clear hb2);(try clear hk);(try clear hi);have hcz12_0:w11.cell? ⟨gb518,0,none⟩ = some (.slice A0_0 l0_0.length c0_0):=(blk_cell BK518.out 0).trans rfl;have hfz12_0:=blk_frozen BK518.out 0;have hcz13_0:w11.cell? ⟨gb519,0,none⟩ = some (.bool a1_0):=(blk_cell BK519.out 0).trans rfl;have hcz13_1:w11.cell? ⟨gb519,1,none⟩ = some (.slice A1_1 l1_1.length c1_1):=(blk_cell BK519.out 1).trans rfl;have hcz13_2:w11.cell? ⟨gb519,2,none⟩ = some (.slice A1_2 l1_2.length c1_2):=(blk_cell BK519.out 2).trans rfl;have hfz13_0:=blk_frozen BK519.out 0;have hfz13_1:=blk_frozen BK519.out 1;have hfz13_2:=blk_frozen BK519.out 2)|(go_at_call 40;(with_reducible refine (impl_Sign_isTerm.calls k _ _ l0_0 _ _ l1_2 t521 _ ?side1 ?side2 ?side3 ?side4 A5.out).mono ?_);(case side1=>exact Yv);(case side2=>exact Yu);(case side3=>exact sC HR1_2);(case side4=>exact HC1_2.out);rintro e w14 ⟨rfl,hb⟩;replace BK518:=Aside0.mk (blk_below (bB BK518) hb);replace BK519:=Aside0.mk (blk_below (bB BK519) hb);replace HB:=Aside0.mk (below_step bH hb);(try clear hb);(try clear hb2);(try clear hk);(try clear hi)))
  go_ret
  exact ⟨Yb,bH⟩
 ·replace c4:=Bool.eq_false_iff.mpr c4
  subst c4
  have H1:(some false) = some r:=by rw [if_neg (show ¬ (false = true) by decide)] at H;exact H
  clear H
  have H:=H1
  clear H1
  obtain rfl:=Option.some.inj H
  go_enter Try.func90,Try.ntmps90
  go_wp2_with (first|((with_reducible refine gate_dst (N:=2) rfl ?_);refine box_event ?hg (N:=2) ?hd (cs:=#[.slice A0_0 l0_0.length c0_0]) (t:=26) ?hr ?_;(case hd=>rfl);(case hg=>rfl);(case hr=>exact Yd);intro gb518 hg w15 hbox hb;have BK518:=Aside0.mk (hbox);have GW518:=Aside0.mk ((hZ:w.heap.size ≤ gb518));have GE518:=Aside0.mk ((hZ:w.heap.size ≤ gb518));replace HB:=Aside0.mk (below_step bH hb);clear hb hbox hg)|((with_reducible refine gate_dst (N:=3) rfl ?_);refine box_event ?hg (N:=3) ?hd (cs:=#[.bool a1_0,.slice A1_1 l1_1.length c1_1,.slice A1_2 l1_2.length c1_2]) (t:=83) ?hr ?_;(case hd=>rfl);(case hg=>rfl);(case hr=>exact Yd);intro gb519 hg w16 hbox hb;have BK519:=Aside0.mk (hbox);have GW519:=Aside0.mk ((hZ:w.heap.size ≤ gb519));have GE519:=Aside0.mk ((hZ:w.heap.size ≤ gb519));replace HB:=Aside0.mk (below_step bH hb);have NB518_519:=Aside0.mk ((nL BK518:gb518 ≠ gb519));have NB519_518:=Aside0.mk ((nG BK518:gb519 ≠ gb518));replace BK518:=Aside0.mk (blk_below (bB BK518) hb);clear hb hbox hg;have hnb17:=NB518_519.out;have hnc17:=NB519_518.out;have hcz18_0:w16.cell? ⟨gb518,0,none⟩ = some (.slice A0_0 l0_0.length c0_0):=(blk_cell BK518.out 0).trans rfl;have hfz18_0:=blk_frozen BK518.out 0;have hcz19_0:w16.cell? ⟨gb519,0,none⟩ = some (.bool a1_0):=(blk_cell BK519.out 0).trans rfl;have hcz19_1:w16.cell? ⟨gb519,1,none⟩ = some (.slice A1_1 l1_1.length c1_1):=(blk_cell BK519.out 1).trans rfl;have hcz19_2:w16.cell? ⟨gb519,2,none⟩ = some (.slice A1_2 l1_2.length c1_2):=(blk_cell BK519.out 2).trans rfl;have hfz19_0:=blk_frozen BK519.out 0;have hfz19_1:=blk_frozen BK519.out 1;have hfz19_2:=blk_frozen BK519.out 2)|((with_reducible refine gate_callee (f:=40) rfl ?_);refine goesL_ (some 8) rfl rfl Try.func40 (by kernel_rfl) rfl #[.agg #[.slice A0_0 l0_0.length c0_0],.slice A1_1 l1_1.length c1_1] rfl Ya ?_;(with_reducible refine (impl_Sign_isTerm.calls k _ _ l0_0 _ _ l1_1 false _ ?side1 ?side2 ?side3 ?side4 A3.out).mono ?_);(case side1=>exact Yv);(case side2=>exact Yu);(case side3=>exact YN);(case side4=>exact YK);rintro e w20 ⟨rfl,hb⟩;refine ⟨_,rfl,?_⟩;replace BK518:=Aside0.mk (blk_below (bB BK518) hb);replace BK519:=Aside0.mk (blk_below (bB BK519) hb);replace HB:=Aside0.mk (below_step bH hb);(try clear hb);(try clear hb2);(try clear hk);(try clear hi)))
  go_ret
  exact ⟨Yb,bH⟩

/-! ### impl_Sign_isClause_1: function 89 -/
def impl_Sign_isClause_1.f (k:Nat) (a0_0:Bool) (l0_1:List Int) (l0_2:List Int) (l1_0:List Int):Option (Bool):=(impl_Sign_isLit.f k l1_0 a0_0 l0_1 l0_2).bind fun t523=>(some (!t523))
theorem impl_Sign_isClause_1.mono:∀ a0 a1 a2 a3 k,LeO (impl_Sign_isClause_1.f k a0 a1 a2 a3) (impl_Sign_isClause_1.f (k + 1) a0 a1 a2 a3):=by
 intro a0 a1 a2 a3 k
 unfold impl_Sign_isClause_1.f
 have m0:=@impl_Sign_isLit.mono
 exact mO
set_option maxHeartbeats 8000000 in
set_option maxRecDepth 100000 in
theorem impl_Sign_isClause_1.calls (k:Nat) (a0_0:Bool) (A0_1:Option Addr) (c0_1:Nat) (l0_1:List Int) (A0_2:Option Addr) (c0_2:Nat) (l0_2:List Int) (g1_:Nat) (A1_0:Option Addr) (c1_0:Nat) (l1_0:List Int) (r:Bool) (w:World) (hr0_1:Kd.C (Kd.int .i64) w A0_1 l0_1.length l0_1) (hc0_1:l0_1.length ≤ c0_1) (hr0_2:Kd.C (Kd.int .i64) w A0_2 l0_2.length l0_2) (hc0_2:l0_2.length ≤ c0_2) (hr1_0:Kd.C (Kd.int .i64) w A1_0 l1_0.length l1_0) (hc1_0:l1_0.length ≤ c1_0) (hg1:w.heap[g1_]? = some (.cells #[.slice A1_0 l1_0.length c1_0] 26 (0,0))) (h:impl_Sign_isClause_1.f k a0_0 l0_1 l0_2 l1_0 = some r) :
  Calls Try.prog 89 #[.agg #[.bool a0_0,.slice A0_1 l0_1.length c0_1,.slice A0_2 l0_2.length c0_2],.pointer (some ⟨g1_,0,none⟩)] w fun e w'=>e = .returned (.bool r) ∧ Below w.heap.size w w':=by
 have hu83:=Try.underlying83
 have hu26:=Try.underlying26
 have HR0_1:=Aside0.mk hr0_1
 have HC0_1:=Aside0.mk hc0_1
 clear hr0_1 hc0_1
 have HR0_2:=Aside0.mk hr0_2
 have HC0_2:=Aside0.mk hc0_2
 clear hr0_2 hc0_2
 have HR1_0:=Aside0.mk hr1_0
 have HC1_0:=Aside0.mk hc1_0
 clear hr1_0 hc1_0
 have BK1:=Aside0.mk hg1
 clear hg1
 have HB:=Aside0.mk (Below.refl w.heap.size w)
 have H:((impl_Sign_isLit.f k l1_0 a0_0 l0_1 l0_2).bind fun t523=>(some (!t523))) = some r:=h
 clear h
 replace H:=Option.bind_eq_some_iff.mp H
 obtain ⟨t523,A30,H⟩:=H
 replace H:(some (!t523)) = some r:=H
 have A3:=Aside0.mk A30
 clear A30
 obtain rfl:=Option.some.inj H
 go_enter Try.func89,Try.ntmps89
 go_wp2_with (first|((with_reducible refine gate_dst (N:=2) rfl ?_);refine box_event ?hg (N:=2) ?hd (cs:=#[.bool a0_0,.slice A0_1 l0_1.length c0_1,.slice A0_2 l0_2.length c0_2]) (t:=83) ?hr ?_;(case hd=>rfl);(case hg=>rfl);(case hr=>exact Yd);intro gb522 hg w4 hbox hb;have BK522:=Aside0.mk (hbox);have GW522:=Aside0.mk ((hZ:w.heap.size ≤ gb522));have GE522:=Aside0.mk ((hZ:w.heap.size ≤ gb522));replace HB:=Aside0.mk (below_step bH hb);have NB1_522:=Aside0.mk ((nL BK1:g1_ ≠ gb522));have NB522_1:=Aside0.mk ((nG BK1:gb522 ≠ g1_));replace BK1:=Aside0.mk (blk_below (bB BK1) hb);clear hb hbox hg;have hnb5:=NB1_522.out;have hnc5:=NB522_1.out;have hcz6_0:w4.cell? ⟨g1_,0,none⟩ = some (.slice A1_0 l1_0.length c1_0):=(blk_cell BK1.out 0).trans rfl;have hfz6_0:=blk_frozen BK1.out 0;have hcz7_0:w4.cell? ⟨gb522,0,none⟩ = some (.bool a0_0):=(blk_cell BK522.out 0).trans rfl;have hcz7_1:w4.cell? ⟨gb522,1,none⟩ = some (.slice A0_1 l0_1.length c0_1):=(blk_cell BK522.out 1).trans rfl;have hcz7_2:w4.cell? ⟨gb522,2,none⟩ = some (.slice A0_2 l0_2.length c0_2):=(blk_cell BK522.out 2).trans rfl;have hfz7_0:=blk_frozen BK522.out 0;have hfz7_1:=blk_frozen BK522.out 1;have hfz7_2:=blk_frozen BK522.out 2)|((with_reducible refine gate_callee (f:=90) rfl ?_);refine goesL_ (some 6) rfl rfl Try.func90 (by kernel_rfl) rfl #[.agg #[.slice A1_0 l1_0.length c1_0],.agg #[.bool a0_0,.slice A0_1 l0_1.length c0_1,.slice A0_2 l0_2.length c0_2]] rfl Ya ?_;(with_reducible refine (impl_Sign_isLit.calls k _ _ l1_0 a0_0 _ _ l0_1 _ _ l0_2 t523 _ ?side1 ?side2 ?side3 ?side4 ?side5 ?side6 A3.out).mono ?_);(case side1=>exact sC HR1_0);(case side2=>exact Zh);(case side3=>exact sC HR0_1);(case side4=>exact HC0_1.out);(case side5=>exact sC HR0_2);(case side6=>exact HC0_2.out);rintro e w8 ⟨rfl,hb⟩;refine ⟨_,rfl,?_⟩;replace BK1:=Aside0.mk (blk_below (bB BK1) hb);replace BK522:=Aside0.mk (blk_below (bB BK522) hb);replace HB:=Aside0.mk (below_step bH hb);(try clear hb);(try clear hb2);(try clear hk);(try clear hi)))
 go_ret
 exact ⟨Yb,bH⟩

/-! ### slices_IndexFunc: function 117 -/
set_option maxHeartbeats 2000000 in
set_option maxRecDepth 100000 in
theorem idx117 (g:Nat) (lb:Array Value) (eg:∀ args w,(callFunc g args).run Try.prog w = .ok (.enter g args) w) (f:S83 → Option Bool) (A:Option Addr) (c:Nat) (l:List S83) (r:Int) (w:World) (hr:Kd.C k83 w A l.length l) (hc:l.length ≤ c)
  (hp:∀ (W:World) (x:S83) (b:Bool) (E1:Option Addr) (e1:Nat) (E2:Option Addr) (e2:Nat),Below w.heap.size w W → Kd.C (Kd.int .i64) W E1 x.f1.length x.f1 → x.f1.length ≤ e1 → Kd.C (Kd.int .i64) W E2 x.f2.length x.f2 → x.f2.length ≤ e2 → f x = some b → Calls Try.prog g (#[.agg #[.bool x.f0,.slice E1 x.f1.length e1,.slice E2 x.f2.length e2]] ++ lb) W fun e w'=>e = .returned (.bool b) ∧ Below W.heap.size W w')
  (h:idxO f 0 l = some r) :
  Calls Try.prog 117 #[.slice A l.length c,.func (.func g) #[] lb] w fun e w'=>e = .returned (.int .i64 r) ∧ Below w.heap.size w w':=by
 have HR:=Aside0.mk hr
 have HP:=Aside0.mk hp
 have HL:=Aside0.mk hr.2.1
 have H:=Aside0.mk h
 clear hr hp h hc
 have hu:=Try.underlying83
 go_enter Try.func117,Try.ntmps117
 go_wp2
 go_loopg [5,8] (l.length + 1) (fun kq _ v8 w'=>∃ kk:Nat,v8 = .int .i64 kk ∧ Aside0 (kk ≤ l.length ∧ l.length + 1 ≤ kq + kk) ∧ Aside0 (idxO f kk (l.drop kk) = some r) ∧ Aside0 (Below w.heap.size w w'))
 case atStart=>exact ⟨0,rfl,⟨Nat.zero_le _,by omega⟩,⟨by simpa using H.out⟩,⟨Below.refl _ _⟩⟩
 case round =>
  obtain ⟨kk,rfl,HK,HI,HB⟩:=hrel
  have hkk:=HK.out.1
  by_cases hlt:kk < l.length
  ·have hd:l.drop kk = l[kk] :: l.drop (kk + 1):=List.drop_eq_getElem_cons hlt
   have hi:=HI.out
   rw [hd] at hi
   simp only [idxO] at hi
   obtain ⟨b,hb,hi⟩:=Option.bind_eq_some_iff.1 hi
   have HW:=Aside0.mk (show wrap64 ((kk:Int) + 1) = ((kk + 1:Nat):Int) from by have:=HL.out;unfold wrap64;omega)
   have p:0 ≤ (kk:Int):=by omega
   have q:(kk:Int) < (l.length:Int):=by omega
   have q1:decide (kk < l.length) = true:=decide_eq_true hlt
   have q2:decide ((kk:Int) < (l.length:Int)) = true:=decide_eq_true q
   obtain ⟨ad,E1,e1,E2,e2,e1,hx0,hx1,hx2,he1,hE1,he2,hE2⟩:=at_T83 HR.out (kk:Int) p q
   cases e1
   have hrd:rd_T83 l (kk:Int) = l[kk]:=by unfold rd_T83;simp [List.getD_eq_getElem?_getD,List.getElem?_eq_getElem hlt]
   rw [hrd] at hx0 hx1 hx2 he1 hE1 he2 hE2
   clear hrd
   replace hx0:=(HB.out.cell (World.block_lt_of_cell? w _ hx0)).trans hx0
   replace hx1:=(HB.out.cell (World.block_lt_of_cell? w _ hx1)).trans hx1
   replace hx2:=(HB.out.cell (World.block_lt_of_cell? w _ hx2)).trans hx2
   replace hE1:=Kd.C_below hE1 HB.out
   replace hE2:=Kd.C_below hE2 HB.out
   rw [Int.toNat_natCast] at hx0 hx1 hx2
   generalize hy:l[kk] = y at hx0 hx1 hx2 he1 hE1 he2 hE2 hb
   clear hy hd
   have HC:=Aside0.mk (HP.out wr y b E1 e1 E2 e2 HB.out hE1 he1 hE2 he2 hb)
   clear HI hkk
   clear he1 hE1 he2 hE2
   cases b with
   | true =>
    have HE:=Aside0.mk (Option.some.inj hi)
    clear hi hb
    go_wp2_with fail
    refine HC.out.mono ?_
    rintro e w' ⟨rfl,hb'⟩
    have HB2:=Aside0.mk (below_step HB.out hb')
    clear HB hb' HC hx0 hx1 hx2
    have HB:=HB2
    clear HB2
    go_wp2_with fail
    go_ret
    exact ⟨by rw [← HE.out];rfl,HB.out⟩
   | false =>
    have HE:=Aside0.mk hi
    clear hi hb
    go_wp2_with fail
    refine HC.out.mono ?_
    rintro e w' ⟨rfl,hb'⟩
    have HB2:=Aside0.mk (below_step HB.out hb')
    clear HB hb' HC hx0 hx1 hx2
    have HB:=HB2
    clear HB2
    go_wp2_with fail
    go_roundg (l.length - kk)
    case measure=>have:=HK.out;omega
    case rel=>exact ⟨kk + 1,by rw [HW.out],⟨by have:=HK.out;omega⟩,⟨by rw [show ((kk + 1:Nat):Int) = (kk:Int) + 1 from by omega];simpa using HE.out⟩,HB⟩
  ·have HE:=Aside0.mk (show -1 = r from Zf)
   have q1:decide (kk < l.length) = false:=decide_eq_false hlt
   have q2:decide ((kk:Int) < (l.length:Int)) = false:=decide_eq_false (by omega)
   clear HI hkk
   go_wp2
   go_ret
   exact ⟨by rw [← HE.out];rfl,HB.out⟩

/-! ### slices_ContainsFunc: function 88 -/
set_option maxHeartbeats 2000000 in
theorem any88 (g:Nat) (lb:Array Value) (eg:∀ args w,(callFunc g args).run Try.prog w = .ok (.enter g args) w) (f:S83 → Option Bool) (A:Option Addr) (c:Nat) (l:List S83) (r:Bool) (w:World) (hr:Kd.C k83 w A l.length l) (hc:l.length ≤ c)
  (hp:∀ (W:World) (x:S83) (b:Bool) (E1:Option Addr) (e1:Nat) (E2:Option Addr) (e2:Nat),Below w.heap.size w W → Kd.C (Kd.int .i64) W E1 x.f1.length x.f1 → x.f1.length ≤ e1 → Kd.C (Kd.int .i64) W E2 x.f2.length x.f2 → x.f2.length ≤ e2 → f x = some b → Calls Try.prog g (#[.agg #[.bool x.f0,.slice E1 x.f1.length e1,.slice E2 x.f2.length e2]] ++ lb) W fun e w'=>e = .returned (.bool b) ∧ Below W.heap.size W w')
  (h:anyO f l = some r) :
  Calls Try.prog 88 #[.slice A l.length c,.func (.func g) #[] lb] w fun e w'=>e = .returned (.bool r) ∧ Below w.heap.size w w':=by
 obtain ⟨j,hj,hr2⟩:=idxO_any f l 0 r (Int.le_refl _) h
 have HR:=Aside0.mk hr2
 have HC:=Aside0.mk (fun W hW=>idx117 g lb eg f A c l j W (Kd.C_below hr hW) hc (fun W' x b E1 e1 E2 e2 h1=>hp W' x b E1 e1 E2 e2 (hW.trans (h1.mono hW.size))) hj)
 clear hr hp h hc hj hr2 eg
 go_enter Try.func88,Try.ntmps88
 go_wp2_with fail
 refine (HC.out _ (Below.refl _ _)).mono ?_
 rintro e w' ⟨rfl,hb⟩
 have HB:=Aside0.mk hb
 clear hb HC
 go_wp2
 go_ret
 exact ⟨by rw [HR.out];rfl,HB.out⟩

/-! ### impl_Sign_isClause_1_any: function 1000003 -/
def impl_Sign_isClause_1_any.f (k:Nat) (l0:List (S83)) (l1_0:List Int):Option (Bool):=anyO (fun x=>impl_Sign_isClause_1.f k x.f0 x.f1 x.f2 l1_0) l0
theorem impl_Sign_isClause_1_any.mono:∀ a0 a1 k,LeO (impl_Sign_isClause_1_any.f k a0 a1) (impl_Sign_isClause_1_any.f (k + 1) a0 a1):=by
 intro a0 a1 k
 unfold impl_Sign_isClause_1_any.f
 exact anyO_mono (fun x=>impl_Sign_isClause_1.mono _ _ _ _ k) _
theorem impl_Sign_isClause_1_any.calls (k:Nat) (A0:Option Addr) (c0:Nat) (l0:List (S83)) (A1_0:Option Addr) (c1_0:Nat) (l1_0:List Int) (g1_:Nat) (r:Bool) (w:World) (hr0:Kd.C k83 w A0 l0.length l0) (hc0:l0.length ≤ c0) (hr1_0:Kd.C (Kd.int .i64) w A1_0 l1_0.length l1_0) (hc1_0:l1_0.length ≤ c1_0) (hg1:w.heap[g1_]? = some (.cells #[.slice A1_0 l1_0.length c1_0] 26 (0,0))) (h:impl_Sign_isClause_1_any.f k l0 l1_0 = some r) :
  Calls Try.prog 88 #[.slice A0 l0.length c0,.func (.func 89) #[] #[.pointer (some ⟨g1_,0,none⟩)]] w fun e w'=>e = .returned (.bool r) ∧ Below w.heap.size w w':=by
 exact any88 89 #[.pointer (some ⟨g1_,0,none⟩)] (enters_of Try.func89 (by kernel_rfl) rfl) (fun x=>impl_Sign_isClause_1.f k x.f0 x.f1 x.f2 l1_0) A0 c0 l0 r w hr0 hc0 (fun W x b E1 e1 E2 e2 hW hE1 he1 hE2 he2 hx=>(impl_Sign_isClause_1.calls k x.f0 E1 e1 x.f1 E2 e2 x.f2 g1_ A1_0 c1_0 l1_0 b W hE1 he1 hE2 he2 (Kd.C_below hr1_0 hW) hc1_0 ((hW.block _ (Array.getElem?_eq_some_iff.1 hg1).1).trans hg1) hx).mono fun _ _ h_=>⟨h_.1,h_.2⟩) h

/-! ### impl_Sign_isClause: function 50 -/
def impl_Sign_isClause.f (k:Nat) (l0_0:List Int) (l1:List (S83)):Option (Bool):=if (l1.length:Int) ≤ 8 then ((impl_Sign_isClause_1_any.f k l1 l0_0).bind fun t525=>(some (!t525))) else (some false)
theorem impl_Sign_isClause.mono:∀ a0 a1 k,LeO (impl_Sign_isClause.f k a0 a1) (impl_Sign_isClause.f (k + 1) a0 a1):=by
 intro a0 a1 k
 unfold impl_Sign_isClause.f
 have m0:=@impl_Sign_isClause_1_any.mono
 exact mO
set_option maxHeartbeats 8000000 in
set_option maxRecDepth 100000 in
theorem impl_Sign_isClause.calls (k:Nat) (A0_0:Option Addr) (c0_0:Nat) (l0_0:List Int) (A1:Option Addr) (c1:Nat) (l1:List (S83)) (r:Bool) (w:World) (hr0_0:Kd.C (Kd.int .i64) w A0_0 l0_0.length l0_0) (hc0_0:l0_0.length ≤ c0_0) (hr1:Kd.C k83 w A1 l1.length l1) (hc1:l1.length ≤ c1) (h:impl_Sign_isClause.f k l0_0 l1 = some r) :
  Calls Try.prog 50 #[.agg #[.slice A0_0 l0_0.length c0_0],.slice A1 l1.length c1] w fun e w'=>e = .returned (.bool r) ∧ Below w.heap.size w w':=by
 have hu26:=Try.underlying26
 have HR0_0:=Aside0.mk hr0_0
 have HC0_0:=Aside0.mk hc0_0
 clear hr0_0 hc0_0
 have HR1:=Aside0.mk hr1
 have HC1:=Aside0.mk hc1
 clear hr1 hc1
 have HB:=Aside0.mk (Below.refl w.heap.size w)
 have H:(if (l1.length:Int) ≤ 8 then ((impl_Sign_isClause_1_any.f k l1 l0_0).bind fun t525=>(some (!t525))) else (some false)) = some r:=h
 clear h
 by_cases c3:(l1.length:Int) ≤ 8
 ·rw [if_pos c3] at H
  have c3b0:=decide_eq_true c3
  have c3b1:decide (l1.length ≤ 8) = true:=decide_eq_true (by omega)
  clear c3
  replace H:=Option.bind_eq_some_iff.mp H
  obtain ⟨t525,A40,H⟩:=H
  replace H:(some (!t525)) = some r:=H
  have A4:=Aside0.mk A40
  clear A40
  obtain rfl:=Option.some.inj H
  go_enter Try.func50,Try.ntmps50
  go_wp2_with (first|((with_reducible refine gate_dst (N:=2) rfl ?_);refine box_event ?hg (N:=2) ?hd (cs:=#[.slice A0_0 l0_0.length c0_0]) (t:=26) ?hr ?_;(case hd=>rfl);(case hg=>rfl);(case hr=>exact Yd);intro gb524 hg w5 hbox hb;have BK524:=Aside0.mk (hbox);have GW524:=Aside0.mk ((hZ:w.heap.size ≤ gb524));have GE524:=Aside0.mk ((hZ:w.heap.size ≤ gb524));replace HB:=Aside0.mk (below_step bH hb);clear hb hbox hg)|(go_at_call 88;(with_reducible refine (impl_Sign_isClause_1_any.calls k _ _ l1 A0_0 c0_0 l0_0 gb524 t525 _ ?side1 ?side2 ?side3 ?side4 ?side5 A4.out).mono ?_);(case side1=>exact sC HR1);(case side2=>exact HC1.out);(case side3=>exact Yv);(case side4=>exact Yu);(case side5=>(with_reducible repeat (first|refine blk_drewN ?_ _|refine blk_drew ?_|refine blk_alloc ?_ _));exact BK524.out);rintro e w6 ⟨rfl,hb⟩;replace BK524:=Aside0.mk (blk_below (bB BK524) hb);replace HB:=Aside0.mk (below_step bH hb);(try clear hb);(try clear hb2);(try clear hk);(try clear hi)))
  go_ret
  exact ⟨Yb,bH⟩
 ·rw [if_neg c3] at H
  have c3b0:decide ((l1.length:Int) ≤ 8) = false:=decide_eq_false c3
  have c3b1:decide (l1.length ≤ 8) = false:=decide_eq_false (by omega)
  clear c3
  obtain rfl:=Option.some.inj H
  go_enter Try.func50,Try.ntmps50
  go_wp2_with (first|((with_reducible refine gate_dst (N:=2) rfl ?_);refine box_event ?hg (N:=2) ?hd (cs:=#[.slice A0_0 l0_0.length c0_0]) (t:=26) ?hr ?_;(case hd=>rfl);(case hg=>rfl);(case hr=>exact Yd);intro gb524 hg w7 hbox hb;have BK524:=Aside0.mk (hbox);have GW524:=Aside0.mk ((hZ:w.heap.size ≤ gb524));have GE524:=Aside0.mk ((hZ:w.heap.size ≤ gb524));replace HB:=Aside0.mk (below_step bH hb);clear hb hbox hg))
  go_ret
  exact ⟨Yb,bH⟩

/-! ### impl_Sign_holdsAt_1: function 91 -/
def impl_Sign_holdsAt_1.f (k:Nat) (a0_0:Bool) (l0_1:List Int) (l0_2:List Int) (l1_0:List Int) (a2_0:Int) (l2_1:List (List Int)) (l3:List Int):Option (Bool):=(impl_Sign_value.f k l1_0 a2_0 l2_1 l0_1 l3).bind fun t527=>((impl_Sign_value.f k l1_0 a2_0 l2_1 l0_2 l3).bind fun t528=>(some ((t527 == t528) == a0_0)))
theorem impl_Sign_holdsAt_1.mono:∀ a0 a1 a2 a3 a4 a5 a6 k,LeO (impl_Sign_holdsAt_1.f k a0 a1 a2 a3 a4 a5 a6) (impl_Sign_holdsAt_1.f (k + 1) a0 a1 a2 a3 a4 a5 a6):=by
 intro a0 a1 a2 a3 a4 a5 a6 k
 unfold impl_Sign_holdsAt_1.f
 have m0:=@impl_Sign_value.mono
 exact mO
def impl_Sign_holdsAt_1.T1:Bool × List (List Nat × List Nat):=(true,[([],[]),([],[]),([],[]),([2],[2]),([],[]),([0,1,3,4],[0,1,3,4]),([],[]),([],[]),([],[]),([8],[8]),([],[]),([6,7,9,10,5],[6,7,9,10]),([5,11],[5,11]),([],[]),([13],[13]),([12,14],[12,14]),([15,11,0,1,2,3,4,5,6,7,8,9,10,11,12,13,14,15],[15])])
def impl_Sign_holdsAt_1.B1:List Nat:=[0,0,0,4,0,31,0,0,0,256,0,2047,4095,0,8192,32767,65535]
theorem impl_Sign_holdsAt_1.tab1:rtab .any (opsOf Try.f91 1) = impl_Sign_holdsAt_1.T1:=by kernel_rfl
theorem impl_Sign_holdsAt_1.bits1:waitsOk impl_Sign_holdsAt_1.T1.2 impl_Sign_holdsAt_1.B1 = true:=by kernel_rfl
set_option maxHeartbeats 8000000 in
set_option maxRecDepth 100000 in
theorem impl_Sign_holdsAt_1.calls (k:Nat) (a0_0:Bool) (A0_1:Option Addr) (c0_1:Nat) (l0_1:List Int) (A0_2:Option Addr) (c0_2:Nat) (l0_2:List Int) (g1_:Nat) (A1_0:Option Addr) (c1_0:Nat) (l1_0:List Int) (g2_:Nat) (a2_0:Int) (A2_1:Option Addr) (c2_1:Nat) (l2_1:List (List Int)) (g3_:Nat) (A3:Option Addr) (c3:Nat) (l3:List Int) (r:Bool) (w:World) (hr0_1:Kd.C (Kd.int .i64) w A0_1 l0_1.length l0_1) (hc0_1:l0_1.length ≤ c0_1) (hr0_2:Kd.C (Kd.int .i64) w A0_2 l0_2.length l0_2) (hc0_2:l0_2.length ≤ c0_2) (hr1_0:Kd.C (Kd.int .i64) w A1_0 l1_0.length l1_0) (hc1_0:l1_0.length ≤ c1_0) (hr2_1:Kd.C (Kd.slice 3 (Kd.int .i64)) w A2_1 l2_1.length l2_1) (hc2_1:l2_1.length ≤ c2_1) (hr3:Kd.C (Kd.int .i64) w A3 l3.length l3) (hc3:l3.length ≤ c3) (hg1:w.heap[g1_]? = some (.cells #[.slice A1_0 l1_0.length c1_0] 26 (0,0))) (hg2:w.heap[g2_]? = some (.cells #[.int .i64 a2_0,.slice A2_1 l2_1.length c2_1] 31 (0,0))) (hg3:w.heap[g3_]? = some (.cells #[.slice A3 l3.length c3] 24 (0,0))) (h:impl_Sign_holdsAt_1.f k a0_0 l0_1 l0_2 l1_0 a2_0 l2_1 l3 = some r) :
  Calls Try.prog 91 #[.agg #[.bool a0_0,.slice A0_1 l0_1.length c0_1,.slice A0_2 l0_2.length c0_2],.pointer (some ⟨g1_,0,none⟩),.pointer (some ⟨g2_,0,none⟩),.pointer (some ⟨g3_,0,none⟩)] w fun e w'=>e = .returned (.bool r) ∧ Below w.heap.size w w':=by
 have hu83:=Try.underlying83
 have hu26:=Try.underlying26
 have hu31:=Try.underlying31
 have HR0_1:=Aside0.mk hr0_1
 have HC0_1:=Aside0.mk hc0_1
 clear hr0_1 hc0_1
 have HR0_2:=Aside0.mk hr0_2
 have HC0_2:=Aside0.mk hc0_2
 clear hr0_2 hc0_2
 have HR1_0:=Aside0.mk hr1_0
 have HC1_0:=Aside0.mk hc1_0
 clear hr1_0 hc1_0
 have HR2_1:=Aside0.mk hr2_1
 have HC2_1:=Aside0.mk hc2_1
 clear hr2_1 hc2_1
 have HR3:=Aside0.mk hr3
 have HC3:=Aside0.mk hc3
 clear hr3 hc3
 have BK1:=Aside0.mk hg1
 have BK2:=Aside0.mk hg2
 have BK3:=Aside0.mk hg3
 have NB1_2:=Aside0.mk (show g1_ ≠ g2_ from fun e_=>by have h_:=hg1;rw [e_,hg2] at h_;simp at h_)
 have NB1_3:=Aside0.mk (show g1_ ≠ g3_ from fun e_=>by have h_:=hg1;rw [e_,hg3] at h_;simp at h_)
 have NB2_1:=Aside0.mk (show g2_ ≠ g1_ from fun e_=>by have h_:=hg2;rw [e_,hg1] at h_;simp at h_)
 have NB2_3:=Aside0.mk (show g2_ ≠ g3_ from fun e_=>by have h_:=hg2;rw [e_,hg3] at h_;simp at h_)
 have NB3_1:=Aside0.mk (show g3_ ≠ g1_ from fun e_=>by have h_:=hg3;rw [e_,hg1] at h_;simp at h_)
 have NB3_2:=Aside0.mk (show g3_ ≠ g2_ from fun e_=>by have h_:=hg3;rw [e_,hg2] at h_;simp at h_)
 clear hg1
 clear hg2
 clear hg3
 have HB:=Aside0.mk (Below.refl w.heap.size w)
 have H:((impl_Sign_value.f k l1_0 a2_0 l2_1 l0_1 l3).bind fun t527=>((impl_Sign_value.f k l1_0 a2_0 l2_1 l0_2 l3).bind fun t528=>(some ((t527 == t528) == a0_0)))) = some r:=h
 clear h
 replace H:=Option.bind_eq_some_iff.mp H
 obtain ⟨t527,A50,H⟩:=H
 replace H:((impl_Sign_value.f k l1_0 a2_0 l2_1 l0_2 l3).bind fun t528=>(some ((t527 == t528) == a0_0))) = some r:=H
 have A5:=Aside0.mk A50
 clear A50
 replace H:=Option.bind_eq_some_iff.mp H
 obtain ⟨t528,A60,H⟩:=H
 replace H:(some ((t527 == t528) == a0_0)) = some r:=H
 have A6:=Aside0.mk A60
 clear A60
 obtain rfl:=Option.some.inj H
 go_enter Try.func91,Try.ntmps91
 try go_wp2_with (first|((with_reducible refine gate_dst (N:=4) rfl ?_);refine box_event ?hg (N:=4) ?hd (cs:=#[.bool a0_0,.slice A0_1 l0_1.length c0_1,.slice A0_2 l0_2.length c0_2]) (t:=83) ?hr ?_;(case hd=>rfl);(case hg=>rfl);(case hr=>exact Yd);intro gb526 hg w7 hbox hb;have BK526:=Aside0.mk (hbox);have GW526:=Aside0.mk ((hZ:w.heap.size ≤ gb526));have GE526:=Aside0.mk ((hZ:w.heap.size ≤ gb526));replace HB:=Aside0.mk (below_step bH hb);have NB1_526:=Aside0.mk ((nL BK1:g1_ ≠ gb526));have NB526_1:=Aside0.mk ((nG BK1:gb526 ≠ g1_));replace BK1:=Aside0.mk (blk_below (bB BK1) hb);have NB2_526:=Aside0.mk ((nL BK2:g2_ ≠ gb526));have NB526_2:=Aside0.mk ((nG BK2:gb526 ≠ g2_));replace BK2:=Aside0.mk (blk_below (bB BK2) hb);have NB3_526:=Aside0.mk ((nL BK3:g3_ ≠ gb526));have NB526_3:=Aside0.mk ((nG BK3:gb526 ≠ g3_));replace BK3:=Aside0.mk (blk_below (bB BK3) hb);clear hb hbox hg))
 replace BK1:=Aside0.mk (blk_drew BK1.out);replace BK2:=Aside0.mk (blk_drew BK2.out);replace BK3:=Aside0.mk (blk_drew BK3.out);replace BK526:=Aside0.mk (blk_drew BK526.out);replace HB:=Aside0.mk (below_drew1 HB.out)
 refine start_ (n:=17) (S:=fun w'=>w'.cell? ⟨g1_,0,none⟩ = some (.slice A1_0 l1_0.length c1_0) ∧ w'.cell? ⟨g2_,0,none⟩ = some (.int .i64 a2_0) ∧ w'.cell? ⟨g2_,1,none⟩ = some (.slice A2_1 l2_1.length c2_1) ∧ w'.cell? ⟨gb526,0,none⟩ = some (.bool a0_0) ∧ w'.cell? ⟨gb526,1,none⟩ = some (.slice A0_1 l0_1.length c0_1) ∧ w'.cell? ⟨gb526,2,none⟩ = some (.slice A0_2 l0_2.length c0_2) ∧ w'.cell? ⟨g3_,0,none⟩ = some (.slice A3 l3.length c3)) (ds:=[]) #[false,false,false,false,false,false,false,false,false,false,false,false,false,false,false,false,false] (by kernel_rfl) rfl rfl ⟨(blk_cell BK1.out 0).trans rfl,(blk_cell BK2.out 0).trans rfl,(blk_cell BK2.out 1).trans rfl,(blk_cell BK526.out 0).trans rfl,(blk_cell BK526.out 1).trans rfl,(blk_cell BK526.out 2).trans rfl,(blk_cell BK3.out 0).trans rfl⟩ (fun hHeld=>?_);refine with_tabW impl_Sign_holdsAt_1.tab1 impl_Sign_holdsAt_1.bits1 (fun HT_ HW_=>?_)
 generalize w7.drew = w8 at BK1 BK2 BK3 BK526 HB hHeld ⊢
 refine pU (i:=2) (N:=some 8) #[false,false,true,false,false,false,false,false,false,false,false,false,false,false,false,false,false] (any_of HT_.out (by kernel_rfl)) ?_
 refine pU (i:=8) (N:=some 14) #[false,false,true,false,false,false,false,false,true,false,false,false,false,false,false,false,false] (any_of HT_.out (by kernel_rfl)) ?_
 refine pU (i:=13) (N:=some 19) #[false,false,true,false,false,false,false,false,true,false,false,false,false,true,false,false,false] (any_of HT_.out (by kernel_rfl)) ?_
 refine take_ (i:=0) (N:=some 6) (v:=?_) (a':=?_) #[true,false,true,false,false,false,false,false,true,false,false,false,false,true,false,false,false] rfl rfl (take_ofW HT_.out HW_.out (by kernel_rfl)) (fun _ _ _ h=>h) (Or.inl ⟨by rfl,?_⟩) hHeld ?_ ?_
 rotate_left
 ·rintro w' ⟨s0,s1,s2,s3,s4,s5,s6⟩
  go_simp
  with_reducible rfl
 rotate_left
 ·simp only [Act.put,List.setIfInBounds_toArray,List.set_cons_zero,List.set_cons_succ,i64_w,i32_w]
  rfl
 refine take_ (i:=1) (N:=some 7) (v:=?_) (a':=?_) #[true,true,true,false,false,false,false,false,true,false,false,false,false,true,false,false,false] rfl rfl (take_ofW HT_.out HW_.out (by kernel_rfl)) (fun _ _ _ h=>h) (Or.inl ⟨by rfl,?_⟩) hHeld ?_ ?_
 rotate_left
 ·rintro w' ⟨s0,s1,s2,s3,s4,s5,s6⟩
  go_simp
  with_reducible rfl
 rotate_left
 ·simp only [Act.put,List.setIfInBounds_toArray,List.set_cons_zero,List.set_cons_succ,i64_w,i32_w]
  rfl
 refine take_ (i:=3) (N:=some 9) (v:=?_) (a':=?_) #[true,true,true,true,false,false,false,false,true,false,false,false,false,true,false,false,false] rfl rfl (take_ofW HT_.out HW_.out (by kernel_rfl)) (fun _ _ _ h=>h) (Or.inl ⟨by rfl,?_⟩) hHeld ?_ ?_
 rotate_left
 ·rintro w' ⟨s0,s1,s2,s3,s4,s5,s6⟩
  go_simp
  with_reducible rfl
 rotate_left
 ·simp only [Act.put,List.setIfInBounds_toArray,List.set_cons_zero,List.set_cons_succ,i64_w,i32_w]
  rfl
 refine take_ (i:=4) (N:=some 10) (v:=?_) (a':=?_) #[true,true,true,true,true,false,false,false,true,false,false,false,false,true,false,false,false] rfl rfl (take_ofW HT_.out HW_.out (by kernel_rfl)) (fun _ _ _ h=>h) (Or.inl ⟨by rfl,?_⟩) hHeld ?_ ?_
 rotate_left
 ·rintro w' ⟨s0,s1,s2,s3,s4,s5,s6⟩
  go_simp
  with_reducible rfl
 rotate_left
 ·simp only [Act.put,List.setIfInBounds_toArray,List.set_cons_zero,List.set_cons_succ,i64_w,i32_w]
  rfl
 refine take_ (i:=6) (N:=some 12) (v:=?_) (a':=?_) #[true,true,true,true,true,false,true,false,true,false,false,false,false,true,false,false,false] rfl rfl (take_ofW HT_.out HW_.out (by kernel_rfl)) (fun _ _ _ h=>h) (Or.inl ⟨by rfl,?_⟩) hHeld ?_ ?_
 rotate_left
 ·rintro w' ⟨s0,s1,s2,s3,s4,s5,s6⟩
  go_simp
  with_reducible rfl
 rotate_left
 ·simp only [Act.put,List.setIfInBounds_toArray,List.set_cons_zero,List.set_cons_succ,i64_w,i32_w]
  rfl
 refine take_ (i:=7) (N:=some 13) (v:=?_) (a':=?_) #[true,true,true,true,true,false,true,true,true,false,false,false,false,true,false,false,false] rfl rfl (take_ofW HT_.out HW_.out (by kernel_rfl)) (fun _ _ _ h=>h) (Or.inl ⟨by rfl,?_⟩) hHeld ?_ ?_
 rotate_left
 ·rintro w' ⟨s0,s1,s2,s3,s4,s5,s6⟩
  go_simp
  with_reducible rfl
 rotate_left
 ·simp only [Act.put,List.setIfInBounds_toArray,List.set_cons_zero,List.set_cons_succ,i64_w,i32_w]
  rfl
 refine take_ (i:=9) (N:=some 15) (v:=?_) (a':=?_) #[true,true,true,true,true,false,true,true,true,true,false,false,false,true,false,false,false] rfl rfl (take_ofW HT_.out HW_.out (by kernel_rfl)) (fun _ _ _ h=>h) (Or.inl ⟨by rfl,?_⟩) hHeld ?_ ?_
 rotate_left
 ·rintro w' ⟨s0,s1,s2,s3,s4,s5,s6⟩
  go_simp
  with_reducible rfl
 rotate_left
 ·simp only [Act.put,List.setIfInBounds_toArray,List.set_cons_zero,List.set_cons_succ,i64_w,i32_w]
  rfl
 refine take_ (i:=10) (N:=some 16) (v:=?_) (a':=?_) #[true,true,true,true,true,false,true,true,true,true,true,false,false,true,false,false,false] rfl rfl (take_ofW HT_.out HW_.out (by kernel_rfl)) (fun _ _ _ h=>h) (Or.inl ⟨by rfl,?_⟩) hHeld ?_ ?_
 rotate_left
 ·rintro w' ⟨s0,s1,s2,s3,s4,s5,s6⟩
  go_simp
  with_reducible rfl
 rotate_left
 ·simp only [Act.put,List.setIfInBounds_toArray,List.set_cons_zero,List.set_cons_succ,i64_w,i32_w]
  rfl
 refine take_ (i:=14) (N:=some 20) (v:=?_) (a':=?_) #[true,true,true,true,true,false,true,true,true,true,true,false,false,true,true,false,false] rfl rfl (take_ofW HT_.out HW_.out (by kernel_rfl)) (fun _ _ _ h=>h) (Or.inl ⟨by rfl,?_⟩) hHeld ?_ ?_
 rotate_left
 ·rintro w' ⟨s0,s1,s2,s3,s4,s5,s6⟩
  go_simp
  with_reducible rfl
 rotate_left
 ·simp only [Act.put,List.setIfInBounds_toArray,List.set_cons_zero,List.set_cons_succ,i64_w,i32_w]
  rfl
 refine one_ (i:=5) (N:=some 11) #[true,true,true,true,true,true,true,true,true,true,true,false,false,true,true,false,false] rfl rfl (one_of HT_.out (by kernel_rfl)) (by decide) (fun K hK=>?_)
 refine goes_ Try.func43 (by kernel_rfl) rfl #[.agg #[.slice A1_0 l1_0.length c1_0],.agg #[.int .i64 a2_0,.slice A2_1 l2_1.length c2_1],.slice A0_1 l0_1.length c0_1,.slice A3 l3.length c3] (by rfl) rfl rfl Ya ?_
 with_reducible refine (impl_Sign_value.calls k _ _ l1_0 a2_0 _ _ l2_1 _ _ l0_1 _ _ l3 t527 _ ?side1 ?side2 ?side3 ?side4 ?side5 ?side6 ?side7 ?side8 A5.out).mono ?_
 (case side1=>exact sC HR1_0)
 (case side2=>exact Zh)
 (case side3=>exact sC HR2_1)
 (case side4=>exact HC2_1.out)
 (case side5=>exact sC HR0_1)
 (case side6=>exact HC0_1.out)
 (case side7=>exact sC HR3)
 (case side8=>exact HC3.out)
 rintro e w9 ⟨rfl,hb⟩
 refine ⟨_,rfl,?_⟩
 replace BK1:=Aside0.mk (blk_below (bB BK1) hb);replace BK2:=Aside0.mk (blk_below (bB BK2) hb);replace BK3:=Aside0.mk (blk_below (bB BK3) hb);replace BK526:=Aside0.mk (blk_below (bB BK526) hb);replace HB:=Aside0.mk (below_step bH hb)
 (try clear hb)
 (try clear hb2)
 (try clear hk)
 (try clear hi)
 refine hK.out _ _ ⟨(blk_cell BK1.out 0).trans rfl,(blk_cell BK2.out 0).trans rfl,(blk_cell BK2.out 1).trans rfl,(blk_cell BK526.out 0).trans rfl,(blk_cell BK526.out 1).trans rfl,(blk_cell BK526.out 2).trans rfl,(blk_cell BK3.out 0).trans rfl⟩ (fun hHeld=>?_)
 clear hK K
 refine nM (N:=some 11) ?_
 refine one_ (i:=11) (N:=some 17) #[true,true,true,true,true,true,true,true,true,true,true,true,false,true,true,false,false] rfl rfl (one_of HT_.out (by kernel_rfl)) (by decide) (fun K hK=>?_)
 refine goes_ Try.func43 (by kernel_rfl) rfl #[.agg #[.slice A1_0 l1_0.length c1_0],.agg #[.int .i64 a2_0,.slice A2_1 l2_1.length c2_1],.slice A0_2 l0_2.length c0_2,.slice A3 l3.length c3] (by rfl) rfl rfl Ya ?_
 with_reducible refine (impl_Sign_value.calls k _ _ l1_0 a2_0 _ _ l2_1 _ _ l0_2 _ _ l3 t528 _ ?side1 ?side2 ?side3 ?side4 ?side5 ?side6 ?side7 ?side8 A6.out).mono ?_
 (case side1=>exact sC HR1_0)
 (case side2=>exact Zh)
 (case side3=>exact sC HR2_1)
 (case side4=>exact HC2_1.out)
 (case side5=>exact sC HR0_2)
 (case side6=>exact HC0_2.out)
 (case side7=>exact sC HR3)
 (case side8=>exact HC3.out)
 rintro e w10 ⟨rfl,hb⟩
 refine ⟨_,rfl,?_⟩
 replace BK1:=Aside0.mk (blk_below (bB BK1) hb);replace BK2:=Aside0.mk (blk_below (bB BK2) hb);replace BK3:=Aside0.mk (blk_below (bB BK3) hb);replace BK526:=Aside0.mk (blk_below (bB BK526) hb);replace HB:=Aside0.mk (below_step bH hb)
 (try clear hb)
 (try clear hb2)
 (try clear hk)
 (try clear hi)
 refine hK.out _ _ ⟨(blk_cell BK1.out 0).trans rfl,(blk_cell BK2.out 0).trans rfl,(blk_cell BK2.out 1).trans rfl,(blk_cell BK526.out 0).trans rfl,(blk_cell BK526.out 1).trans rfl,(blk_cell BK526.out 2).trans rfl,(blk_cell BK3.out 0).trans rfl⟩ (fun hHeld=>?_)
 clear hK K
 refine nM (N:=some 17) ?_
 refine pU (i:=12) (N:=some 18) #[true,true,true,true,true,true,true,true,true,true,true,true,true,true,true,false,false] (any_of HT_.out (by kernel_rfl)) ?_
 refine pU (i:=15) (N:=some 21) #[true,true,true,true,true,true,true,true,true,true,true,true,true,true,true,true,false] (any_of HT_.out (by kernel_rfl)) ?_
 refine pU (i:=16) (N:=some 5) #[true,true,true,true,true,true,true,true,true,true,true,true,true,true,true,true,true] (any_of HT_.out (by kernel_rfl)) ?_
 refine done_ (done_of HT_.out (by kernel_rfl)) ?_
 try go_wp2
 go_ret
 exact ⟨Yb,bH⟩


/-! ### impl_Sign_holdsAt_1_any: function 1000004 -/
def impl_Sign_holdsAt_1_any.f (k:Nat) (l0:List (S83)) (l1_0:List Int) (a2_0:Int) (l2_1:List (List Int)) (l3:List Int):Option (Bool):=anyO (fun x=>impl_Sign_holdsAt_1.f k x.f0 x.f1 x.f2 l1_0 a2_0 l2_1 l3) l0
theorem impl_Sign_holdsAt_1_any.mono:∀ a0 a1 a2 a3 a4 k,LeO (impl_Sign_holdsAt_1_any.f k a0 a1 a2 a3 a4) (impl_Sign_holdsAt_1_any.f (k + 1) a0 a1 a2 a3 a4):=by
 intro a0 a1 a2 a3 a4 k
 unfold impl_Sign_holdsAt_1_any.f
 exact anyO_mono (fun x=>impl_Sign_holdsAt_1.mono _ _ _ _ _ _ _ k) _
theorem impl_Sign_holdsAt_1_any.calls (k:Nat) (A0:Option Addr) (c0:Nat) (l0:List (S83)) (A1_0:Option Addr) (c1_0:Nat) (l1_0:List Int) (a2_0:Int) (A2_1:Option Addr) (c2_1:Nat) (l2_1:List (List Int)) (A3:Option Addr) (c3:Nat) (l3:List Int) (g1_:Nat) (g2_:Nat) (g3_:Nat) (r:Bool) (w:World) (hr0:Kd.C k83 w A0 l0.length l0) (hc0:l0.length ≤ c0) (hr1_0:Kd.C (Kd.int .i64) w A1_0 l1_0.length l1_0) (hc1_0:l1_0.length ≤ c1_0) (hr2_1:Kd.C (Kd.slice 3 (Kd.int .i64)) w A2_1 l2_1.length l2_1) (hc2_1:l2_1.length ≤ c2_1) (hr3:Kd.C (Kd.int .i64) w A3 l3.length l3) (hc3:l3.length ≤ c3) (hg1:w.heap[g1_]? = some (.cells #[.slice A1_0 l1_0.length c1_0] 26 (0,0))) (hg2:w.heap[g2_]? = some (.cells #[.int .i64 a2_0,.slice A2_1 l2_1.length c2_1] 31 (0,0))) (hg3:w.heap[g3_]? = some (.cells #[.slice A3 l3.length c3] 24 (0,0))) (h:impl_Sign_holdsAt_1_any.f k l0 l1_0 a2_0 l2_1 l3 = some r) :
  Calls Try.prog 88 #[.slice A0 l0.length c0,.func (.func 91) #[] #[.pointer (some ⟨g1_,0,none⟩),.pointer (some ⟨g2_,0,none⟩),.pointer (some ⟨g3_,0,none⟩)]] w fun e w'=>e = .returned (.bool r) ∧ Below w.heap.size w w':=by
 exact any88 91 #[.pointer (some ⟨g1_,0,none⟩),.pointer (some ⟨g2_,0,none⟩),.pointer (some ⟨g3_,0,none⟩)] (enters_of Try.func91 (by kernel_rfl) rfl) (fun x=>impl_Sign_holdsAt_1.f k x.f0 x.f1 x.f2 l1_0 a2_0 l2_1 l3) A0 c0 l0 r w hr0 hc0 (fun W x b E1 e1 E2 e2 hW hE1 he1 hE2 he2 hx=>(impl_Sign_holdsAt_1.calls k x.f0 E1 e1 x.f1 E2 e2 x.f2 g1_ A1_0 c1_0 l1_0 g2_ a2_0 A2_1 c2_1 l2_1 g3_ A3 c3 l3 b W hE1 he1 hE2 he2 (Kd.C_below hr1_0 hW) hc1_0 (Kd.C_below hr2_1 hW) hc2_1 (Kd.C_below hr3 hW) hc3 ((hW.block _ (Array.getElem?_eq_some_iff.1 hg1).1).trans hg1) ((hW.block _ (Array.getElem?_eq_some_iff.1 hg2).1).trans hg2) ((hW.block _ (Array.getElem?_eq_some_iff.1 hg3).1).trans hg3) hx).mono fun _ _ h_=>⟨h_.1,h_.2⟩) h

end Go.Proofs.Ytmgkflkfoccgkaa.QFnPutFor
