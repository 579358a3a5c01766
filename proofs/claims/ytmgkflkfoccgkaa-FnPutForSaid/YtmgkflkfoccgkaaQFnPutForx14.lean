-- Written by this session's own program (wip/x/xprint.py, over the kit's printer); Lean checks it.
import Derived.Test.YtmgkflkfoccgkaaQFnPutForx0
import Derived.Test.YtmgkflkfoccgkaaQFnPutForx1
import Derived.Test.YtmgkflkfoccgkaaQFnPutForx3
import Derived.Test.YtmgkflkfoccgkaaQFnPutForx13
namespace Go.Proofs.Ytmgkflkfoccgkaa.QFnPutFor
open Go.RowKit Go.Proofs.YtmgkflkfoccgkaaW.PrintWords Go.Proofs.YtmgkflkfoccgkaaW.PrintLast Go.Proofs.YtmgkflkfoccgkaaW.PrintMore
attribute [local go_sem] max2_int min2_int max_two min_two max_three min_three max_four min_four   -- for this text's walks alone
set_option linter.unusedVariables false
set_option linter.unusedSimpArgs false

/-! ### spec_l1Cur_clause: function 49 -/
mutual
def spec_l1Cur_clause.l0:Nat → List (S83) → Int → List Int → Int → Int → List Int → Option ((List (S83)) × Int × Int)
 | 0,_,_,_,_,_,_=>none
 | k + 1,x5,x6,x1000,x1001,x1002,x431000=>if x6 > 0 then ((spec_l1Cur_lit.f k x1000 x1001 x1002 x431000).bind fun bt437=>(if x5.length < 2513169434916 then (spec_l1Cur_clause.l0 k (x5 ++ [(⟨bt437.1,bt437.2.1,bt437.2.2.1⟩:S83)]) (wrap64 (x6 - 1)) x1000 bt437.2.2.2.1 bt437.2.2.2.2 x431000) else (none))) else (if (x5.length:Int) > 0 then ((spec_l1Cur_one.f x1000 x1001 x1002 6).bind fun bt449=>(spec_l1Cur_clause.j1 k x5 bt449.1 x1000 bt449.2.1 bt449.2.2 x431000)) else (spec_l1Cur_clause.j1 k x5 false x1000 x1001 x1002 x431000))
def spec_l1Cur_clause.j1:Nat → List (S83) → Bool → List Int → Int → Int → List Int → Option ((List (S83)) × Int × Int)
 | 0,_,_,_,_,_,_=>none
 | k + 1,x5,x27,x1000,x1001,x1002,x431000=>if x27 = true then ((spec_l1Cur_pick.f x1000 x1001 x1002 (x5.length:Int)).bind fun bt452=>(if 0 ≤ bt452.1 then (if bt452.1 < (x5.length:Int) then ((spec_l1Cur_one.f x1000 bt452.2.1 bt452.2.2 3).bind fun bt457=>(if x5.length < 2513169434916 then (spec_l1Cur_clause.j2 k (x5 ++ [(⟨(((rd_T83 x5 bt452.1).f0) != bt457.1),(rd_T83 x5 bt452.1).f2,(rd_T83 x5 bt452.1).f1⟩:S83)]) x1000 bt457.2.1 bt457.2.2 x431000) else (none))) else (none)) else (none))) else (spec_l1Cur_clause.j2 k x5 x1000 x1001 x1002 x431000)
def spec_l1Cur_clause.j2:Nat → List (S83) → List Int → Int → Int → List Int → Option ((List (S83)) × Int × Int)
 | 0,_,_,_,_,_=>none
 | k + 1,x5,x1000,x1001,x1002,x431000=>if (x5.length:Int) > 0 then ((spec_l1Cur_one.f x1000 x1001 x1002 12).bind fun bt463=>(spec_l1Cur_clause.j3 k x5 bt463.1 x1000 bt463.2.1 bt463.2.2 x431000)) else (spec_l1Cur_clause.j3 k x5 false x1000 x1001 x1002 x431000)
def spec_l1Cur_clause.j3:Nat → List (S83) → Bool → List Int → Int → Int → List Int → Option ((List (S83)) × Int × Int)
 | 0,_,_,_,_,_,_=>none
 | k + 1,x5,x54,x1000,x1001,x1002,x431000=>if x54 = true then (if 0 < (x5.length:Int) then (spec_l1Cur_clause.j4 k (x5.set (0:Int).toNat (⟨(rd_T83 x5 0).f0,(rd_T83 x5 0).f1,(rd_T83 x5 0).f1⟩:S83)) x1000 x1001 x1002 x431000) else (none)) else (spec_l1Cur_clause.j4 k x5 x1000 x1001 x1002 x431000)
def spec_l1Cur_clause.j4:Nat → List (S83) → List Int → Int → Int → List Int → Option ((List (S83)) × Int × Int)
 | 0,_,_,_,_,_=>none
 | k + 1,x5,x1000,x1001,x1002,x431000=>(spec_l1Cur_pick.f x1000 x1001 x1002 60).bind fun bt468=>(if bt468.1 = 0 then (spec_l1Cur_clause.l1 k x5 x1000 bt468.2.1 bt468.2.2 x431000) else (if bt468.1 = 1 then (if x5.length < 2513169434916 then (some ((x5 ++ [(⟨false,(([0]:List Int)),([]:List Int)⟩:S83)]),bt468.2.1,bt468.2.2)) else (none)) else (some (x5,bt468.2.1,bt468.2.2))))
def spec_l1Cur_clause.l1:Nat → List (S83) → List Int → Int → Int → List Int → Option ((List (S83)) × Int × Int)
 | 0,_,_,_,_,_=>none
 | k + 1,x5,x1000,x1001,x1002,x431000=>(spec_l1Cur_pick.f x1000 x1001 x1002 2).bind fun bt471=>(if (x5.length:Int) < (wrap64 (8 + bt471.1)) then ((spec_l1Cur_lit.f k x1000 bt471.2.1 bt471.2.2 x431000).bind fun bt474=>(if x5.length < 2513169434916 then (spec_l1Cur_clause.l1 k (x5 ++ [(⟨bt474.1,bt474.2.1,bt474.2.2.1⟩:S83)]) x1000 bt474.2.2.2.1 bt474.2.2.2.2 x431000) else (none))) else (some (x5,bt471.2.1,bt471.2.2)))
end
def spec_l1Cur_clause.f (k:Nat) (s0_0:List Int) (s0_1:Int) (s0_2:Int) (l1_0:List Int):Option ((List (S83)) × Int × Int):=(spec_l1Cur_among.f s0_0 s0_1 s0_2 (([0,1,1,1,2,2,3]:List Int))).bind fun bt434=>(spec_l1Cur_clause.l0 k ([]:List (S83)) bt434.1 s0_0 bt434.2.1 bt434.2.2 l1_0)
theorem spec_l1Cur_clause.mono_l:∀ k,(∀ y0 y1 y2 y3 y4 y5,LeO (spec_l1Cur_clause.l0 k y0 y1 y2 y3 y4 y5) (spec_l1Cur_clause.l0 (k + 1) y0 y1 y2 y3 y4 y5)) ∧ (∀ y0 y1 y2 y3 y4 y5,LeO (spec_l1Cur_clause.j1 k y0 y1 y2 y3 y4 y5) (spec_l1Cur_clause.j1 (k + 1) y0 y1 y2 y3 y4 y5)) ∧ (∀ y0 y1 y2 y3 y4,LeO (spec_l1Cur_clause.j2 k y0 y1 y2 y3 y4) (spec_l1Cur_clause.j2 (k + 1) y0 y1 y2 y3 y4)) ∧ (∀ y0 y1 y2 y3 y4 y5,LeO (spec_l1Cur_clause.j3 k y0 y1 y2 y3 y4 y5) (spec_l1Cur_clause.j3 (k + 1) y0 y1 y2 y3 y4 y5)) ∧ (∀ y0 y1 y2 y3 y4,LeO (spec_l1Cur_clause.j4 k y0 y1 y2 y3 y4) (spec_l1Cur_clause.j4 (k + 1) y0 y1 y2 y3 y4)) ∧ (∀ y0 y1 y2 y3 y4,LeO (spec_l1Cur_clause.l1 k y0 y1 y2 y3 y4) (spec_l1Cur_clause.l1 (k + 1) y0 y1 y2 y3 y4))
 | 0=>⟨fun _ _ _ _ _ _ r h=>by simp [spec_l1Cur_clause.l0] at h,fun _ _ _ _ _ _ r h=>by simp [spec_l1Cur_clause.j1] at h,fun _ _ _ _ _ r h=>by simp [spec_l1Cur_clause.j2] at h,fun _ _ _ _ _ _ r h=>by simp [spec_l1Cur_clause.j3] at h,fun _ _ _ _ _ r h=>by simp [spec_l1Cur_clause.j4] at h,fun _ _ _ _ _ r h=>by simp [spec_l1Cur_clause.l1] at h⟩
 | k + 1=>by
  obtain ⟨ih0,ih1,ih2,ih3,ih4,ih5⟩:=spec_l1Cur_clause.mono_l k
  refine ⟨?_,?_,?_,?_,?_,?_⟩
  ·intro y0 y1 y2 y3 y4 y5
   unfold spec_l1Cur_clause.l0
   have m0:=@ih4
   have m1:=@ih5
   have m2:=@spec_l1Cur_lit.mono
   exact mO
  ·intro y0 y1 y2 y3 y4 y5
   unfold spec_l1Cur_clause.j1
   have m0:=@ih4
   have m1:=@ih5
   have m2:=@spec_l1Cur_lit.mono
   exact mO
  ·intro y0 y1 y2 y3 y4
   unfold spec_l1Cur_clause.j2
   have m0:=@ih4
   have m1:=@ih5
   have m2:=@spec_l1Cur_lit.mono
   exact mO
  ·intro y0 y1 y2 y3 y4 y5
   unfold spec_l1Cur_clause.j3
   have m0:=@ih4
   have m1:=@ih5
   have m2:=@spec_l1Cur_lit.mono
   exact mO
  ·intro y0 y1 y2 y3 y4
   unfold spec_l1Cur_clause.j4
   have m0:=@ih4
   have m1:=@ih5
   have m2:=@spec_l1Cur_lit.mono
   exact mO
  ·intro y0 y1 y2 y3 y4
   unfold spec_l1Cur_clause.l1
   have m0:=@ih4
   have m1:=@ih5
   have m2:=@spec_l1Cur_lit.mono
   exact mO
theorem spec_l1Cur_clause.mono:∀ a0 a1 a2 a3 k,LeO (spec_l1Cur_clause.f k a0 a1 a2 a3) (spec_l1Cur_clause.f (k + 1) a0 a1 a2 a3):=by
 intro a0 a1 a2 a3 k
 obtain ⟨ih0,ih1,ih2,ih3,ih4,ih5⟩:=spec_l1Cur_clause.mono_l k
 unfold spec_l1Cur_clause.f
 have m0:=@ih4
 have m1:=@ih5
 have m2:=@spec_l1Cur_lit.mono
 exact mO
def spec_l1Cur_clause.T8:Bool × List (List Nat × List Nat):=(true,[([],[]),([],[]),([1],[1]),([],[]),([3],[3]),([2,4],[2,4]),([],[]),([6],[6]),([],[]),([8],[8]),([5,7,9],[5,7,9]),([10],[10]),([0,11,4],[0,11]),([12,12,0,1,2,3,4,5,6,7,8,9,10,11,12],[0,12])])
def spec_l1Cur_clause.B8:List Nat:=[0,0,2,0,8,30,0,64,0,256,1022,2046,4095,8191]
theorem spec_l1Cur_clause.tab8:rtab .any (opsOf Try.f49 8) = spec_l1Cur_clause.T8:=by kernel_rfl
theorem spec_l1Cur_clause.bits8:waitsOk spec_l1Cur_clause.T8.2 spec_l1Cur_clause.B8 = true:=by kernel_rfl
set_option maxHeartbeats 8000000 in
set_option maxRecDepth 100000 in
theorem spec_l1Cur_clause.calls (k:Nat) (g:Nat) (s0_0:List Int) (s0_1:Int) (s0_2:Int) (A1_0:Option Addr) (c1_0:Nat) (l1_0:List Int) (r1:List (S83)) (r2:Int) (r3:Int) (w0 w:World) (hI:IsS60 w0 w g s0_0 s0_1 s0_2) (hB:Below w0.heap.size w0 w) (hr1_0:Kd.C (Kd.int .i64) w A1_0 l1_0.length l1_0) (hc1_0:l1_0.length ≤ c1_0) (hf1_0:∀ ad,A1_0 = some ad → 0 < l1_0.length → ad.block ≠ g) (h:spec_l1Cur_clause.f k s0_0 s0_1 s0_2 l1_0 = some (r1,r2,r3)) :
  Calls Try.prog 49 #[.pointer (some ⟨g,0,none⟩),.agg #[.slice A1_0 l1_0.length c1_0]] w fun e w'=>∃ v0_:Value,e = .returned (v0_) ∧ Kd.N k83 83 w' w.heap.size (fun k_=>(w.heap.size ≤ k_)) v0_ r1 ∧ IsS60 w0 w' g s0_0 r2 r3 ∧ Below w0.heap.size w0 w' ∧ KeepBut w w' g none:=by
 have hu26:=Try.underlying26
 have hu83:=Try.underlying83
 have HR1_0:=Aside0.mk hr1_0
 have HC1_0:=Aside0.mk hc1_0
 clear hr1_0 hc1_0
 have HI0:=Aside0.mk hI
 have HK:=Aside0.mk (KeepBut.refl w g none)
 have HL:=Aside0.mk hB.size
 clear hI
 have HW0:=Aside0.mk hB.size
 have HB:=Aside0.mk hB
 clear hB
 have H:((spec_l1Cur_among.f s0_0 s0_1 s0_2 (([0,1,1,1,2,2,3]:List Int))).bind fun bt434=>(spec_l1Cur_clause.l0 k ([]:List (S83)) bt434.1 s0_0 bt434.2.1 bt434.2.2 l1_0)) = some (r1,r2,r3):=h
 clear h
 obtain ⟨y431,hy431⟩:∃ y_:List Int,y_ = (([0,1,1,1,2,2,3]:List Int)):=⟨_,rfl⟩
 replace H:((spec_l1Cur_among.f s0_0 s0_1 s0_2 y431).bind fun bt434=>(spec_l1Cur_clause.l0 k ([]:List (S83)) bt434.1 s0_0 bt434.2.1 bt434.2.2 l1_0)) = some (r1,r2,r3):=by first|(rw [hy431];with_reducible exact H)|(have H2_:=(Option.bind_some _ _).symm.trans H;rw [hy431];with_reducible exact H2_)|(have H2_:=(Option.bind_some _ _).symm.trans H;with_reducible exact H2_)|with_reducible exact H|(rw [hy431];exact H)|exact H
 have Ny431:=Aside0.mk hy431
 clear hy431
 replace H:=Option.bind_eq_some_iff.mp H
 obtain ⟨⟨t434,t435,t436⟩,A30,H⟩:=H
 replace H:(spec_l1Cur_clause.l0 k ([]:List (S83)) t434 s0_0 t435 t436 l1_0) = some (r1,r2,r3):=H
 have A3:=Aside0.mk A30
 clear A30
 have H':=Aside0.mk H
 clear H
 go_enter Try.func49,Try.ntmps49
 go_wp2_with (first|((with_reducible refine gate_dst (N:=3) rfl ?_);refine box_event ?hg (N:=3) ?hd (cs:=#[.slice A1_0 l1_0.length c1_0]) (t:=26) ?hr ?_;(case hd=>rfl);(case hg=>rfl);(case hr=>exact Yd);intro gb430 hg w4 hbox hb;replace HB:=Aside0.mk (below_step bH hb);have BK430:=Aside0.mk (hbox);have GW430:=Aside0.mk ((by rw [hg];exact (keep_size (w:=w) (g:=g) (row:=none) kB):w.heap.size ≤ gb430));have GE430:=Aside0.mk ((Nat.le_trans HW0.out (by rw [hg];exact (keep_size (w:=w) (g:=g) (row:=none) kB):w.heap.size ≤ gb430):w0.heap.size ≤ gb430));replace HK:=Aside0.mk (KeepBut.trans kB (KeepBut.of_below hb g none) (.inl rfl));have NB0_430:=Aside0.mk ((by rw [hg];exact Nat.ne_of_lt (IsS60.lt (show IsS60 w0 _ g s0_0 s0_1 s0_2 from iIsS60)):g ≠ gb430));have NB430_0:=Aside0.mk ((by rw [hg];exact Nat.ne_of_gt (IsS60.lt (show IsS60 w0 _ g s0_0 s0_1 s0_2 from iIsS60)):gb430 ≠ g));replace HI0:=Aside0.mk (IsS60.below iIsS60 hb);clear hb hbox hg)|((with_reducible refine gate_dst (N:=9) rfl ?_);refine Kd.R_lit (Kd.int .i64) _ 3 ?hg (N:=9) ?hd (xs:=([0,1,1,1,2,2,3]:List Int)) (inner:=[.int .i64 0,.int .i64 1,.int .i64 1,.int .i64 1,.int .i64 2,.int .i64 2,.int .i64 3]) (ok:=fun _=>True) (okp:=fun _=>True) ?hr ?hp (fun _ hk=>hk) trivial (Below.refl _ _) (Nat.le_refl _) (by simp) ?_;(case hd=>rfl);(case hg=>rfl);(case hr=>exact Yd);(case hp=>exact (Reps.one (show Kd.M (Kd.int .i64) _ _ _ 0 [.int .i64 0] from rfl) (Reps.one (show Kd.M (Kd.int .i64) _ _ _ 1 [.int .i64 1] from rfl) (Reps.one (show Kd.M (Kd.int .i64) _ _ _ 1 [.int .i64 1] from rfl) (Reps.one (show Kd.M (Kd.int .i64) _ _ _ 1 [.int .i64 1] from rfl) (Reps.one (show Kd.M (Kd.int .i64) _ _ _ 2 [.int .i64 2] from rfl) (Reps.one (show Kd.M (Kd.int .i64) _ _ _ 2 [.int .i64 2] from rfl) (Reps.one (show Kd.M (Kd.int .i64) _ _ _ 3 [.int .i64 3] from rfl) (Reps.none _ _)))))))));intro v432 w5 ho6 hb hg_ hnew_;clear hg_ hnew_;(first|rw [← Ny431.out] at ho6|(simp only [Int.reduceToNat] at ho6;rw [← Ny431.out] at ho6));have HO433:=Aside0.mk (Kd.R_lower (Kd.R_newM (M:=fun k_=>(w.heap.size ≤ k_)) ho6 (keep_size (w:=w) (g:=g) (row:=none) kB) (fun k_ h_=>h_)) (keep_size (w:=w) (g:=g) (row:=none) kB));replace BK430:=Aside0.mk (blk_below (bB BK430) hb);replace HK:=Aside0.mk (KeepBut.trans kB (KeepBut.of_below hb g none) (.inl rfl));replace HB:=Aside0.mk (below_step bH hb);replace HI0:=Aside0.mk (IsS60.below iIsS60 hb);clear hb ho6;obtain ⟨Ao7,co7,eo7⟩:=Kd.R_slice HO433.out;subst eo7)|((with_reducible refine gate_callee (f:=76) rfl ?_);refine goesL_ (some 10) rfl rfl Try.func76 (by kernel_rfl) rfl #[.pointer (some ⟨g,0,none⟩),.slice Ao7 y431.length co7] rfl Ya ?_;(with_reducible refine (spec_l1Cur_among.calls g s0_0 s0_1 s0_2 _ _ y431 t434 t435 t436 w0 _ ?side1 ?side2 ?side3 ?side4 ?side5 A3.out).mono ?_);(case side1=>exact iIsS60);(case side2=>exact bH);(case side3=>repeat (first|exact (Kd.R_reads' HO433.out).2.2|(with_reducible refine Kd.C_alloc ?_ _)|(with_reducible refine Kd.C_drewN ?_ _)|(with_reducible refine Kd.C_drew ?_)));(case side4=>exact (Kd.R_reads' HO433.out).2.1);(case side5=>exact far_slice (IsS60.own_ne HI0.out HO433.out (by decide)));rintro e w8 ⟨rfl,hi,hb,hk⟩;refine ⟨_,rfl,?_⟩;replace BK430:=Aside0.mk (KeepBut.blk hk (g':=gb430) (o:=.cells #[.slice A1_0 l1_0.length c1_0] 26 (0,0)) (bB BK430) NB430_0.out (by simp));replace HO433:=Aside0.mk (Kd.R_mono (Kd.R_keep (IsS60.apart (show IsS60 w0 _ g s0_0 s0_1 s0_2 from iIsS60) (rR HO433) (by decide)) hk (fun _ h=>h.2)) (fun _ h=>h.1));replace HK:=Aside0.mk (KeepBut.trans kB hk (.inl rfl));replace HB:=Aside0.mk (hb);replace HI0:=Aside0.mk (hi);(try clear hb);(try clear hb2);(try clear hk);(try clear hi)))
 go_loopg [5,6] k (fun kq v5 v6 w'=>∃ (x5_1:List (S83)) (x6_1:Int) (x1001_1:Int) (x1002_1:Int),v6 = .int .i64 x6_1 ∧ Aside0 (spec_l1Cur_clause.l0 kq x5_1 x6_1 s0_0 x1001_1 x1002_1 l1_0 = some (r1,r2,r3)) ∧ Aside0 (kq ≤ k) ∧ Aside0 (Kd.N k83 83 w' w.heap.size (fun k_=>(w.heap.size ≤ k_) ∧ k_ ≠ gb430 ∧ k_ ≠ g) v5 x5_1) ∧ Aside0 (w'.heap[gb430]? = some (.cells #[(.slice A1_0 l1_0.length c1_0)] 26 (0,0))) ∧ Aside0 (IsS60 w0 w' g s0_0 x1001_1 x1002_1) ∧ Aside0 (KeepBut w w' g none) ∧ Aside0 (Below w0.heap.size w0 w'))
 case atStart=>exact ⟨(([]:List (S83))),(t434),(t435),(t436),Ye,H',⟨Nat.le_refl _⟩,⟨YJ⟩,⟨Yi⟩,⟨iIsS60⟩,⟨kB⟩,⟨bH⟩⟩
 case round =>
  clear H'
  try clear c1
  try clear p2
  try clear c4
  try clear c7
  obtain ⟨x5_1,x6_1,x1001_1,x1002_1,rfl,HA,HK1,HO_5,BK430,HI0,HK,HB⟩:=hrel
  cases gk with
  | zero=>exact absurd HA.out (by simp [spec_l1Cur_clause.l0])
  | succ k1 =>
   have H:=HA.out
   clear HA
   simp only [spec_l1Cur_clause.l0] at H
   by_cases c9:x6_1 > 0
   ·rw [if_pos c9] at H
    have c9b0:decide (0 < x6_1) = true:=decide_eq_true c9
    clear c9
    replace H:=Option.bind_eq_some_iff.mp H
    obtain ⟨⟨t437,t438,t441,t444,t445⟩,A100,H⟩:=H
    replace H:(if x5_1.length < 2513169434916 then (spec_l1Cur_clause.l0 k1 (x5_1 ++ [(⟨t437,t438,t441⟩:S83)]) (wrap64 (x6_1 - 1)) s0_0 t444 t445 l1_0) else (none)) = some (r1,r2,r3):=H
    have A10:=Aside0.mk A100
    clear A100
    by_cases c11:x5_1.length < 2513169434916
    ·rw [if_pos c11] at H
     have LMc11:=Aside0.mk c11
     clear c11
     obtain ⟨y446,hy446⟩:∃ y_:List (S83),y_ = (x5_1 ++ [(⟨t437,t438,t441⟩:S83)]):=⟨_,rfl⟩
     replace H:(spec_l1Cur_clause.l0 k1 y446 (wrap64 (x6_1 - 1)) s0_0 t444 t445 l1_0) = some (r1,r2,r3):=by first|(rw [hy446];with_reducible exact H)|(have H2_:=(Option.bind_some _ _).symm.trans H;rw [hy446];with_reducible exact H2_)|(have H2_:=(Option.bind_some _ _).symm.trans H;with_reducible exact H2_)|with_reducible exact H|(rw [hy446];exact H)|exact H
     have Ny446:=Aside0.mk hy446
     clear hy446
     have H':=Aside0.mk H
     clear H
     have hnb12:=NB430_0.out
     have hnc12:=NB0_430.out
     have hcz13_0:wr.cell? ⟨gb430,0,none⟩ = some (.slice A1_0 l1_0.length c1_0):=(blk_cell BK430.out 0).trans rfl
     have hfz13_0:=blk_frozen BK430.out 0
     go_wp2_with (first|((with_reducible refine gate_callee (f:=87) rfl ?_);refine goesL_ (some 18) rfl rfl Try.func87 (by kernel_rfl) rfl #[.pointer (some ⟨g,0,none⟩),.agg #[.slice A1_0 l1_0.length c1_0]] rfl Ya ?_;(with_reducible refine (spec_l1Cur_lit.calls k1 g s0_0 x1001_1 x1002_1 _ _ l1_0 t437 t438 t441 t444 t445 w0 _ ?side1 ?side2 ?side3 ?side4 ?side5 A10.out).mono ?_);(case side1=>exact iIsS60);(case side2=>exact bH);(case side3=>exact YF);(case side4=>exact Zh);(case side5=>exact hf1_0);rintro e w14 ⟨v439,v442,rfl,ho0,ho1,hi,hb,hk⟩;refine ⟨_,rfl,?_⟩;replace HO_5:=Aside0.mk (Kd.N_mono (Kd.N_told (Kd.N_told (Kd.N_oldK (Kd.N_mono (ok:=fun k_=>(((w.heap.size ≤ k_)) ∧ (k_ ≠ gb430 ∧ k_ ≠ g))) (rN HO_5) (fun k_ hk_=>(⟨hk_,hk_.2.2⟩:_ ∧ k_ ≠ g))) hk) (Kd.R_base ho0)) (Kd.R_base ho1)) (fun _ h_=>h_.1));replace BK430:=Aside0.mk (KeepBut.blk hk (g':=gb430) (o:=.cells #[.slice A1_0 l1_0.length c1_0] 26 (0,0)) (bB BK430) NB430_0.out (by simp));have HO440:=Aside0.mk (Kd.R_lower (Kd.R_newM (M:=fun k_=>(w.heap.size ≤ k_)) ho0 (keep_size (w:=w) (g:=g) (row:=none) kB) (fun k_ h_=>h_)) (keep_size (w:=w) (g:=g) (row:=none) kB));have HO443:=Aside0.mk (Kd.R_lower (Kd.R_newM (M:=fun k_=>(w.heap.size ≤ k_)) ho1 (keep_size (w:=w) (g:=g) (row:=none) kB) (fun k_ h_=>h_)) (keep_size (w:=w) (g:=g) (row:=none) kB));replace HK:=Aside0.mk (KeepBut.trans kB hk (.inl rfl));replace HB:=Aside0.mk (hb);replace HI0:=Aside0.mk (hi);(try clear hb);(try clear hb2);(try clear hk);(try clear hi);(try clear ho0);(try clear ho1);obtain ⟨Ao16,co16,eo16⟩:=Kd.R_slice HO440.out;subst eo16;obtain ⟨Ao17,co17,eo17⟩:=Kd.R_slice HO443.out;subst eo17)|((with_reducible refine gate_builtin (b:=.append) (xs:=#[.tmp 15,.tmp 19]) rfl ?_);at_builtin;refine Kd.N_append k83 w.heap.size rfl (.tmp 15) (.tmp 19) 40 83 (.agg #[(.bool false),(.slice none 0 0),(.slice none 0 0)]) 56 rfl Try.underlying40 info83 rfl (by decide) Zc u5 x5_1 (⟨t437,t438,t441⟩:S83) [.bool t437,.slice Ao16 t438.length co16,.slice Ao17 t441.length co17] (fun k_=>(w.heap.size ≤ k_) ∧ k_ ≠ gb430 ∧ k_ ≠ g) (fun k_=>((fun k_=>(w.heap.size ≤ k_) ∧ k_ ≠ gb430 ∧ k_ ≠ g)) k_ ∧ some k_ ≠ (u5:Value).ownBlock) rfl rfl ?aP (fun _ hk=>hk) ?aF ?aO (Below.refl _ _) ?aS ?aL ?_;(case aP=>exact (k83_mkF _ _ (⟨t437,t438,t441⟩:S83) (Kd.R_reads' (Kd.R_mono (ok':=(fun k_=>((fun k_=>(w.heap.size ≤ k_) ∧ k_ ≠ gb430 ∧ k_ ≠ g)) k_ ∧ some k_ ≠ (u5:Value).ownBlock)) (IsS60.apart HI0.out (Kd.R_types (Kd.R_apart' (HO440.out) (Kd.N_typed HO_5.out) (by decide)) BK430.out (by decide)) (by decide)) (fun k_ hk=>⟨⟨hk.1.1.1.1,⟨hk.1.2,hk.2⟩⟩,hk.1.1.2⟩))).2.1 (Kd.R_F (Kd.R_mono (ok':=(fun k_=>((fun k_=>(w.heap.size ≤ k_) ∧ k_ ≠ gb430 ∧ k_ ≠ g)) k_ ∧ some k_ ≠ (u5:Value).ownBlock)) (IsS60.apart HI0.out (Kd.R_types (Kd.R_apart' (HO440.out) (Kd.N_typed HO_5.out) (by decide)) BK430.out (by decide)) (by decide)) (fun k_ hk=>⟨⟨hk.1.1.1.1,⟨hk.1.2,hk.2⟩⟩,hk.1.1.2⟩))) (Kd.R_reads' (Kd.R_mono (ok':=(fun k_=>((fun k_=>(w.heap.size ≤ k_) ∧ k_ ≠ gb430 ∧ k_ ≠ g)) k_ ∧ some k_ ≠ (u5:Value).ownBlock)) (IsS60.apart HI0.out (Kd.R_types (Kd.R_apart' (HO443.out) (Kd.N_typed HO_5.out) (by decide)) BK430.out (by decide)) (by decide)) (fun k_ hk=>⟨⟨hk.1.1.1.1,⟨hk.1.2,hk.2⟩⟩,hk.1.1.2⟩))).2.1 (Kd.R_F (Kd.R_mono (ok':=(fun k_=>((fun k_=>(w.heap.size ≤ k_) ∧ k_ ≠ gb430 ∧ k_ ≠ g)) k_ ∧ some k_ ≠ (u5:Value).ownBlock)) (IsS60.apart HI0.out (Kd.R_types (Kd.R_apart' (HO443.out) (Kd.N_typed HO_5.out) (by decide)) BK430.out (by decide)) (by decide)) (fun k_ hk=>⟨⟨hk.1.1.1.1,⟨hk.1.2,hk.2⟩⟩,hk.1.1.2⟩)))));(case aF=>exact YX);(case aO=>exact Zg);(case aS=>exact YO);(case aL=>have:=LMc11.out;omega);intro v447 w15 ho hb hg hat;rw [← Ny446.out] at ho;have n0_:=Aside0.mk (blk_grown (bB BK430) hg (Kd.N_ne HO_5.out BK430.out (by decide)));have n1_:=Aside0.mk (IsS60.grown iIsS60 hg (IsS60.own_neN HI0.out HO_5.out (by decide)));have n2_:=Aside0.mk (below_weaken bH HL.out hb);have n3_:=Aside0.mk (KeepBut.trans kB (KeepBut.of_grown hg g) (Kd.N_base2 HO_5.out));have n4_:=Aside0.mk (ho);clear BK430;clear HI0;clear HB;clear HK;clear HO_5;clear HO440;clear HO443;have BK430:=n0_;have HI0:=n1_;have HB:=n2_;have HK:=n3_;have HO448:=n4_;clear n0_ n1_ n2_ n3_ n4_;clear ho hb hg hat))
     go_roundg k1
     case measure=>have:=HK1.out;omega
     case rel=>exact ⟨(y446),(wrap64 (x6_1 - 1)),(t444),(t445),Ye,H',⟨Ze⟩,⟨rN HO448⟩,⟨Yi⟩,⟨iIsS60⟩,⟨kB⟩,⟨bH⟩⟩
    ·rw [if_neg c11] at H
     exact absurd H (by simp)
   ·rw [if_neg c9] at H
    have c9b0:decide (0 < x6_1) = false:=decide_eq_false c9
    clear c9
    have HC18:=Aside0.mk H
    clear H
    go_upto_region 6 with (fail)
    go_cut [27] (fun v27 wc=>∃ (kq:Nat) (x27_17:Bool) (x1001_17:Int) (x1002_17:Int),v27 = .bool x27_17 ∧ Aside0 (spec_l1Cur_clause.j1 kq x5_1 x27_17 s0_0 x1001_17 x1002_17 l1_0 = some (r1,r2,r3)) ∧ Aside0 (kq ≤ k1) ∧ Aside0 (Kd.N k83 83 wc w.heap.size (fun k_=>(w.heap.size ≤ k_) ∧ k_ ≠ gb430 ∧ k_ ≠ g) u5 x5_1) ∧ Aside0 (wc.heap[gb430]? = some (.cells #[(.slice A1_0 l1_0.length c1_0)] 26 (0,0))) ∧ Aside0 (IsS60 w0 wc g s0_0 x1001_17 x1002_17) ∧ Aside0 (KeepBut w wc g none) ∧ Aside0 (Below w0.heap.size w0 wc))
    case first =>
     have H:=HC18.out
     clear HC18
     by_cases c19:(x5_1.length:Int) > 0
     ·rw [if_pos c19] at H
      have c19b0:decide (0 < (x5_1.length:Int)) = true:=decide_eq_true c19
      have c19b1:decide (0 < x5_1.length) = true:=decide_eq_true (by omega)
      clear c19
      (first|rw [c19b0]|(simp only [i64_w,i32_w];rw [c19b0])|skip)
      replace H:=Option.bind_eq_some_iff.mp H
      obtain ⟨⟨t449,t450,t451⟩,A200,H⟩:=H
      replace H:(spec_l1Cur_clause.j1 k1 x5_1 t449 s0_0 t450 t451 l1_0) = some (r1,r2,r3):=H
      have A20:=Aside0.mk A200
      clear A200
      have H':=Aside0.mk H
      clear H
      obtain ⟨Ao21,co21,eo21⟩:=Kd.N_slice HO_5.out
      subst eo21
      go_wp2_with (first|(go_at_call 75;(with_reducible refine (spec_l1Cur_one.calls g s0_0 x1001_1 x1002_1 6 t449 t450 t451 w0 _ ?side1 ?side2 A20.out).mono ?_);(case side1=>exact iIsS60);(case side2=>exact bH);rintro e w22 ⟨rfl,hi,hb,hk⟩;replace HO_5:=Aside0.mk (Kd.N_mono (Kd.N_keep (Kd.N_mono (ok:=fun k_=>(((w.heap.size ≤ k_)) ∧ (k_ ≠ gb430 ∧ k_ ≠ g))) (rN HO_5) (fun k_ hk_=>(⟨hk_,hk_.2.2⟩:_ ∧ k_ ≠ g))) hk (fun _ h=>h.2)) (fun _ h=>h.1));replace BK430:=Aside0.mk (KeepBut.blk hk (g':=gb430) (o:=.cells #[.slice A1_0 l1_0.length c1_0] 26 (0,0)) (bB BK430) NB430_0.out (by simp));replace HK:=Aside0.mk (KeepBut.trans kB hk (.inl rfl));replace HB:=Aside0.mk (hb);replace HI0:=Aside0.mk (hi);(try clear hb);(try clear hb2);(try clear hk);(try clear hi)))
      go_meet
      case rel=>exact ⟨_,(t449),(t450),(t451),Ye,H',⟨Zd⟩,⟨rN HO_5⟩,⟨Yi⟩,⟨iIsS60⟩,⟨kB⟩,⟨bH⟩⟩
     ·rw [if_neg c19] at H
      have c19b0:decide (0 < (x5_1.length:Int)) = false:=decide_eq_false c19
      have c19b1:decide (0 < x5_1.length) = false:=decide_eq_false (by omega)
      clear c19
      (first|rw [c19b0]|(simp only [i64_w,i32_w];rw [c19b0])|skip)
      have H':=Aside0.mk H
      clear H
      obtain ⟨Ao23,co23,eo23⟩:=Kd.N_slice HO_5.out
      subst eo23
      go_wp2
      go_meet
      case rel=>exact ⟨_,(false),(x1001_1),(x1002_1),Ye,H',⟨Zd⟩,⟨rN HO_5⟩,⟨Yi⟩,⟨iIsS60⟩,⟨kB⟩,⟨bH⟩⟩
    case rest =>
     clear HC18
     try clear c1
     try clear p2
     try clear c4
     try clear p6
     try clear c7
     try clear c8
     try clear c9
     try clear c9b0
     try clear c11
     try clear c12
     try clear c19
     try clear c19b0
     try clear c19b1
     try clear hcz13_0
     try clear hfz13_0
     try clear p2
     obtain ⟨kq,x27_17,x1001_17,x1002_17,rfl,HA,HJ17,HO_5,BK430,HI0,HK,HB⟩:=hcut
     cases kq with
     | zero=>exact absurd HA.out (by simp [spec_l1Cur_clause.j1])
     | succ kj17 =>
      have H:=HA.out
      clear HA
      simp only [spec_l1Cur_clause.j1] at H
      have HC24:=Aside0.mk H
      clear H
      go_upto_if 27 with (fail)
      go_cut [5] (fun v5 wc=>∃ (kq:Nat) (x5_23:List (S83)) (x1001_23:Int) (x1002_23:Int),Aside0 (spec_l1Cur_clause.j2 kq x5_23 s0_0 x1001_23 x1002_23 l1_0 = some (r1,r2,r3)) ∧ Aside0 (kq ≤ kj17) ∧ Aside0 (Kd.N k83 83 wc w.heap.size (fun k_=>(w.heap.size ≤ k_) ∧ k_ ≠ gb430 ∧ k_ ≠ g) v5 x5_23) ∧ Aside0 (wc.heap[gb430]? = some (.cells #[(.slice A1_0 l1_0.length c1_0)] 26 (0,0))) ∧ Aside0 (IsS60 w0 wc g s0_0 x1001_23 x1002_23) ∧ Aside0 (KeepBut w wc g none) ∧ Aside0 (Below w0.heap.size w0 wc))
      case first =>
       have H:=HC24.out
       clear HC24
       by_cases c25:x27_17 = true
       ·subst c25
        have H1:((spec_l1Cur_pick.f s0_0 x1001_17 x1002_17 (x5_1.length:Int)).bind fun bt452=>(if 0 ≤ bt452.1 then (if bt452.1 < (x5_1.length:Int) then ((spec_l1Cur_one.f s0_0 bt452.2.1 bt452.2.2 3).bind fun bt457=>(if x5_1.length < 2513169434916 then (spec_l1Cur_clause.j2 kj17 (x5_1 ++ [(⟨(((rd_T83 x5_1 bt452.1).f0) != bt457.1),(rd_T83 x5_1 bt452.1).f2,(rd_T83 x5_1 bt452.1).f1⟩:S83)]) s0_0 bt457.2.1 bt457.2.2 l1_0) else (none))) else (none)) else (none))) = some (r1,r2,r3):=by rw [if_pos rfl] at H;exact H
        clear H
        have H:=H1
        clear H1
        replace H:=Option.bind_eq_some_iff.mp H
        obtain ⟨⟨t452,t453,t454⟩,A260,H⟩:=H
        replace H:(if 0 ≤ t452 then (if t452 < (x5_1.length:Int) then ((spec_l1Cur_one.f s0_0 t453 t454 3).bind fun bt457=>(if x5_1.length < 2513169434916 then (spec_l1Cur_clause.j2 kj17 (x5_1 ++ [(⟨(((rd_T83 x5_1 t452).f0) != bt457.1),(rd_T83 x5_1 t452).f2,(rd_T83 x5_1 t452).f1⟩:S83)]) s0_0 bt457.2.1 bt457.2.2 l1_0) else (none))) else (none)) else (none)) = some (r1,r2,r3):=H
        have A26:=Aside0.mk A260
        clear A260
        by_cases c27:0 ≤ t452
        ·rw [if_pos c27] at H
         have c27b0:=decide_eq_true c27
         clear c27
         (first|rw [c27b0]|(simp only [i64_w,i32_w];rw [c27b0])|skip)
         by_cases c28:t452 < (x5_1.length:Int)
         ·rw [if_pos c28] at H
          have c28b0:=decide_eq_true c28
          clear c28
          replace H:=Option.bind_eq_some_iff.mp H
          obtain ⟨⟨t457,t458,t459⟩,A290,H⟩:=H
          replace H:(if x5_1.length < 2513169434916 then (spec_l1Cur_clause.j2 kj17 (x5_1 ++ [(⟨(((rd_T83 x5_1 t452).f0) != t457),(rd_T83 x5_1 t452).f2,(rd_T83 x5_1 t452).f1⟩:S83)]) s0_0 t458 t459 l1_0) else (none)) = some (r1,r2,r3):=H
          have A29:=Aside0.mk A290
          clear A290
          by_cases c30:x5_1.length < 2513169434916
          ·rw [if_pos c30] at H
           have LMc30:=Aside0.mk c30
           clear c30
           obtain ⟨y460,hy460⟩:∃ y_:List (S83),y_ = (x5_1 ++ [(⟨(((rd_T83 x5_1 t452).f0) != t457),(rd_T83 x5_1 t452).f2,(rd_T83 x5_1 t452).f1⟩:S83)]):=⟨_,rfl⟩
           replace H:(spec_l1Cur_clause.j2 kj17 y460 s0_0 t458 t459 l1_0) = some (r1,r2,r3):=by first|(rw [hy460];with_reducible exact H)|(have H2_:=(Option.bind_some _ _).symm.trans H;rw [hy460];with_reducible exact H2_)|(have H2_:=(Option.bind_some _ _).symm.trans H;with_reducible exact H2_)|with_reducible exact H|(rw [hy460];exact H)|exact H
           have Ny460:=Aside0.mk hy460
           clear hy460
           have H':=Aside0.mk H
           clear H
           obtain ⟨Ao31,co31,eo31⟩:=Kd.N_slice HO_5.out
           subst eo31
           try go_wp2_with (first|((with_reducible refine gate_callee (f:=73) rfl ?_);refine goesL_ (some 32) rfl rfl Try.func73 (by kernel_rfl) rfl #[.pointer (some ⟨g,0,none⟩),.int .i64 (x5_1.length:Int)] rfl Ya ?_;(with_reducible refine (spec_l1Cur_pick.calls g s0_0 x1001_17 x1002_17 (x5_1.length:Int) t452 t453 t454 w0 _ ?side1 ?side2 A26.out).mono ?_);(case side1=>exact iIsS60);(case side2=>exact bH);rintro e w32 ⟨rfl,hi,hb,hk⟩;refine ⟨_,rfl,?_⟩;replace HO_5:=Aside0.mk (Kd.N_mono (Kd.N_keep (Kd.N_mono (ok:=fun k_=>(((w.heap.size ≤ k_)) ∧ (k_ ≠ gb430 ∧ k_ ≠ g))) (rN HO_5) (fun k_ hk_=>(⟨hk_,hk_.2.2⟩:_ ∧ k_ ≠ g))) hk (fun _ h=>h.2)) (fun _ h=>h.1));replace BK430:=Aside0.mk (KeepBut.blk hk (g':=gb430) (o:=.cells #[.slice A1_0 l1_0.length c1_0] 26 (0,0)) (bB BK430) NB430_0.out (by simp));replace HK:=Aside0.mk (KeepBut.trans kB hk (.inl rfl));replace HB:=Aside0.mk (hb);replace HI0:=Aside0.mk (hi);(try clear hb);(try clear hb2);(try clear hk);(try clear hi);have p455:0 ≤ (t452:Int):=oD;have q455:t452 < (x5_1.length:Int):=oD;obtain ⟨ad455,A455_1,c455_1,A455_2,c455_2,e455,hx455_0,hx455_1,hx455_2,hl455_1,hi455_1,hl455_2,hi455_2⟩:=at_T83 (Kd.N_reads' HO_5.out).2.2 t452 p455 q455;cases e455;obtain ⟨ce455,hce455,hMe455,hcc455⟩:=Kd.N_get HO_5.out z83 t452 p455 (by first|exact q455|exact oD|(have e_:=(Kd.N_reads' HO_5.out).1;omega));obtain ⟨ua455_1,uc455_1,ua455_2,uc455_2,rfl,ul455_1,ge455_1,ul455_2,ge455_2⟩:=k83_openF hMe455;have hv455_1:=hcc455 1 _ rfl;rw [add_field _ _ 1 (by omega)] at hv455_1;replace hv455_1:=Option.some.inj (hv455_1.symm.trans hx455_1);injection hv455_1 with hva_ hvn_ hvc_;rw [hva_] at ge455_1;rw [hvc_] at ul455_1;have HL455_1:=Aside0.mk (show Kd.V (Kd.int .i64) 3 _ w.heap.size _ _ ((rd_T83 x5_1 t452).f1) from Kd.V_mk ul455_1 ge455_1);clear hva_ hvn_ hvc_ ge455_1 ul455_1;have hv455_2:=hcc455 2 _ rfl;rw [add_field _ _ 2 (by omega)] at hv455_2;replace hv455_2:=Option.some.inj (hv455_2.symm.trans hx455_2);injection hv455_2 with hva_ hvn_ hvc_;rw [hva_] at ge455_2;rw [hvc_] at ul455_2;have HL455_2:=Aside0.mk (show Kd.V (Kd.int .i64) 3 _ w.heap.size _ _ ((rd_T83 x5_1 t452).f2) from Kd.V_mk ul455_2 ge455_2);clear hva_ hvn_ hvc_ ge455_2 ul455_2;clear hcc455 hce455;have HR455_1:=Aside0.mk hi455_1;have HC455_1:=Aside0.mk hl455_1;clear hi455_1 hl455_1;have HR455_2:=Aside0.mk hi455_2;have HC455_2:=Aside0.mk hl455_2;clear hi455_2 hl455_2;replace p455:=eq_true p455;replace q455:=eq_true q455)|((with_reducible refine gate_dst (N:=7) rfl ?_);refine box_event ?hg (N:=7) ?hd (cs:=#[.bool false,.slice none 0 0,.slice none 0 0]) (t:=83) ?hr ?_;(case hd=>rfl);(case hg=>rfl);(case hr=>exact Yd);intro gb456 hg w33 hbox hb;replace HO_5:=Aside0.mk (Kd.N_below (Kd.N_elderB (rN HO_5) gb456 (Nat.le_of_eq hg.symm)) hb);replace HL455_1:=Aside0.mk (Kd.V_below (Kd.V_elderB (rV HL455_1) gb456 (Nat.le_of_eq hg.symm)) hb);replace HL455_2:=Aside0.mk (Kd.V_below (Kd.V_elderB (rV HL455_2) gb456 (Nat.le_of_eq hg.symm)) hb);replace HR455_1:=Aside0.mk (Kd.C_below (by repeat (first|(with_reducible exact HR455_1.out)|(with_reducible refine Kd.C_alloc ?_ _)|(with_reducible refine Kd.C_drewN ?_ _)|(with_reducible refine Kd.C_drew ?_)|exact HR455_1.out)) hb);replace HR455_2:=Aside0.mk (Kd.C_below (by repeat (first|(with_reducible exact HR455_2.out)|(with_reducible refine Kd.C_alloc ?_ _)|(with_reducible refine Kd.C_drewN ?_ _)|(with_reducible refine Kd.C_drew ?_)|exact HR455_2.out)) hb);replace HB:=Aside0.mk (below_step bH hb);have BK456:=Aside0.mk (hbox);have GW456:=Aside0.mk ((by rw [hg];exact (keep_size (w:=w) (g:=g) (row:=none) kB):w.heap.size ≤ gb456));have GE456:=Aside0.mk ((Nat.le_trans HW0.out (by rw [hg];exact (keep_size (w:=w) (g:=g) (row:=none) kB):w.heap.size ≤ gb456):w0.heap.size ≤ gb456));replace HK:=Aside0.mk (KeepBut.trans kB (KeepBut.of_below hb g none) (.inl rfl));have NB430_456:=Aside0.mk ((nL BK430:gb430 ≠ gb456));have NB456_430:=Aside0.mk ((nG BK430:gb456 ≠ gb430));replace BK430:=Aside0.mk (blk_below (bB BK430) hb);have NB0_456:=Aside0.mk ((by rw [hg];exact Nat.ne_of_lt (IsS60.lt (show IsS60 w0 _ g s0_0 t453 t454 from iIsS60)):g ≠ gb456));have NB456_0:=Aside0.mk ((by rw [hg];exact Nat.ne_of_gt (IsS60.lt (show IsS60 w0 _ g s0_0 t453 t454 from iIsS60)):gb456 ≠ g));replace HI0:=Aside0.mk (IsS60.below iIsS60 hb);clear hb hbox hg;have hnb34:=NB456_430.out;have hnc34:=NB430_456.out;have hnb35:=NB456_0.out;have hnc35:=NB0_456.out;have hcz36_0:w33.cell? ⟨gb456,0,none⟩ = some (.bool false):=(blk_cell BK456.out 0).trans rfl;have hcz36_1:w33.cell? ⟨gb456,1,none⟩ = some (.slice none 0 0):=(blk_cell BK456.out 1).trans rfl;have hcz36_2:w33.cell? ⟨gb456,2,none⟩ = some (.slice none 0 0):=(blk_cell BK456.out 2).trans rfl;have hfz36_0:=blk_frozen BK456.out 0;have hfz36_1:=blk_frozen BK456.out 1;have hfz36_2:=blk_frozen BK456.out 2))
           have n0_:Aside0 (Kd.N k83 83 (((w33.setCell ⟨gb456,0,none⟩ (.bool ((rd_T83 x5_1 t452).f0))).setCell ⟨gb456,1,none⟩ (.slice A455_1 ((rd_T83 x5_1 t452).f1).length c455_1)).setCell ⟨gb456,2,none⟩ (.slice A455_2 ((rd_T83 x5_1 t452).f2).length c455_2)) w.heap.size (fun k_=>(w.heap.size ≤ k_) ∧ k_ ≠ gb430 ∧ k_ ≠ g ∧ k_ ≠ gb456) (.slice (some ad455) x5_1.length co31) x5_1):=⟨by (with_reducible repeat (first|apply Kd.N_alloc|apply Kd.N_drewN|apply Kd.N_drew));exact Kd.N_mono (Kd.N_far (p:=⟨gb456,2,none⟩) (Kd.N_far (p:=⟨gb456,1,none⟩) (Kd.N_far (p:=⟨gb456,0,none⟩) (Kd.N_mono HO_5.out (fun k_ hk=>(⟨hk,hk.2⟩:_ ∧ k_ ≠ gb456))) (fun _ hk=>hk.2) (.bool ((rd_T83 x5_1 t452).f0))) (fun _ hk=>hk.2) (.slice A455_1 ((rd_T83 x5_1 t452).f1).length c455_1)) (fun _ hk=>hk.2) (.slice A455_2 ((rd_T83 x5_1 t452).f2).length c455_2)) (fun _ hk=>⟨hk.1.1.1,⟨hk.1.1.2.1,⟨hk.1.1.2.2,hk.1.2⟩⟩⟩)⟩
           have n1_:Aside0 (Kd.V (Kd.int .i64) 3 (((w33.setCell ⟨gb456,0,none⟩ (.bool ((rd_T83 x5_1 t452).f0))).setCell ⟨gb456,1,none⟩ (.slice A455_1 ((rd_T83 x5_1 t452).f1).length c455_1)).setCell ⟨gb456,2,none⟩ (.slice A455_2 ((rd_T83 x5_1 t452).f2).length c455_2)) w.heap.size (fun k_=>(w.heap.size ≤ k_) ∧ some k_ ≠ (.slice (some ad455) x5_1.length co31:Value).ownBlock ∧ k_ ≠ gb430 ∧ k_ ≠ g ∧ k_ ≠ gb456) (.slice A455_1 ((rd_T83 x5_1 t452).f1).length c455_1) ((rd_T83 x5_1 t452).f1)):=⟨by (with_reducible repeat (first|apply Kd.V_alloc|apply Kd.V_drewN|apply Kd.V_drew));exact Kd.V_mono (Kd.V_far (p:=⟨gb456,2,none⟩) (Kd.V_far (p:=⟨gb456,1,none⟩) (Kd.V_far (p:=⟨gb456,0,none⟩) (Kd.V_mono HL455_1.out (fun k_ hk=>(⟨hk,hk.2⟩:_ ∧ k_ ≠ gb456))) (fun _ hk=>hk.2) (.bool ((rd_T83 x5_1 t452).f0))) (fun _ hk=>hk.2) (.slice A455_1 ((rd_T83 x5_1 t452).f1).length c455_1)) (fun _ hk=>hk.2) (.slice A455_2 ((rd_T83 x5_1 t452).f2).length c455_2)) (fun _ hk=>⟨hk.1.1.1.1,⟨hk.1.1.2,⟨hk.1.1.1.2.1,⟨hk.1.1.1.2.2,hk.1.2⟩⟩⟩⟩)⟩
           have n2_:Aside0 (Kd.V (Kd.int .i64) 3 (((w33.setCell ⟨gb456,0,none⟩ (.bool ((rd_T83 x5_1 t452).f0))).setCell ⟨gb456,1,none⟩ (.slice A455_1 ((rd_T83 x5_1 t452).f1).length c455_1)).setCell ⟨gb456,2,none⟩ (.slice A455_2 ((rd_T83 x5_1 t452).f2).length c455_2)) w.heap.size (fun k_=>(w.heap.size ≤ k_) ∧ some k_ ≠ (.slice (some ad455) x5_1.length co31:Value).ownBlock ∧ k_ ≠ gb430 ∧ k_ ≠ g ∧ k_ ≠ gb456) (.slice A455_2 ((rd_T83 x5_1 t452).f2).length c455_2) ((rd_T83 x5_1 t452).f2)):=⟨by (with_reducible repeat (first|apply Kd.V_alloc|apply Kd.V_drewN|apply Kd.V_drew));exact Kd.V_mono (Kd.V_far (p:=⟨gb456,2,none⟩) (Kd.V_far (p:=⟨gb456,1,none⟩) (Kd.V_far (p:=⟨gb456,0,none⟩) (Kd.V_mono HL455_2.out (fun k_ hk=>(⟨hk,hk.2⟩:_ ∧ k_ ≠ gb456))) (fun _ hk=>hk.2) (.bool ((rd_T83 x5_1 t452).f0))) (fun _ hk=>hk.2) (.slice A455_1 ((rd_T83 x5_1 t452).f1).length c455_1)) (fun _ hk=>hk.2) (.slice A455_2 ((rd_T83 x5_1 t452).f2).length c455_2)) (fun _ hk=>⟨hk.1.1.1.1,⟨hk.1.1.2,⟨hk.1.1.1.2.1,⟨hk.1.1.1.2.2,hk.1.2⟩⟩⟩⟩)⟩
           have n3_:Aside0 ((((w33.setCell ⟨gb456,0,none⟩ (.bool ((rd_T83 x5_1 t452).f0))).setCell ⟨gb456,1,none⟩ (.slice A455_1 ((rd_T83 x5_1 t452).f1).length c455_1)).setCell ⟨gb456,2,none⟩ (.slice A455_2 ((rd_T83 x5_1 t452).f2).length c455_2)).heap[gb430]? = some (.cells #[.slice A1_0 l1_0.length c1_0] 26 (0,0))):=⟨by (with_reducible repeat (first|refine blk_drewN ?_ _|refine blk_drew ?_|refine blk_alloc ?_ _));refine blk_far ?_ NB430_456.out _;(with_reducible repeat (first|refine blk_drewN ?_ _|refine blk_drew ?_|refine blk_alloc ?_ _));refine blk_far ?_ NB430_456.out _;(with_reducible repeat (first|refine blk_drewN ?_ _|refine blk_drew ?_|refine blk_alloc ?_ _));refine blk_far ?_ NB430_456.out _;(with_reducible repeat (first|refine blk_drewN ?_ _|refine blk_drew ?_|refine blk_alloc ?_ _));exact BK430.out⟩
           have n4_:Aside0 ((((w33.setCell ⟨gb456,0,none⟩ (.bool ((rd_T83 x5_1 t452).f0))).setCell ⟨gb456,1,none⟩ (.slice A455_1 ((rd_T83 x5_1 t452).f1).length c455_1)).setCell ⟨gb456,2,none⟩ (.slice A455_2 ((rd_T83 x5_1 t452).f2).length c455_2)).heap[gb456]? = some (.cells #[.bool ((rd_T83 x5_1 t452).f0),.slice A455_1 ((rd_T83 x5_1 t452).f1).length c455_1,.slice A455_2 ((rd_T83 x5_1 t452).f2).length c455_2] 83 (0,0))):=⟨by (with_reducible repeat (first|refine blk_drewN ?_ _|refine blk_drew ?_|refine blk_alloc ?_ _));refine blk_put (cs:=#[.bool ((rd_T83 x5_1 t452).f0),.slice A455_1 ((rd_T83 x5_1 t452).f1).length c455_1,.slice none 0 0]) ?_ 2 _ rfl;(with_reducible repeat (first|refine blk_drewN ?_ _|refine blk_drew ?_|refine blk_alloc ?_ _));refine blk_put (cs:=#[.bool ((rd_T83 x5_1 t452).f0),.slice none 0 0,.slice none 0 0]) ?_ 1 _ rfl;(with_reducible repeat (first|refine blk_drewN ?_ _|refine blk_drew ?_|refine blk_alloc ?_ _));refine blk_put (cs:=#[.bool false,.slice none 0 0,.slice none 0 0]) ?_ 0 _ rfl;(with_reducible repeat (first|refine blk_drewN ?_ _|refine blk_drew ?_|refine blk_alloc ?_ _));exact BK456.out⟩
           have n5_:Aside0 (IsS60 w0 (((w33.setCell ⟨gb456,0,none⟩ (.bool ((rd_T83 x5_1 t452).f0))).setCell ⟨gb456,1,none⟩ (.slice A455_1 ((rd_T83 x5_1 t452).f1).length c455_1)).setCell ⟨gb456,2,none⟩ (.slice A455_2 ((rd_T83 x5_1 t452).f2).length c455_2)) g s0_0 t453 t454):=⟨iIsS60⟩
           have n6_:Aside0 (KeepBut w (((w33.setCell ⟨gb456,0,none⟩ (.bool ((rd_T83 x5_1 t452).f0))).setCell ⟨gb456,1,none⟩ (.slice A455_1 ((rd_T83 x5_1 t452).f1).length c455_1)).setCell ⟨gb456,2,none⟩ (.slice A455_2 ((rd_T83 x5_1 t452).f2).length c455_2)) g none):=⟨kB⟩
           have n7_:Aside0 (Below w0.heap.size w0 (((w33.setCell ⟨gb456,0,none⟩ (.bool ((rd_T83 x5_1 t452).f0))).setCell ⟨gb456,1,none⟩ (.slice A455_1 ((rd_T83 x5_1 t452).f1).length c455_1)).setCell ⟨gb456,2,none⟩ (.slice A455_2 ((rd_T83 x5_1 t452).f2).length c455_2))):=⟨bH⟩
           (try clear HO_5)
           (try clear HL455_1)
           (try clear HL455_2)
           (try clear BK430)
           (try clear BK456)
           (try clear HI0)
           (try clear HK)
           (try clear HB)
           generalize (((w33.setCell ⟨gb456,0,none⟩ (.bool ((rd_T83 x5_1 t452).f0))).setCell ⟨gb456,1,none⟩ (.slice A455_1 ((rd_T83 x5_1 t452).f1).length c455_1)).setCell ⟨gb456,2,none⟩ (.slice A455_2 ((rd_T83 x5_1 t452).f2).length c455_2)) = w37 at n0_ n1_ n2_ n3_ n4_ n5_ n6_ n7_ ⊢
           have HO_5:=n0_
           have HL455_1:=n1_
           have HL455_2:=n2_
           have BK430:=n3_
           have BK456:=n4_
           have HI0:=n5_
           have HK:=n6_
           have HB:=n7_
           clear n0_ n1_ n2_ n3_ n4_ n5_ n6_ n7_
           replace HO_5:=Aside0.mk (Kd.N_drew HO_5.out);replace HL455_1:=Aside0.mk (Kd.V_drew HL455_1.out);replace HL455_2:=Aside0.mk (Kd.V_drew HL455_2.out);replace BK430:=Aside0.mk (blk_drew BK430.out);replace BK456:=Aside0.mk (blk_drew BK456.out);replace HI0:=Aside0.mk (IsS60.drew HI0.out);replace HK:=Aside0.mk (keep_drew HK.out);replace HB:=Aside0.mk (below_drew1 HB.out)
           refine start_ (n:=14) (S:=fun w'=>w'.cell? ⟨gb456,0,none⟩ = some (.bool ((rd_T83 x5_1 t452).f0)) ∧ w'.cell? ⟨gb456,1,none⟩ = some (.slice A455_1 ((rd_T83 x5_1 t452).f1).length c455_1) ∧ w'.cell? ⟨gb456,2,none⟩ = some (.slice A455_2 ((rd_T83 x5_1 t452).f2).length c455_2)) (ds:=[]) #[false,false,false,false,false,false,false,false,false,false,false,false,false,false] (by kernel_rfl) rfl rfl ⟨(blk_cell BK456.out 0).trans rfl,(blk_cell BK456.out 1).trans rfl,(blk_cell BK456.out 2).trans rfl⟩ (fun hHeld=>?_);refine with_tabW spec_l1Cur_clause.tab8 spec_l1Cur_clause.bits8 (fun HT_ HW_=>?_)
           generalize w37.drew = w38 at HO_5 HL455_1 HL455_2 BK430 BK456 HI0 HK HB hHeld ⊢
           refine pU (i:=0) (N:=some 35) #[true,false,false,false,false,false,false,false,false,false,false,false,false,false] (any_of HT_.out (by kernel_rfl)) ?_
           refine pU (i:=1) (N:=some 36) #[true,true,false,false,false,false,false,false,false,false,false,false,false,false] (any_of HT_.out (by kernel_rfl)) ?_
           refine pU (i:=3) (N:=some 38) #[true,true,false,true,false,false,false,false,false,false,false,false,false,false] (any_of HT_.out (by kernel_rfl)) ?_
           refine pU (i:=6) (N:=some 41) #[true,true,false,true,false,false,true,false,false,false,false,false,false,false] (any_of HT_.out (by kernel_rfl)) ?_
           refine pU (i:=8) (N:=some 43) #[true,true,false,true,false,false,true,false,true,false,false,false,false,false] (any_of HT_.out (by kernel_rfl)) ?_
           refine take_ (i:=2) (N:=some 37) (v:=?_) (a':=?_) #[true,true,true,true,false,false,true,false,true,false,false,false,false,false] rfl rfl (take_ofW HT_.out HW_.out (by kernel_rfl)) (fun _ _ _ h=>h) (Or.inl ⟨by rfl,?_⟩) hHeld ?_ ?_
           rotate_left
           ·rintro w' ⟨s0,s1,s2⟩
            go_simp
            with_reducible rfl
           rotate_left
           ·simp only [Act.put,List.setIfInBounds_toArray,List.set_cons_zero,List.set_cons_succ,i64_w,i32_w]
            rfl
           refine take_ (i:=7) (N:=some 42) (v:=?_) (a':=?_) #[true,true,true,true,false,false,true,true,true,false,false,false,false,false] rfl rfl (take_ofW HT_.out HW_.out (by kernel_rfl)) (fun _ _ _ h=>h) (Or.inl ⟨by rfl,?_⟩) hHeld ?_ ?_
           rotate_left
           ·rintro w' ⟨s0,s1,s2⟩
            go_simp
            with_reducible rfl
           rotate_left
           ·simp only [Act.put,List.setIfInBounds_toArray,List.set_cons_zero,List.set_cons_succ,i64_w,i32_w]
            rfl
           refine take_ (i:=9) (N:=some 44) (v:=?_) (a':=?_) #[true,true,true,true,false,false,true,true,true,true,false,false,false,false] rfl rfl (take_ofW HT_.out HW_.out (by kernel_rfl)) (fun _ _ _ h=>h) (Or.inl ⟨by rfl,?_⟩) hHeld ?_ ?_
           rotate_left
           ·rintro w' ⟨s0,s1,s2⟩
            go_simp
            with_reducible rfl
           rotate_left
           ·simp only [Act.put,List.setIfInBounds_toArray,List.set_cons_zero,List.set_cons_succ,i64_w,i32_w]
            rfl
           refine one_ (i:=4) (N:=some 39) #[true,true,true,true,true,false,true,true,true,true,false,false,false,false] rfl rfl (one_of HT_.out (by kernel_rfl)) (by decide) (fun K hK=>?_)
           refine goes_ Try.func75 (by kernel_rfl) rfl #[.pointer (some ⟨g,0,none⟩),.int .i64 3] (by rfl) rfl rfl Ya ?_
           with_reducible refine (spec_l1Cur_one.calls g s0_0 t453 t454 3 t457 t458 t459 w0 _ ?side1 ?side2 A29.out).mono ?_
           (case side1=>exact iIsS60)
           (case side2=>exact bH)
           rintro e w39 ⟨rfl,hi,hb,hk⟩
           refine ⟨_,rfl,?_⟩
           replace HO_5:=Aside0.mk (Kd.N_mono (Kd.N_keep (Kd.N_mono (ok:=fun k_=>(((w.heap.size ≤ k_)) ∧ (k_ ≠ gb430 ∧ (k_ ≠ g ∧ k_ ≠ gb456)))) (rN HO_5) (fun k_ hk_=>(⟨hk_,hk_.2.2.1⟩:_ ∧ k_ ≠ g))) hk (fun _ h=>h.2)) (fun _ h=>h.1));replace BK430:=Aside0.mk (KeepBut.blk hk (g':=gb430) (o:=.cells #[.slice A1_0 l1_0.length c1_0] 26 (0,0)) (bB BK430) NB430_0.out (by simp));replace HL455_1:=Aside0.mk (Kd.V_mono (Kd.V_keep (Kd.V_mono (ok:=fun k_=>(((w.heap.size ≤ k_)) ∧ (some k_ ≠ (.slice (some ad455) x5_1.length co31:Value).ownBlock ∧ (k_ ≠ gb430 ∧ (k_ ≠ g ∧ k_ ≠ gb456))))) (rV HL455_1) (fun k_ hk_=>(⟨hk_,hk_.2.2.2.1⟩:_ ∧ k_ ≠ g))) hk (fun _ h=>h.2)) (fun _ h=>h.1));replace HL455_2:=Aside0.mk (Kd.V_mono (Kd.V_keep (Kd.V_mono (ok:=fun k_=>(((w.heap.size ≤ k_)) ∧ (some k_ ≠ (.slice (some ad455) x5_1.length co31:Value).ownBlock ∧ (k_ ≠ gb430 ∧ (k_ ≠ g ∧ k_ ≠ gb456))))) (rV HL455_2) (fun k_ hk_=>(⟨hk_,hk_.2.2.2.1⟩:_ ∧ k_ ≠ g))) hk (fun _ h=>h.2)) (fun _ h=>h.1));replace BK456:=Aside0.mk (KeepBut.blk hk (g':=gb456) (o:=.cells #[.bool ((rd_T83 x5_1 t452).f0),.slice A455_1 ((rd_T83 x5_1 t452).f1).length c455_1,.slice A455_2 ((rd_T83 x5_1 t452).f2).length c455_2] 83 (0,0)) (bB BK456) NB456_0.out (by simp));replace HK:=Aside0.mk (KeepBut.trans kB hk (.inl rfl));replace HB:=Aside0.mk (hb);replace HI0:=Aside0.mk (hi)
           (try clear hb)
           (try clear hb2)
           (try clear hk)
           (try clear hi)
           refine hK.out _ _ ⟨(blk_cell BK456.out 0).trans rfl,(blk_cell BK456.out 1).trans rfl,(blk_cell BK456.out 2).trans rfl⟩ (fun hHeld=>?_)
           clear hK K
           refine nM (N:=some 39) ?_
           refine pU (i:=5) (N:=some 40) #[true,true,true,true,true,true,true,true,true,true,false,false,false,false] (any_of HT_.out (by kernel_rfl)) ?_
           refine pU (i:=10) (N:=some 45) #[true,true,true,true,true,true,true,true,true,true,true,false,false,false] (any_of HT_.out (by kernel_rfl)) ?_
           refine one_ (i:=11) (N:=some 46) #[true,true,true,true,true,true,true,true,true,true,true,true,false,false] rfl rfl (one_of HT_.out (by kernel_rfl)) (by decide) (fun K hK=>?_)
           refine value_ (w1:=?_) (v:=?_) (by rfl) rfl ?_ ?_
           rotate_left 2
           ·go_simp
            constructor
            ·rfl
            ·rfl
           refine hK.out _ _ ⟨(blk_cell (blk_alloc BK456.out _) 0).trans rfl,(blk_cell (blk_alloc BK456.out _) 1).trans rfl,(blk_cell (blk_alloc BK456.out _) 2).trans rfl⟩ (fun hHeld=>?_)
           clear hK K
           refine nM (N:=some 46) ?_
           refine one_ (i:=12) (N:=some 47) #[true,true,true,true,true,true,true,true,true,true,true,true,true,false] rfl rfl (one_of HT_.out (by kernel_rfl)) (by decide) (fun K hK=>?_)
           refine Kd.N_append_step k83 w.heap.size (by rfl) (.tmp 35) (.tmp 46) 40 83 (.agg #[(.bool false),(.slice none 0 0),(.slice none 0 0)]) 56 rfl Try.underlying40 info83 rfl (by decide) Zc (.slice (some ad455) x5_1.length co31) x5_1 (⟨(((rd_T83 x5_1 t452).f0) != t457),(rd_T83 x5_1 t452).f2,(rd_T83 x5_1 t452).f1⟩:S83) [.bool (((rd_T83 x5_1 t452).f0) != t457),.slice A455_2 ((rd_T83 x5_1 t452).f2).length c455_2,.slice A455_1 ((rd_T83 x5_1 t452).f1).length c455_1] (fun k_=>(w.heap.size ≤ k_) ∧ k_ ≠ gb430 ∧ k_ ≠ gb456 ∧ k_ ≠ g) (fun k_=>((fun k_=>(w.heap.size ≤ k_) ∧ k_ ≠ gb430 ∧ k_ ≠ gb456 ∧ k_ ≠ g)) k_ ∧ some k_ ≠ (.slice (some ad455) x5_1.length co31:Value).ownBlock) rfl rfl ?aP (fun _ hk=>hk) ?aF ?aO (Below.refl _ _) ?aS ?aL ?_
           (case aP=>exact (k83_mkF _ _ (⟨(((rd_T83 x5_1 t452).f0) != t457),(rd_T83 x5_1 t452).f2,(rd_T83 x5_1 t452).f1⟩:S83) (Kd.V_reads' (Kd.V_mono (ok':=(fun k_=>((fun k_=>(w.heap.size ≤ k_) ∧ k_ ≠ gb430 ∧ k_ ≠ gb456 ∧ k_ ≠ g)) k_ ∧ some k_ ≠ (.slice (some ad455) x5_1.length co31:Value).ownBlock)) (HL455_2.out) (fun k_ hk=>⟨⟨hk.1,⟨hk.2.2.1,⟨hk.2.2.2.2,hk.2.2.2.1⟩⟩⟩,hk.2.1⟩))).2.1 (Kd.V_F (Kd.V_mono (ok':=(fun k_=>((fun k_=>(w.heap.size ≤ k_) ∧ k_ ≠ gb430 ∧ k_ ≠ gb456 ∧ k_ ≠ g)) k_ ∧ some k_ ≠ (.slice (some ad455) x5_1.length co31:Value).ownBlock)) (HL455_2.out) (fun k_ hk=>⟨⟨hk.1,⟨hk.2.2.1,⟨hk.2.2.2.2,hk.2.2.2.1⟩⟩⟩,hk.2.1⟩))) (Kd.V_reads' (Kd.V_mono (ok':=(fun k_=>((fun k_=>(w.heap.size ≤ k_) ∧ k_ ≠ gb430 ∧ k_ ≠ gb456 ∧ k_ ≠ g)) k_ ∧ some k_ ≠ (.slice (some ad455) x5_1.length co31:Value).ownBlock)) (HL455_1.out) (fun k_ hk=>⟨⟨hk.1,⟨hk.2.2.1,⟨hk.2.2.2.2,hk.2.2.2.1⟩⟩⟩,hk.2.1⟩))).2.1 (Kd.V_F (Kd.V_mono (ok':=(fun k_=>((fun k_=>(w.heap.size ≤ k_) ∧ k_ ≠ gb430 ∧ k_ ≠ gb456 ∧ k_ ≠ g)) k_ ∧ some k_ ≠ (.slice (some ad455) x5_1.length co31:Value).ownBlock)) (HL455_1.out) (fun k_ hk=>⟨⟨hk.1,⟨hk.2.2.1,⟨hk.2.2.2.2,hk.2.2.2.1⟩⟩⟩,hk.2.1⟩)))))
           (case aF=>exact (fun k_ hk=>⟨(Nat.le_trans (keep_size (w:=w) (g:=g) (row:=none) kB) hk),Kd.freshB (bB BK430) k_ hk,Kd.freshB (bB BK456) k_ hk,IsS60.fresh iIsS60 k_ hk⟩))
           (case aO=>exact (by (with_reducible repeat (first|apply Kd.N_alloc|apply Kd.N_drewN|apply Kd.N_drew));exact Kd.N_mono HO_5.out (fun _ hk=>⟨hk.1,⟨hk.2.1,⟨hk.2.2.2,hk.2.2.1⟩⟩⟩)))
           (case aS=>exact YO)
           (case aL=>have:=LMc30.out;omega)
           intro v461 w40 ho hb hg hat
           rw [← Ny460.out] at ho
           have n0_:=Aside0.mk (blk_grown (bB BK430) hg (Kd.N_ne HO_5.out BK430.out (by decide)));have n1_:=Aside0.mk (IsS60.grown iIsS60 hg (IsS60.own_neN HI0.out HO_5.out (by decide)));have n2_:=Aside0.mk (Kd.V_afterv (ok:=(fun k_=>(w.heap.size ≤ k_) ∧ k_ ≠ gb430 ∧ k_ ≠ g ∧ k_ ≠ gb456)) (by (with_reducible repeat (first|apply Kd.V_alloc|apply Kd.V_drewN|apply Kd.V_drew));exact Kd.V_mono HL455_1.out (fun _ hk=>⟨⟨hk.1,⟨hk.2.2.1,⟨hk.2.2.2.1,hk.2.2.2.2⟩⟩⟩,hk.2.1⟩)) hg hat);have n3_:=Aside0.mk (Kd.V_afterv (ok:=(fun k_=>(w.heap.size ≤ k_) ∧ k_ ≠ gb430 ∧ k_ ≠ g ∧ k_ ≠ gb456)) (by (with_reducible repeat (first|apply Kd.V_alloc|apply Kd.V_drewN|apply Kd.V_drew));exact Kd.V_mono HL455_2.out (fun _ hk=>⟨⟨hk.1,⟨hk.2.2.1,⟨hk.2.2.2.1,hk.2.2.2.2⟩⟩⟩,hk.2.1⟩)) hg hat);have n4_:=Aside0.mk (blk_grown (bB BK456) hg (Kd.N_away HO_5.out (fun _ hk=>hk.2.2.2)));have n5_:=Aside0.mk (below_weaken bH HL.out hb);have n6_:=Aside0.mk (KeepBut.trans kB (KeepBut.of_grown hg g) (Kd.N_base2 HO_5.out));have n7_:=Aside0.mk (ho);clear BK430;clear HI0;clear HL455_1;clear HL455_2;clear BK456;clear HB;clear HK;clear HO_5;have BK430:=n0_;have HI0:=n1_;have HL455_1:=n2_;have HL455_2:=n3_;have BK456:=n4_;have HB:=n5_;have HK:=n6_;have HO462:=n7_;clear n0_ n1_ n2_ n3_ n4_ n5_ n6_ n7_
           clear ho hb hg hat
           refine hK.out _ _ ⟨(blk_cell BK456.out 0).trans rfl,(blk_cell BK456.out 1).trans rfl,(blk_cell BK456.out 2).trans rfl⟩ (fun hHeld=>?_)
           clear hK K
           refine nM (N:=some 47) ?_
           refine pU (i:=13) (N:=some 5) #[true,true,true,true,true,true,true,true,true,true,true,true,true,true] (any_of HT_.out (by kernel_rfl)) ?_
           refine done_ (done_of HT_.out (by kernel_rfl)) ?_
           try go_wp2
           go_meet
           case rel=>exact ⟨_,(y460),(t458),(t459),H',⟨by have:=HK1.out;have:=HJ17.out;first|omega|exact Nat.le_refl _⟩,⟨by (with_reducible repeat (first|apply Kd.N_alloc|apply Kd.N_drewN|apply Kd.N_drew));exact Kd.N_mono HO462.out (fun _ hk=>⟨hk.1,⟨hk.2.1,hk.2.2.2⟩⟩)⟩,⟨Yi⟩,⟨iIsS60⟩,⟨kB⟩,⟨bH⟩⟩
          ·rw [if_neg c30] at H
           exact absurd H (by simp)
         ·rw [if_neg c28] at H
          exact absurd H (by simp)
        ·rw [if_neg c27] at H
         exact absurd H (by simp)
       ·replace c25:=Bool.eq_false_iff.mpr c25
        subst c25
        have H1:(spec_l1Cur_clause.j2 kj17 x5_1 s0_0 x1001_17 x1002_17 l1_0) = some (r1,r2,r3):=by rw [if_neg (show ¬ (false = true) by decide)] at H;exact H
        clear H
        have H:=H1
        clear H1
        have H':=Aside0.mk H
        clear H
        go_wp2
        go_meet
        case rel=>exact ⟨_,(x5_1),(x1001_17),(x1002_17),H',⟨by have:=HK1.out;have:=HJ17.out;first|omega|exact Nat.le_refl _⟩,⟨rN HO_5⟩,⟨Yi⟩,⟨iIsS60⟩,⟨kB⟩,⟨bH⟩⟩
      case rest =>
       clear HC24
       try clear c1
       try clear c2
       try clear p2
       try clear c3
       try clear c4
       try clear p4
       try clear q4
       try clear hx4
       try clear p6
       try clear c7
       try clear c8
       try clear c9
       try clear c9b0
       try clear c11
       try clear c12
       try clear c19
       try clear c19b0
       try clear c19b1
       try clear c25
       try clear c27
       try clear c27b0
       try clear c28
       try clear c28b0
       try clear c30
       try clear c34
       try clear c35
       try clear hcz13_0
       try clear hcz36_0
       try clear hcz36_1
       try clear hcz36_2
       try clear hfz13_0
       try clear hfz36_0
       try clear hfz36_1
       try clear hfz36_2
       try clear hx455_0
       try clear hx455_1
       try clear hx455_2
       try clear p2
       try clear p455
       try clear p6
       try clear q455
       obtain ⟨kq,x5_23,x1001_23,x1002_23,HA,HJ23,HO_5,BK430,HI0,HK,HB⟩:=hcut
       cases kq with
       | zero=>exact absurd HA.out (by simp [spec_l1Cur_clause.j2])
       | succ kj23 =>
        have H:=HA.out
        clear HA
        simp only [spec_l1Cur_clause.j2] at H
        have HC41:=Aside0.mk H
        clear H
        go_upto_region 9 with (fail)
        go_cut [54] (fun v54 wc=>∃ (kq:Nat) (x54_40:Bool) (x1001_40:Int) (x1002_40:Int),v54 = .bool x54_40 ∧ Aside0 (spec_l1Cur_clause.j3 kq x5_23 x54_40 s0_0 x1001_40 x1002_40 l1_0 = some (r1,r2,r3)) ∧ Aside0 (kq ≤ kj23) ∧ Aside0 (Kd.N k83 83 wc w.heap.size (fun k_=>(w.heap.size ≤ k_) ∧ k_ ≠ gb430 ∧ k_ ≠ g) u5 x5_23) ∧ Aside0 (wc.heap[gb430]? = some (.cells #[(.slice A1_0 l1_0.length c1_0)] 26 (0,0))) ∧ Aside0 (IsS60 w0 wc g s0_0 x1001_40 x1002_40) ∧ Aside0 (KeepBut w wc g none) ∧ Aside0 (Below w0.heap.size w0 wc))
        case first =>
         have H:=HC41.out
         clear HC41
         by_cases c42:(x5_23.length:Int) > 0
         ·rw [if_pos c42] at H
          have c42b0:decide (0 < (x5_23.length:Int)) = true:=decide_eq_true c42
          have c42b1:decide (0 < x5_23.length) = true:=decide_eq_true (by omega)
          clear c42
          (first|rw [c42b0]|(simp only [i64_w,i32_w];rw [c42b0])|skip)
          replace H:=Option.bind_eq_some_iff.mp H
          obtain ⟨⟨t463,t464,t465⟩,A430,H⟩:=H
          replace H:(spec_l1Cur_clause.j3 kj23 x5_23 t463 s0_0 t464 t465 l1_0) = some (r1,r2,r3):=H
          have A43:=Aside0.mk A430
          clear A430
          have H':=Aside0.mk H
          clear H
          obtain ⟨Ao44,co44,eo44⟩:=Kd.N_slice HO_5.out
          subst eo44
          go_wp2_with (first|(go_at_call 75;(with_reducible refine (spec_l1Cur_one.calls g s0_0 x1001_23 x1002_23 12 t463 t464 t465 w0 _ ?side1 ?side2 A43.out).mono ?_);(case side1=>exact iIsS60);(case side2=>exact bH);rintro e w45 ⟨rfl,hi,hb,hk⟩;replace HO_5:=Aside0.mk (Kd.N_mono (Kd.N_keep (Kd.N_mono (ok:=fun k_=>(((w.heap.size ≤ k_)) ∧ (k_ ≠ gb430 ∧ k_ ≠ g))) (rN HO_5) (fun k_ hk_=>(⟨hk_,hk_.2.2⟩:_ ∧ k_ ≠ g))) hk (fun _ h=>h.2)) (fun _ h=>h.1));replace BK430:=Aside0.mk (KeepBut.blk hk (g':=gb430) (o:=.cells #[.slice A1_0 l1_0.length c1_0] 26 (0,0)) (bB BK430) NB430_0.out (by simp));replace HK:=Aside0.mk (KeepBut.trans kB hk (.inl rfl));replace HB:=Aside0.mk (hb);replace HI0:=Aside0.mk (hi);(try clear hb);(try clear hb2);(try clear hk);(try clear hi)))
          go_meet
          case rel=>exact ⟨_,(t463),(t464),(t465),Ye,H',⟨by have:=HK1.out;have:=HJ17.out;have:=HJ23.out;first|omega|exact Nat.le_refl _⟩,⟨rN HO_5⟩,⟨Yi⟩,⟨iIsS60⟩,⟨kB⟩,⟨bH⟩⟩
         ·rw [if_neg c42] at H
          have c42b0:decide (0 < (x5_23.length:Int)) = false:=decide_eq_false c42
          have c42b1:decide (0 < x5_23.length) = false:=decide_eq_false (by omega)
          clear c42
          (first|rw [c42b0]|(simp only [i64_w,i32_w];rw [c42b0])|skip)
          have H':=Aside0.mk H
          clear H
          obtain ⟨Ao46,co46,eo46⟩:=Kd.N_slice HO_5.out
          subst eo46
          go_wp2
          go_meet
          case rel=>exact ⟨_,(false),(x1001_23),(x1002_23),Ye,H',⟨by have:=HK1.out;have:=HJ17.out;have:=HJ23.out;first|omega|exact Nat.le_refl _⟩,⟨rN HO_5⟩,⟨Yi⟩,⟨iIsS60⟩,⟨kB⟩,⟨bH⟩⟩
        case rest =>
         clear HC41
         try clear c1
         try clear c2
         try clear p2
         try clear c3
         try clear c4
         try clear p4
         try clear q4
         try clear hx4
         try clear p6
         try clear c7
         try clear c8
         try clear c9
         try clear c9b0
         try clear c11
         try clear c12
         try clear c19
         try clear c19b0
         try clear c19b1
         try clear c25
         try clear c27
         try clear c27b0
         try clear c28
         try clear c28b0
         try clear c30
         try clear c34
         try clear c35
         try clear c42
         try clear c42b0
         try clear c42b1
         try clear c45
         try clear p45
         try clear q45
         try clear hx45
         try clear hcz13_0
         try clear hcz36_0
         try clear hcz36_1
         try clear hcz36_2
         try clear hfz13_0
         try clear hfz36_0
         try clear hfz36_1
         try clear hfz36_2
         try clear hx455_0
         try clear hx455_1
         try clear hx455_2
         try clear p2
         try clear p4
         try clear p455
         try clear p6
         try clear q4
         try clear q455
         obtain ⟨kq,x54_40,x1001_40,x1002_40,rfl,HA,HJ40,HO_5,BK430,HI0,HK,HB⟩:=hcut
         cases kq with
         | zero=>exact absurd HA.out (by simp [spec_l1Cur_clause.j3])
         | succ kj40 =>
          have H:=HA.out
          clear HA
          simp only [spec_l1Cur_clause.j3] at H
          have HC47:=Aside0.mk H
          clear H
          go_upto_if 54 with (fail)
          go_cut [] (fun wc=>∃ (kq:Nat) (x5_46:List (S83)),Aside0 (spec_l1Cur_clause.j4 kq x5_46 s0_0 x1001_40 x1002_40 l1_0 = some (r1,r2,r3)) ∧ Aside0 (kq ≤ kj40) ∧ Aside0 (Kd.N k83 83 wc w.heap.size (fun k_=>(w.heap.size ≤ k_) ∧ k_ ≠ gb430 ∧ k_ ≠ g) u5 x5_46) ∧ Aside0 (wc.heap[gb430]? = some (.cells #[(.slice A1_0 l1_0.length c1_0)] 26 (0,0))) ∧ Aside0 (IsS60 w0 wc g s0_0 x1001_40 x1002_40) ∧ Aside0 (KeepBut w wc g none) ∧ Aside0 (Below w0.heap.size w0 wc))
          case first =>
           have H:=HC47.out
           clear HC47
           by_cases c48:x54_40 = true
           ·subst c48
            have H1:(if 0 < (x5_23.length:Int) then (spec_l1Cur_clause.j4 kj40 (x5_23.set (0:Int).toNat (⟨(rd_T83 x5_23 0).f0,(rd_T83 x5_23 0).f1,(rd_T83 x5_23 0).f1⟩:S83)) s0_0 x1001_40 x1002_40 l1_0) else (none)) = some (r1,r2,r3):=by rw [if_pos rfl] at H;exact H
            clear H
            have H:=H1
            clear H1
            by_cases c49:0 < (x5_23.length:Int)
            ·rw [if_pos c49] at H
             have c49b0:=decide_eq_true c49
             have c49b1:decide (0 < x5_23.length) = true:=decide_eq_true (by omega)
             clear c49
             (first|rw [c49b0]|(simp only [i64_w,i32_w];rw [c49b0])|skip)
             obtain ⟨y467,hy467⟩:∃ y_:List (S83),y_ = (x5_23.set (0:Int).toNat (⟨(rd_T83 x5_23 0).f0,(rd_T83 x5_23 0).f1,(rd_T83 x5_23 0).f1⟩:S83)):=⟨_,rfl⟩
             replace H:(spec_l1Cur_clause.j4 kj40 y467 s0_0 x1001_40 x1002_40 l1_0) = some (r1,r2,r3):=by first|(rw [hy467];with_reducible exact H)|(have H2_:=(Option.bind_some _ _).symm.trans H;rw [hy467];with_reducible exact H2_)|(have H2_:=(Option.bind_some _ _).symm.trans H;with_reducible exact H2_)|with_reducible exact H|(rw [hy467];exact H)|exact H
             have Ny467:=Aside0.mk hy467
             clear hy467
             have H':=Aside0.mk H
             clear H
             obtain ⟨Ao51,co51,eo51⟩:=Kd.N_slice HO_5.out
             subst eo51
             have p466:0 ≤ (0:Int):=(by omega)
             have q466:0 < (x5_23.length:Int):=oD
             obtain ⟨ad466,A466_1,c466_1,A466_2,c466_2,e466,hx466_0,hx466_1,hx466_2,hl466_1,hi466_1,hl466_2,hi466_2⟩:=at_T83 (Kd.N_reads' HO_5.out).2.2 0 p466 q466
             cases e466
             obtain ⟨ce466,hce466,hMe466,hcc466⟩:=Kd.N_get HO_5.out z83 0 p466 (by first|exact q466|exact oD|(have e_:=(Kd.N_reads' HO_5.out).1;omega))
             obtain ⟨ua466_1,uc466_1,ua466_2,uc466_2,rfl,ul466_1,ge466_1,ul466_2,ge466_2⟩:=k83_openF hMe466
             have hv466_1:=hcc466 1 _ rfl
             rw [add_field _ _ 1 (by omega)] at hv466_1
             replace hv466_1:=Option.some.inj (hv466_1.symm.trans hx466_1)
             injection hv466_1 with hva_ hvn_ hvc_
             rw [hva_] at ge466_1
             rw [hvc_] at ul466_1
             have HL466_1:=Aside0.mk (show Kd.V (Kd.int .i64) 3 _ w.heap.size _ _ ((rd_T83 x5_23 0).f1) from Kd.V_mk ul466_1 ge466_1)
             clear hva_ hvn_ hvc_ ge466_1 ul466_1
             have hv466_2:=hcc466 2 _ rfl
             rw [add_field _ _ 2 (by omega)] at hv466_2
             replace hv466_2:=Option.some.inj (hv466_2.symm.trans hx466_2)
             injection hv466_2 with hva_ hvn_ hvc_
             rw [hva_] at ge466_2
             rw [hvc_] at ul466_2
             have HL466_2:=Aside0.mk (show Kd.V (Kd.int .i64) 3 _ w.heap.size _ _ ((rd_T83 x5_23 0).f2) from Kd.V_mk ul466_2 ge466_2)
             clear hva_ hvn_ hvc_ ge466_2 ul466_2
             clear hcc466 hce466
             have qi466:(0 < x5_23.length) = True:=eq_true (by omega)
             (try rw [show ((0:Int)).toNat = 0 from rfl] at hx466_0)
             (try rw [show 0 * 3 = 0 from rfl] at hx466_0)
             (try rw [Addr.add_zero'] at hx466_0)
             (try rw [show ((0:Int)).toNat = 0 from rfl] at hx466_1)
             (try rw [show 0 * 3 = 0 from rfl] at hx466_1)
             (try rw [Addr.add_zero'] at hx466_1)
             (try rw [show ((0:Int)).toNat = 0 from rfl] at hx466_2)
             (try rw [show 0 * 3 = 0 from rfl] at hx466_2)
             (try rw [Addr.add_zero'] at hx466_2)
             have HR466_1:=Aside0.mk hi466_1
             have HC466_1:=Aside0.mk hl466_1
             clear hi466_1 hl466_1
             have HR466_2:=Aside0.mk hi466_2
             have HC466_2:=Aside0.mk hl466_2
             clear hi466_2 hl466_2
             replace p466:=eq_true p466
             replace q466:=eq_true q466
             have p50:0 ≤ (0:Int):=(by omega)
             have q50:(0:Int) < ((x5_23.length:Int):Int):=oD
             have qi50:(0 < x5_23.length) = True:=eq_true (by omega)
             obtain ⟨go50,co50,eo50,gb50,gl50,cl50,HG50⟩:=Kd.N_form HO_5.out (by omega)
             (first|cases eo50|(injection eo50 with ea_ en_ ec_;(first|subst ea_|(injection ea_ with ea_;subst ea_));subst ec_;clear en_))
             have GB50:=Aside0.mk gb50
             have GG50:=Aside0.mk HG50
             clear gb50 gl50 HG50
             (first|simp only [add_plain] at hx466_0|skip)
             (first|simp only [add_plain] at hx466_1|skip)
             (first|simp only [add_plain] at hx466_2|skip)
             obtain ⟨ce50,hcl50,hM50,hcc50,hfr50⟩:=Kd.N_elem HO_5.out z83 (0:Int) p50 q50
             obtain ⟨ua50_1,uc50_1,ua50_2,uc50_2,rfl,ul50_1,ge50_1,ul50_2,ge50_2⟩:=k83_openF hM50
             have hx50_0:wc.cell? ⟨go50,(0:Int).toNat * 3,none⟩ = some (.bool ((rd_T83 x5_23 0).f0)):=hcc50 0 _ rfl
             have hx50_1:wc.cell? ⟨go50,(0:Int).toNat * 3 + 1,none⟩ = some (.slice ua50_1 ((rd_T83 x5_23 0).f1).length uc50_1):=hcc50 1 _ rfl
             have hx50_2:wc.cell? ⟨go50,(0:Int).toNat * 3 + 2,none⟩ = some (.slice ua50_2 ((rd_T83 x5_23 0).f2).length uc50_2):=hcc50 2 _ rfl
             have hf50_0:wc.frozen? ⟨go50,(0:Int).toNat * 3,none⟩ = false:=hfr50 0
             have hf50_1:wc.frozen? ⟨go50,(0:Int).toNat * 3 + 1,none⟩ = false:=hfr50 1
             have hf50_2:wc.frozen? ⟨go50,(0:Int).toNat * 3 + 2,none⟩ = false:=hfr50 2
             clear hcl50 hcc50 hfr50;(try clear hM50)
             (try rw [show ((0:Int)).toNat = 0 from rfl] at hx50_0)
             (try simp only [Nat.reduceMul,Nat.zero_mul,Nat.zero_add,Nat.reduceAdd] at hx50_0)
             (try rw [show ((0:Int)).toNat = 0 from rfl] at hf50_0)
             (try simp only [Nat.reduceMul,Nat.zero_mul,Nat.zero_add,Nat.reduceAdd] at hf50_0)
             (try rw [show ((0:Int)).toNat = 0 from rfl] at hx50_1)
             (try simp only [Nat.reduceMul,Nat.zero_mul,Nat.zero_add,Nat.reduceAdd] at hx50_1)
             (try rw [show ((0:Int)).toNat = 0 from rfl] at hf50_1)
             (try simp only [Nat.reduceMul,Nat.zero_mul,Nat.zero_add,Nat.reduceAdd] at hf50_1)
             (try rw [show ((0:Int)).toNat = 0 from rfl] at hx50_2)
             (try simp only [Nat.reduceMul,Nat.zero_mul,Nat.zero_add,Nat.reduceAdd] at hx50_2)
             (try rw [show ((0:Int)).toNat = 0 from rfl] at hf50_2)
             (try simp only [Nat.reduceMul,Nat.zero_mul,Nat.zero_add,Nat.reduceAdd] at hf50_2)
             replace p50:=eq_true p50
             replace q50:=eq_true q50
             have HX52:=Aside0.mk (show Kd.N k83 83 wc w.heap.size (fun k_=>(w.heap.size ≤ k_) ∧ k_ ≠ gb430 ∧ k_ ≠ g) (.slice (some ⟨go50,0,none⟩) x5_23.length co51) x5_23 from (rN HO_5))
             obtain ⟨ce52,hcl52,hM52,hcc52,hfr52⟩:=Kd.N_elem HX52.out z83 (0:Int) (by omega) (by have h_:(0:Int) < ((x5_23.length:Int):Int):=oD;first|exact h_|(have e_:=(Kd.N_reads' HO_5.out).1;omega)|simpa using h_)
             obtain ⟨ua52_1,uc52_1,ua52_2,uc52_2,rfl,ul52_1,ge52_1,ul52_2,ge52_2⟩:=k83_openF hM52
             have HP52:=Kd.N_seg HX52.out (0:Int) (by omega) (by have h_:(0:Int) < ((x5_23.length:Int):Int):=oD;first|exact h_|(have e_:=(Kd.N_reads' HO_5.out).1;omega)|simpa using h_) (seg:=[.slice A466_1 ((rd_T83 x5_23 0).f1).length c466_1]) (j:=2) hcl52 hcc52 (show 3 ≤ 3 from by decide) (x':=(⟨(rd_T83 x5_23 0).f0,(rd_T83 x5_23 0).f1,(rd_T83 x5_23 0).f1⟩:S83)) (k83_mkF _ _ (⟨(rd_T83 x5_23 0).f0,(rd_T83 x5_23 0).f1,(rd_T83 x5_23 0).f1⟩:S83) ul52_1 ge52_1 (Kd.V_reads' (Kd.V_mono (ok':=(fun k_=>((fun k_=>(w.heap.size ≤ k_) ∧ k_ ≠ gb430 ∧ k_ ≠ g)) k_ ∧ k_ ≠ go50)) (HL466_1.out) (fun k_ hk=>⟨⟨hk.1.1,⟨hk.1.2.1,hk.1.2.2⟩⟩,fun e_=>(hk.2) (by rw [e_];rfl)⟩))).2.1 (Kd.V_F (Kd.V_mono (ok':=(fun k_=>((fun k_=>(w.heap.size ≤ k_) ∧ k_ ≠ gb430 ∧ k_ ≠ g)) k_ ∧ k_ ≠ go50)) (HL466_1.out) (fun k_ hk=>⟨⟨hk.1.1,⟨hk.1.2.1,hk.1.2.2⟩⟩,fun e_=>(hk.2) (by rw [e_];rfl)⟩)))) (fun _ hk=>hk)
             have hx52_2:=hcc52 2 _ rfl
             (try simp only [show (k83).sz = 3 from rfl,Nat.mul_one,Nat.add_zero] at hx52_2)
             (try rw [show ((0:Int)).toNat = 0 from rfl] at hx52_2)
             (try simp only [Nat.reduceMul,Nat.zero_mul,Nat.zero_add,Nat.reduceAdd] at hx52_2)
             have hf52_2:=hfr52 2
             (try simp only [show (k83).sz = 3 from rfl,Nat.mul_one,Nat.add_zero] at hf52_2)
             (try rw [show ((0:Int)).toNat = 0 from rfl] at hf52_2)
             (try simp only [Nat.reduceMul,Nat.zero_mul,Nat.zero_add,Nat.reduceAdd] at hf52_2)
             clear hcl52 hcc52 hfr52;(try clear hM52)
             go_wp2_with (first|((with_reducible refine gate_store (t:=24) (p:=61) rfl ?_);refine store_event (t:=24) (p:=61) (v:=?vo_w53) (w1:=(wc.setCell ⟨go50,2,none⟩ (.slice A466_1 ((rd_T83 x5_23 0).f1).length c466_1))) ?hg ?ho ?hn ?hr ?_;(case ho=>rfl);(case hg=>rfl);(case hn=>rfl);(case hr=>exact Yd);intro w53 hw;have hg:wc.grownBy w53 (some go50):=(by rw [hw];exact HP52.2);have hp_:Kd.N k83 83 w53 w.heap.size (fun k_=>(w.heap.size ≤ k_) ∧ k_ ≠ gb430 ∧ k_ ≠ g) (.slice (some ⟨go50,0,none⟩) x5_23.length co51) y467:=(by rw [hw,Ny467.out];exact HP52.1);clear HP52;replace BK430:=Aside0.mk (blk_grown (bB BK430) hg (Kd.N_ne HO_5.out BK430.out (by decide)));replace HI0:=Aside0.mk (IsS60.grown iIsS60 hg (IsS60.own_neN HI0.out HO_5.out (by decide)));replace HL466_1:=Aside0.mk (Kd.V_afterv (v:=(.slice (some ⟨go50,0,none⟩) x5_23.length co51)) (v1:=(.slice (some ⟨go50,0,none⟩) x5_23.length co51)) (ok:=(fun k_=>(w.heap.size ≤ k_) ∧ k_ ≠ gb430 ∧ k_ ≠ g)) (rV HL466_1) hg (.inl rfl));replace HL466_2:=Aside0.mk (Kd.V_afterv (v:=(.slice (some ⟨go50,0,none⟩) x5_23.length co51)) (v1:=(.slice (some ⟨go50,0,none⟩) x5_23.length co51)) (ok:=(fun k_=>(w.heap.size ≤ k_) ∧ k_ ≠ gb430 ∧ k_ ≠ g)) (rV HL466_2) hg (.inl rfl));replace HB:=Aside0.mk ((by rw [hw];exact below_set (HB.out) (Nat.le_trans HL.out GB50.out):Below w0.heap.size w0 w53));replace HK:=Aside0.mk (KeepBut.trans kB (KeepBut.of_grown hg g) (Kd.N_base2 HO_5.out));replace HO_5:=Aside0.mk (hp_);clear hg hw hp_))
             go_meet
             case rel=>exact ⟨_,(y467),H',⟨by have:=HK1.out;have:=HJ17.out;have:=HJ23.out;have:=HJ40.out;first|omega|exact Nat.le_refl _⟩,⟨rN HO_5⟩,⟨Yi⟩,⟨iIsS60⟩,⟨kB⟩,⟨bH⟩⟩
            ·rw [if_neg c49] at H
             exact absurd H (by simp)
           ·replace c48:=Bool.eq_false_iff.mpr c48
            subst c48
            have H1:(spec_l1Cur_clause.j4 kj40 x5_23 s0_0 x1001_40 x1002_40 l1_0) = some (r1,r2,r3):=by rw [if_neg (show ¬ (false = true) by decide)] at H;exact H
            clear H
            have H:=H1
            clear H1
            have H':=Aside0.mk H
            clear H
            go_wp2
            go_meet
            case rel=>exact ⟨_,(x5_23),H',⟨by have:=HK1.out;have:=HJ17.out;have:=HJ23.out;have:=HJ40.out;first|omega|exact Nat.le_refl _⟩,⟨rN HO_5⟩,⟨Yi⟩,⟨iIsS60⟩,⟨kB⟩,⟨bH⟩⟩
          case rest =>
           clear HC47
           try clear c1
           try clear c2
           try clear p2
           try clear c3
           try clear c4
           try clear p4
           try clear q4
           try clear hx4
           try clear qi4
           try clear c5
           try clear p5
           try clear q5
           try clear hx5
           try clear qi5
           try clear hf5
           try clear p6
           try clear c7
           try clear c8
           try clear c9
           try clear c9b0
           try clear c11
           try clear c12
           try clear c19
           try clear c19b0
           try clear c19b1
           try clear c25
           try clear c27
           try clear c27b0
           try clear c28
           try clear c28b0
           try clear c30
           try clear c34
           try clear c35
           try clear c42
           try clear c42b0
           try clear c42b1
           try clear c45
           try clear p45
           try clear q45
           try clear hx45
           try clear c46
           try clear p46
           try clear q46
           try clear hx46
           try clear qi46
           try clear c48
           try clear c49
           try clear c49b0
           try clear c49b1
           try clear c50
           try clear p50
           try clear q50
           try clear hx50
           try clear qi50
           try clear hf50
           try clear c52
           try clear hx52
           try clear hf52
           try clear hcz13_0
           try clear hcz36_0
           try clear hcz36_1
           try clear hcz36_2
           try clear hfz13_0
           try clear hfz36_0
           try clear hfz36_1
           try clear hfz36_2
           try clear hx455_0
           try clear hx455_1
           try clear hx455_2
           try clear hx466_0
           try clear hx466_1
           try clear hx466_2
           try clear hx50_0
           try clear hx50_1
           try clear hx50_2
           try clear hx52_2
           try clear p2
           try clear p4
           try clear p45
           try clear p455
           try clear p466
           try clear p50
           try clear p6
           try clear q4
           try clear q45
           try clear q455
           try clear q466
           try clear q50
           obtain ⟨kq,x5_46,HA,HJ46,HO_5,BK430,HI0,HK,HB⟩:=hcut
           cases kq with
           | zero=>exact absurd HA.out (by simp [spec_l1Cur_clause.j4])
           | succ kj46 =>
            have H:=HA.out
            clear HA
            simp only [spec_l1Cur_clause.j4] at H
            replace H:=Option.bind_eq_some_iff.mp H
            obtain ⟨⟨t468,t469,t470⟩,A540,H⟩:=H
            replace H:(if t468 = 0 then (spec_l1Cur_clause.l1 kj46 x5_46 s0_0 t469 t470 l1_0) else (if t468 = 1 then (if x5_46.length < 2513169434916 then (some ((x5_46 ++ [(⟨false,(([0]:List Int)),([]:List Int)⟩:S83)]),t469,t470)) else (none)) else (some (x5_46,t469,t470)))) = some (r1,r2,r3):=H
            have A54:=Aside0.mk A540
            clear A540
            by_cases c55:t468 = 0
            ·rw [if_pos c55] at H
             have c55b0:(t468 == 0) = true:=beq_iff_eq.mpr c55
             have c55b1:(t468 != 0) = false:=bne_eq_false_iff_eq.mpr c55
             clear c55
             have H':=Aside0.mk H
             clear H
             go_wp2_with (first|((with_reducible refine gate_callee (f:=73) rfl ?_);refine goesL_ (some 63) rfl rfl Try.func73 (by kernel_rfl) rfl #[.pointer (some ⟨g,0,none⟩),.int .i64 60] rfl Ya ?_;(with_reducible refine (spec_l1Cur_pick.calls g s0_0 x1001_40 x1002_40 60 t468 t469 t470 w0 _ ?side1 ?side2 A54.out).mono ?_);(case side1=>exact iIsS60);(case side2=>exact bH);rintro e w56 ⟨rfl,hi,hb,hk⟩;refine ⟨_,rfl,?_⟩;replace HO_5:=Aside0.mk (Kd.N_mono (Kd.N_keep (Kd.N_mono (ok:=fun k_=>(((w.heap.size ≤ k_)) ∧ (k_ ≠ gb430 ∧ k_ ≠ g))) (rN HO_5) (fun k_ hk_=>(⟨hk_,hk_.2.2⟩:_ ∧ k_ ≠ g))) hk (fun _ h=>h.2)) (fun _ h=>h.1));replace BK430:=Aside0.mk (KeepBut.blk hk (g':=gb430) (o:=.cells #[.slice A1_0 l1_0.length c1_0] 26 (0,0)) (bB BK430) NB430_0.out (by simp));replace HK:=Aside0.mk (KeepBut.trans kB hk (.inl rfl));replace HB:=Aside0.mk (hb);replace HI0:=Aside0.mk (hi);(try clear hb);(try clear hb2);(try clear hk);(try clear hi)))
             go_loopg [5] kj46 (fun kq v5 w'=>∃ (x5_6:List (S83)) (x1001_6:Int) (x1002_6:Int),Aside0 (spec_l1Cur_clause.l1 kq x5_6 s0_0 x1001_6 x1002_6 l1_0 = some (r1,r2,r3)) ∧ Aside0 (kq ≤ kj46) ∧ Aside0 (Kd.N k83 83 w' w.heap.size (fun k_=>(w.heap.size ≤ k_) ∧ k_ ≠ gb430 ∧ k_ ≠ g) v5 x5_6) ∧ Aside0 (w'.heap[gb430]? = some (.cells #[(.slice A1_0 l1_0.length c1_0)] 26 (0,0))) ∧ Aside0 (IsS60 w0 w' g s0_0 x1001_6 x1002_6) ∧ Aside0 (KeepBut w w' g none) ∧ Aside0 (Below w0.heap.size w0 w'))
             case atStart=>exact ⟨(x5_46),(t469),(t470),H',⟨Nat.le_refl _⟩,⟨rN HO_5⟩,⟨Yi⟩,⟨iIsS60⟩,⟨kB⟩,⟨bH⟩⟩
             case round =>
              clear H'
              try clear c1
              try clear c2
              try clear p2
              try clear c3
              try clear c4
              try clear p4
              try clear q4
              try clear hx4
              try clear qi4
              try clear c5
              try clear p5
              try clear q5
              try clear hx5
              try clear qi5
              try clear hf5
              try clear p6
              try clear c7
              try clear c8
              try clear c9
              try clear c9b0
              try clear c11
              try clear c12
              try clear c19
              try clear c19b0
              try clear c19b1
              try clear c25
              try clear c27
              try clear c27b0
              try clear c28
              try clear c28b0
              try clear c30
              try clear c34
              try clear c35
              try clear c42
              try clear c42b0
              try clear c42b1
              try clear c45
              try clear p45
              try clear q45
              try clear hx45
              try clear c46
              try clear p46
              try clear q46
              try clear hx46
              try clear qi46
              try clear c48
              try clear c49
              try clear c49b0
              try clear c49b1
              try clear c50
              try clear p50
              try clear q50
              try clear hx50
              try clear qi50
              try clear hf50
              try clear c52
              try clear hx52
              try clear hf52
              try clear c55
              try clear c55b0
              try clear c55b1
              try clear hcz13_0
              try clear hcz36_0
              try clear hcz36_1
              try clear hcz36_2
              try clear hfz13_0
              try clear hfz36_0
              try clear hfz36_1
              try clear hfz36_2
              try clear hx455_0
              try clear hx455_1
              try clear hx455_2
              try clear hx466_0
              try clear hx466_1
              try clear hx466_2
              try clear hx50_0
              try clear hx50_1
              try clear hx50_2
              try clear hx52_2
              try clear p2
              try clear p4
              try clear p45
              try clear p455
              try clear p46
              try clear p466
              try clear p5
              try clear p50
              try clear p6
              try clear q4
              try clear q45
              try clear q455
              try clear q46
              try clear q466
              try clear q5
              try clear q50
              obtain ⟨x5_6,x1001_6,x1002_6,HA,HK6,HO_5,BK430,HI0,HK,HB⟩:=hrel
              cases gk with
              | zero=>exact absurd HA.out (by simp [spec_l1Cur_clause.l1])
              | succ k6 =>
               have H:=HA.out
               clear HA
               simp only [spec_l1Cur_clause.l1] at H
               replace H:=Option.bind_eq_some_iff.mp H
               obtain ⟨⟨t471,t472,t473⟩,A570,H⟩:=H
               replace H:(if (x5_6.length:Int) < (wrap64 (8 + t471)) then ((spec_l1Cur_lit.f k6 s0_0 t472 t473 l1_0).bind fun bt474=>(if x5_6.length < 2513169434916 then (spec_l1Cur_clause.l1 k6 (x5_6 ++ [(⟨bt474.1,bt474.2.1,bt474.2.2.1⟩:S83)]) s0_0 bt474.2.2.2.1 bt474.2.2.2.2 l1_0) else (none))) else (some (x5_6,t472,t473))) = some (r1,r2,r3):=H
               have A57:=Aside0.mk A570
               clear A570
               by_cases c58:(x5_6.length:Int) < (wrap64 (8 + t471))
               ·rw [if_pos c58] at H
                have c58b0:=decide_eq_true c58
                clear c58
                replace H:=Option.bind_eq_some_iff.mp H
                obtain ⟨⟨t474,t475,t478,t481,t482⟩,A590,H⟩:=H
                replace H:(if x5_6.length < 2513169434916 then (spec_l1Cur_clause.l1 k6 (x5_6 ++ [(⟨t474,t475,t478⟩:S83)]) s0_0 t481 t482 l1_0) else (none)) = some (r1,r2,r3):=H
                have A59:=Aside0.mk A590
                clear A590
                by_cases c60:x5_6.length < 2513169434916
                ·rw [if_pos c60] at H
                 have LMc60:=Aside0.mk c60
                 clear c60
                 obtain ⟨y483,hy483⟩:∃ y_:List (S83),y_ = (x5_6 ++ [(⟨t474,t475,t478⟩:S83)]):=⟨_,rfl⟩
                 replace H:(spec_l1Cur_clause.l1 k6 y483 s0_0 t481 t482 l1_0) = some (r1,r2,r3):=by first|(rw [hy483];with_reducible exact H)|(have H2_:=(Option.bind_some _ _).symm.trans H;rw [hy483];with_reducible exact H2_)|(have H2_:=(Option.bind_some _ _).symm.trans H;with_reducible exact H2_)|with_reducible exact H|(rw [hy483];exact H)|exact H
                 have Ny483:=Aside0.mk hy483
                 clear hy483
                 have H':=Aside0.mk H
                 clear H
                 obtain ⟨Ao61,co61,eo61⟩:=Kd.N_slice HO_5.out
                 subst eo61
                 go_wp2_with (first|((with_reducible refine gate_callee (f:=73) rfl ?_);refine goesL_ (some 69) rfl rfl Try.func73 (by kernel_rfl) rfl #[.pointer (some ⟨g,0,none⟩),.int .i64 2] rfl Ya ?_;(with_reducible refine (spec_l1Cur_pick.calls g s0_0 x1001_6 x1002_6 2 t471 t472 t473 w0 _ ?side1 ?side2 A57.out).mono ?_);(case side1=>exact iIsS60);(case side2=>exact bH);rintro e w62 ⟨rfl,hi,hb,hk⟩;refine ⟨_,rfl,?_⟩;replace HO_5:=Aside0.mk (Kd.N_mono (Kd.N_keep (Kd.N_mono (ok:=fun k_=>(((w.heap.size ≤ k_)) ∧ (k_ ≠ gb430 ∧ k_ ≠ g))) (rN HO_5) (fun k_ hk_=>(⟨hk_,hk_.2.2⟩:_ ∧ k_ ≠ g))) hk (fun _ h=>h.2)) (fun _ h=>h.1));replace BK430:=Aside0.mk (KeepBut.blk hk (g':=gb430) (o:=.cells #[.slice A1_0 l1_0.length c1_0] 26 (0,0)) (bB BK430) NB430_0.out (by simp));replace HK:=Aside0.mk (KeepBut.trans kB hk (.inl rfl));replace HB:=Aside0.mk (hb);replace HI0:=Aside0.mk (hi);(try clear hb);(try clear hb2);(try clear hk);(try clear hi);have hnb63:=NB430_0.out;have hnc63:=NB0_430.out;have hcz64_0:w62.cell? ⟨gb430,0,none⟩ = some (.slice A1_0 l1_0.length c1_0):=(blk_cell BK430.out 0).trans rfl;have hfz64_0:=blk_frozen BK430.out 0)|((with_reducible refine gate_callee (f:=87) rfl ?_);refine goesL_ (some 75) rfl rfl Try.func87 (by kernel_rfl) rfl #[.pointer (some ⟨g,0,none⟩),.agg #[.slice A1_0 l1_0.length c1_0]] rfl Ya ?_;(with_reducible refine (spec_l1Cur_lit.calls k6 g s0_0 t472 t473 _ _ l1_0 t474 t475 t478 t481 t482 w0 _ ?side1 ?side2 ?side3 ?side4 ?side5 A59.out).mono ?_);(case side1=>exact iIsS60);(case side2=>exact bH);(case side3=>exact YF);(case side4=>exact Zh);(case side5=>exact hf1_0);rintro e w65 ⟨v476,v479,rfl,ho0,ho1,hi,hb,hk⟩;refine ⟨_,rfl,?_⟩;replace HO_5:=Aside0.mk (Kd.N_mono (Kd.N_told (Kd.N_told (Kd.N_oldK (Kd.N_mono (ok:=fun k_=>(((w.heap.size ≤ k_)) ∧ (k_ ≠ gb430 ∧ k_ ≠ g))) (rN HO_5) (fun k_ hk_=>(⟨hk_,hk_.2.2⟩:_ ∧ k_ ≠ g))) hk) (Kd.R_base ho0)) (Kd.R_base ho1)) (fun _ h_=>h_.1));replace BK430:=Aside0.mk (KeepBut.blk hk (g':=gb430) (o:=.cells #[.slice A1_0 l1_0.length c1_0] 26 (0,0)) (bB BK430) NB430_0.out (by simp));have HO477:=Aside0.mk (Kd.R_lower (Kd.R_newM (M:=fun k_=>(w.heap.size ≤ k_)) ho0 (keep_size (w:=w) (g:=g) (row:=none) kB) (fun k_ h_=>h_)) (keep_size (w:=w) (g:=g) (row:=none) kB));have HO480:=Aside0.mk (Kd.R_lower (Kd.R_newM (M:=fun k_=>(w.heap.size ≤ k_)) ho1 (keep_size (w:=w) (g:=g) (row:=none) kB) (fun k_ h_=>h_)) (keep_size (w:=w) (g:=g) (row:=none) kB));replace HK:=Aside0.mk (KeepBut.trans kB hk (.inl rfl));replace HB:=Aside0.mk (hb);replace HI0:=Aside0.mk (hi);(try clear hb);(try clear hb2);(try clear hk);(try clear hi);(try clear ho0);(try clear ho1);obtain ⟨Ao67,co67,eo67⟩:=Kd.R_slice HO477.out;subst eo67;obtain ⟨Ao68,co68,eo68⟩:=Kd.R_slice HO480.out;subst eo68)|((with_reducible refine gate_builtin (b:=.append) (xs:=#[.tmp 72,.tmp 76]) rfl ?_);at_builtin;refine Kd.N_append k83 w.heap.size rfl (.tmp 72) (.tmp 76) 40 83 (.agg #[(.bool false),(.slice none 0 0),(.slice none 0 0)]) 56 rfl Try.underlying40 info83 rfl (by decide) Zc (.slice Ao61 x5_6.length co61) x5_6 (⟨t474,t475,t478⟩:S83) [.bool t474,.slice Ao67 t475.length co67,.slice Ao68 t478.length co68] (fun k_=>(w.heap.size ≤ k_) ∧ k_ ≠ gb430 ∧ k_ ≠ g) (fun k_=>((fun k_=>(w.heap.size ≤ k_) ∧ k_ ≠ gb430 ∧ k_ ≠ g)) k_ ∧ some k_ ≠ (.slice Ao61 x5_6.length co61:Value).ownBlock) rfl rfl ?aP (fun _ hk=>hk) ?aF ?aO (Below.refl _ _) ?aS ?aL ?_;(case aP=>exact (k83_mkF _ _ (⟨t474,t475,t478⟩:S83) (Kd.R_reads' (Kd.R_mono (ok':=(fun k_=>((fun k_=>(w.heap.size ≤ k_) ∧ k_ ≠ gb430 ∧ k_ ≠ g)) k_ ∧ some k_ ≠ (.slice Ao61 x5_6.length co61:Value).ownBlock)) (IsS60.apart HI0.out (Kd.R_types (Kd.R_apart' (HO477.out) (Kd.N_typed HO_5.out) (by decide)) BK430.out (by decide)) (by decide)) (fun k_ hk=>⟨⟨hk.1.1.1.1,⟨hk.1.2,hk.2⟩⟩,hk.1.1.2⟩))).2.1 (Kd.R_F (Kd.R_mono (ok':=(fun k_=>((fun k_=>(w.heap.size ≤ k_) ∧ k_ ≠ gb430 ∧ k_ ≠ g)) k_ ∧ some k_ ≠ (.slice Ao61 x5_6.length co61:Value).ownBlock)) (IsS60.apart HI0.out (Kd.R_types (Kd.R_apart' (HO477.out) (Kd.N_typed HO_5.out) (by decide)) BK430.out (by decide)) (by decide)) (fun k_ hk=>⟨⟨hk.1.1.1.1,⟨hk.1.2,hk.2⟩⟩,hk.1.1.2⟩))) (Kd.R_reads' (Kd.R_mono (ok':=(fun k_=>((fun k_=>(w.heap.size ≤ k_) ∧ k_ ≠ gb430 ∧ k_ ≠ g)) k_ ∧ some k_ ≠ (.slice Ao61 x5_6.length co61:Value).ownBlock)) (IsS60.apart HI0.out (Kd.R_types (Kd.R_apart' (HO480.out) (Kd.N_typed HO_5.out) (by decide)) BK430.out (by decide)) (by decide)) (fun k_ hk=>⟨⟨hk.1.1.1.1,⟨hk.1.2,hk.2⟩⟩,hk.1.1.2⟩))).2.1 (Kd.R_F (Kd.R_mono (ok':=(fun k_=>((fun k_=>(w.heap.size ≤ k_) ∧ k_ ≠ gb430 ∧ k_ ≠ g)) k_ ∧ some k_ ≠ (.slice Ao61 x5_6.length co61:Value).ownBlock)) (IsS60.apart HI0.out (Kd.R_types (Kd.R_apart' (HO480.out) (Kd.N_typed HO_5.out) (by decide)) BK430.out (by decide)) (by decide)) (fun k_ hk=>⟨⟨hk.1.1.1.1,⟨hk.1.2,hk.2⟩⟩,hk.1.1.2⟩)))));(case aF=>exact YX);(case aO=>exact Zg);(case aS=>exact YO);(case aL=>have:=LMc60.out;omega);intro v484 w66 ho hb hg hat;rw [← Ny483.out] at ho;have n0_:=Aside0.mk (blk_grown (bB BK430) hg (Kd.N_ne HO_5.out BK430.out (by decide)));have n1_:=Aside0.mk (IsS60.grown iIsS60 hg (IsS60.own_neN HI0.out HO_5.out (by decide)));have n2_:=Aside0.mk (below_weaken bH HL.out hb);have n3_:=Aside0.mk (KeepBut.trans kB (KeepBut.of_grown hg g) (Kd.N_base2 HO_5.out));have n4_:=Aside0.mk (ho);clear BK430;clear HI0;clear HB;clear HK;clear HO_5;clear HO477;clear HO480;have BK430:=n0_;have HI0:=n1_;have HB:=n2_;have HK:=n3_;have HO485:=n4_;clear n0_ n1_ n2_ n3_ n4_;clear ho hb hg hat))
                 go_roundg k6
                 case measure=>have:=HK1.out;have:=HJ17.out;have:=HJ23.out;have:=HJ40.out;have:=HJ46.out;have:=HK6.out;omega
                 case rel=>exact ⟨(y483),(t481),(t482),H',⟨by have:=HK1.out;have:=HJ17.out;have:=HJ23.out;have:=HJ40.out;have:=HJ46.out;have:=HK6.out;omega⟩,⟨rN HO485⟩,⟨Yi⟩,⟨iIsS60⟩,⟨kB⟩,⟨bH⟩⟩
                ·rw [if_neg c60] at H
                 exact absurd H (by simp)
               ·rw [if_neg c58] at H
                have c58b0:decide ((x5_6.length:Int) < (wrap64 (8 + t471))) = false:=decide_eq_false c58
                clear c58
                simp only [Option.some.injEq,Prod.mk.injEq] at H
                obtain ⟨rfl,rfl,rfl⟩:=H
                obtain ⟨Ao69,co69,eo69⟩:=Kd.N_slice HO_5.out
                subst eo69
                go_wp2_with (first|((with_reducible refine gate_callee (f:=73) rfl ?_);refine goesL_ (some 69) rfl rfl Try.func73 (by kernel_rfl) rfl #[.pointer (some ⟨g,0,none⟩),.int .i64 2] rfl Ya ?_;(with_reducible refine (spec_l1Cur_pick.calls g s0_0 x1001_6 x1002_6 2 t471 t472 t473 w0 _ ?side1 ?side2 A57.out).mono ?_);(case side1=>exact iIsS60);(case side2=>exact bH);rintro e w70 ⟨rfl,hi,hb,hk⟩;refine ⟨_,rfl,?_⟩;replace HO_5:=Aside0.mk (Kd.N_mono (Kd.N_keep (Kd.N_mono (ok:=fun k_=>(((w.heap.size ≤ k_)) ∧ (k_ ≠ gb430 ∧ k_ ≠ g))) (rN HO_5) (fun k_ hk_=>(⟨hk_,hk_.2.2⟩:_ ∧ k_ ≠ g))) hk (fun _ h=>h.2)) (fun _ h=>h.1));replace BK430:=Aside0.mk (KeepBut.blk hk (g':=gb430) (o:=.cells #[.slice A1_0 l1_0.length c1_0] 26 (0,0)) (bB BK430) NB430_0.out (by simp));replace HK:=Aside0.mk (KeepBut.trans kB hk (.inl rfl));replace HB:=Aside0.mk (hb);replace HI0:=Aside0.mk (hi);(try clear hb);(try clear hb2);(try clear hk);(try clear hi)))
                go_ret
                exact ⟨_,Yb,by (with_reducible repeat (first|apply Kd.N_alloc|apply Kd.N_drewN|apply Kd.N_drew));exact Kd.N_mono HO_5.out (fun _ hk=>hk.1),iIsS60,bH,kB⟩
            ·rw [if_neg c55] at H
             have c55b0:(t468 == 0) = false:=beq_eq_false_iff_ne.mpr c55
             have c55b1:(t468 != 0) = true:=bne_iff_ne.mpr c55
             by_cases c71:t468 = 1
             ·rw [if_pos c71] at H
              have c71b0:(t468 == 1) = true:=beq_iff_eq.mpr c71
              have c71b1:(t468 != 1) = false:=bne_eq_false_iff_eq.mpr c71
              clear c71
              obtain ⟨y486,hy486⟩:∃ y_:List Int,y_ = (([0]:List Int)):=⟨_,rfl⟩
              replace H:(if x5_46.length < 2513169434916 then (some ((x5_46 ++ [(⟨false,y486,([]:List Int)⟩:S83)]),t469,t470)) else (none)) = some (r1,r2,r3):=by first|(rw [hy486];with_reducible exact H)|(have H2_:=(Option.bind_some _ _).symm.trans H;rw [hy486];with_reducible exact H2_)|(have H2_:=(Option.bind_some _ _).symm.trans H;with_reducible exact H2_)|with_reducible exact H|(rw [hy486];exact H)|exact H
              have Ny486:=Aside0.mk hy486
              clear hy486
              by_cases c72:x5_46.length < 2513169434916
              ·rw [if_pos c72] at H
               have LMc72:=Aside0.mk c72
               clear c72
               obtain ⟨y489,hy489⟩:∃ y_:List (S83),y_ = (x5_46 ++ [(⟨false,y486,([]:List Int)⟩:S83)]):=⟨_,rfl⟩
               replace H:(some (y489,t469,t470)) = some (r1,r2,r3):=by first|(rw [hy489];with_reducible exact H)|(have H2_:=(Option.bind_some _ _).symm.trans H;rw [hy489];with_reducible exact H2_)|(have H2_:=(Option.bind_some _ _).symm.trans H;with_reducible exact H2_)|with_reducible exact H|(rw [hy489];exact H)|exact H
               have Ny489:=Aside0.mk hy489
               clear hy489
               simp only [Option.some.injEq,Prod.mk.injEq] at H
               obtain ⟨rfl,rfl,rfl⟩:=H
               go_wp2_with (first|((with_reducible refine gate_callee (f:=73) rfl ?_);refine goesL_ (some 63) rfl rfl Try.func73 (by kernel_rfl) rfl #[.pointer (some ⟨g,0,none⟩),.int .i64 60] rfl Ya ?_;(with_reducible refine (spec_l1Cur_pick.calls g s0_0 x1001_40 x1002_40 60 t468 t469 t470 w0 _ ?side1 ?side2 A54.out).mono ?_);(case side1=>exact iIsS60);(case side2=>exact bH);rintro e w73 ⟨rfl,hi,hb,hk⟩;refine ⟨_,rfl,?_⟩;replace HO_5:=Aside0.mk (Kd.N_mono (Kd.N_keep (Kd.N_mono (ok:=fun k_=>(((w.heap.size ≤ k_)) ∧ (k_ ≠ gb430 ∧ k_ ≠ g))) (rN HO_5) (fun k_ hk_=>(⟨hk_,hk_.2.2⟩:_ ∧ k_ ≠ g))) hk (fun _ h=>h.2)) (fun _ h=>h.1));replace BK430:=Aside0.mk (KeepBut.blk hk (g':=gb430) (o:=.cells #[.slice A1_0 l1_0.length c1_0] 26 (0,0)) (bB BK430) NB430_0.out (by simp));replace HK:=Aside0.mk (KeepBut.trans kB hk (.inl rfl));replace HB:=Aside0.mk (hb);replace HI0:=Aside0.mk (hi);(try clear hb);(try clear hb2);(try clear hk);(try clear hi))|((with_reducible refine gate_dst (N:=81) rfl ?_);refine Kd.R_lit (Kd.int .i64) _ 3 ?hg (N:=81) ?hd (xs:=([0]:List Int)) (inner:=[.int .i64 0]) (ok:=fun _=>True) (okp:=fun _=>True) ?hr ?hp (fun _ hk=>hk) trivial (Below.refl _ _) (Nat.le_refl _) (by simp) ?_;(case hd=>rfl);(case hg=>rfl);(case hr=>exact Yd);(case hp=>exact YZ);intro v487 w74 ho75 hb hg_ hnew_;clear hg_ hnew_;(first|rw [← Ny486.out] at ho75|(simp only [Int.reduceToNat] at ho75;rw [← Ny486.out] at ho75));replace HO_5:=Aside0.mk (Kd.N_elder' (rN HO_5) (Kd.R_base ho75) hb);have HO488:=Aside0.mk (Kd.R_lower (Kd.R_newM (M:=fun k_=>(w.heap.size ≤ k_)) ho75 (keep_size (w:=w) (g:=g) (row:=none) kB) (fun k_ h_=>h_)) (keep_size (w:=w) (g:=g) (row:=none) kB));replace BK430:=Aside0.mk (blk_below (bB BK430) hb);replace HK:=Aside0.mk (KeepBut.trans kB (KeepBut.of_below hb g none) (.inl rfl));replace HB:=Aside0.mk (below_step bH hb);replace HI0:=Aside0.mk (IsS60.below iIsS60 hb);clear hb ho75;obtain ⟨Ao76,co76,eo76⟩:=Kd.R_slice HO488.out;subst eo76)|((with_reducible refine gate_builtin (b:=.append) (xs:=#[.tmp 80,.tmp 83]) rfl ?_);at_builtin;refine Kd.N_append k83 w.heap.size rfl (.tmp 80) (.tmp 83) 40 83 (.agg #[(.bool false),(.slice none 0 0),(.slice none 0 0)]) 56 rfl Try.underlying40 info83 rfl (by decide) Zc u5 x5_46 (⟨false,y486,([]:List Int)⟩:S83) [.bool false,.slice Ao76 y486.length co76,.slice none 0 0] (fun k_=>(w.heap.size ≤ k_) ∧ k_ ≠ gb430 ∧ k_ ≠ g) (fun k_=>((fun k_=>(w.heap.size ≤ k_) ∧ k_ ≠ gb430 ∧ k_ ≠ g)) k_ ∧ some k_ ≠ (u5:Value).ownBlock) rfl rfl ?aP (fun _ hk=>hk) ?aF ?aO (Below.refl _ _) ?aS ?aL ?_;(case aP=>exact (k83_mkF _ _ (⟨false,y486,([]:List Int)⟩:S83) (Kd.R_reads' (Kd.R_mono (ok':=(fun k_=>((fun k_=>(w.heap.size ≤ k_) ∧ k_ ≠ gb430 ∧ k_ ≠ g)) k_ ∧ some k_ ≠ (u5:Value).ownBlock)) (IsS60.apart HI0.out (Kd.R_types (Kd.R_apart' (HO488.out) (Kd.N_typed HO_5.out) (by decide)) BK430.out (by decide)) (by decide)) (fun k_ hk=>⟨⟨hk.1.1.1.1,⟨hk.1.2,hk.2⟩⟩,hk.1.1.2⟩))).2.1 (Kd.R_F (Kd.R_mono (ok':=(fun k_=>((fun k_=>(w.heap.size ≤ k_) ∧ k_ ≠ gb430 ∧ k_ ≠ g)) k_ ∧ some k_ ≠ (u5:Value).ownBlock)) (IsS60.apart HI0.out (Kd.R_types (Kd.R_apart' (HO488.out) (Kd.N_typed HO_5.out) (by decide)) BK430.out (by decide)) (by decide)) (fun k_ hk=>⟨⟨hk.1.1.1.1,⟨hk.1.2,hk.2⟩⟩,hk.1.1.2⟩))) (Nat.le_refl _) (Kd.F_nil _ _ _)));(case aF=>exact YX);(case aO=>exact (by (with_reducible repeat (first|apply Kd.N_alloc|apply Kd.N_drewN|apply Kd.N_drew));exact Kd.N_mono HO_5.out (fun _ hk=>⟨hk.1.1,⟨hk.1.2.1,hk.1.2.2⟩⟩)));(case aS=>exact YO);(case aL=>have:=LMc72.out;omega);intro v490 w77 ho hb hg hat;rw [← Ny489.out] at ho;have n0_:=Aside0.mk (blk_grown (bB BK430) hg (Kd.N_ne HO_5.out BK430.out (by decide)));have n1_:=Aside0.mk (IsS60.grown iIsS60 hg (IsS60.own_neN HI0.out HO_5.out (by decide)));have n2_:=Aside0.mk (below_weaken bH HL.out hb);have n3_:=Aside0.mk (KeepBut.trans kB (KeepBut.of_grown hg g) (Kd.N_base2 HO_5.out));have n4_:=Aside0.mk (ho);clear BK430;clear HI0;clear HB;clear HK;clear HO_5;clear HO488;have BK430:=n0_;have HI0:=n1_;have HB:=n2_;have HK:=n3_;have HO491:=n4_;clear n0_ n1_ n2_ n3_ n4_;clear ho hb hg hat))
               go_ret
               exact ⟨_,Yb,by (with_reducible repeat (first|apply Kd.N_alloc|apply Kd.N_drewN|apply Kd.N_drew));exact Kd.N_mono HO491.out (fun _ hk=>hk.1),iIsS60,bH,kB⟩
              ·rw [if_neg c72] at H
               exact absurd H (by simp)
             ·rw [if_neg c71] at H
              have c71b0:(t468 == 1) = false:=beq_eq_false_iff_ne.mpr c71
              have c71b1:(t468 != 1) = true:=bne_iff_ne.mpr c71
              simp only [Option.some.injEq,Prod.mk.injEq] at H
              obtain ⟨rfl,rfl,rfl⟩:=H
              go_wp2_with (first|((with_reducible refine gate_callee (f:=73) rfl ?_);refine goesL_ (some 63) rfl rfl Try.func73 (by kernel_rfl) rfl #[.pointer (some ⟨g,0,none⟩),.int .i64 60] rfl Ya ?_;(with_reducible refine (spec_l1Cur_pick.calls g s0_0 x1001_40 x1002_40 60 t468 t469 t470 w0 _ ?side1 ?side2 A54.out).mono ?_);(case side1=>exact iIsS60);(case side2=>exact bH);rintro e w78 ⟨rfl,hi,hb,hk⟩;refine ⟨_,rfl,?_⟩;replace HO_5:=Aside0.mk (Kd.N_mono (Kd.N_keep (Kd.N_mono (ok:=fun k_=>(((w.heap.size ≤ k_)) ∧ (k_ ≠ gb430 ∧ k_ ≠ g))) (rN HO_5) (fun k_ hk_=>(⟨hk_,hk_.2.2⟩:_ ∧ k_ ≠ g))) hk (fun _ h=>h.2)) (fun _ h=>h.1));replace BK430:=Aside0.mk (KeepBut.blk hk (g':=gb430) (o:=.cells #[.slice A1_0 l1_0.length c1_0] 26 (0,0)) (bB BK430) NB430_0.out (by simp));replace HK:=Aside0.mk (KeepBut.trans kB hk (.inl rfl));replace HB:=Aside0.mk (hb);replace HI0:=Aside0.mk (hi);(try clear hb);(try clear hb2);(try clear hk);(try clear hi)))
              go_ret
              exact ⟨_,Yb,by (with_reducible repeat (first|apply Kd.N_alloc|apply Kd.N_drewN|apply Kd.N_drew));exact Kd.N_mono HO_5.out (fun _ hk=>hk.1),iIsS60,bH,kB⟩

end Go.Proofs.Ytmgkflkfoccgkaa.QFnPutFor
