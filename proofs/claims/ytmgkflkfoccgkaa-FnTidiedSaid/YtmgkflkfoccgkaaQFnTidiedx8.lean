-- Written by this session's own program (wip/x/xprint.py, over the kit's printer); Lean checks it.
import Derived.Test.YtmgkflkfoccgkaaQFnTidiedx0
import Derived.Test.YtmgkflkfoccgkaaQFnTidiedx5
import Derived.Test.YtmgkflkfoccgkaaQFnTidiedx7
namespace Go.Proofs.Ytmgkflkfoccgkaa.QFnTidied
open Go.RowKit Go.Proofs.YtmgkflkfoccgkaaW.PrintWords Go.Proofs.YtmgkflkfoccgkaaW.PrintLast Go.Proofs.YtmgkflkfoccgkaaW.PrintMore
attribute [local go_sem] max2_int min2_int max_two min_two max_three min_three max_four min_four   -- for this text's walks alone
set_option linter.unusedVariables false
set_option linter.unusedSimpArgs false

/-! ### spec_l1Cur_clause: function 49 -/
mutual
def spec_l1Cur_clause.l0:Nat → List (S83) → Int → List Int → Int → Int → List Int → Option ((List (S83)) × Int × Int)
 | 0,_,_,_,_,_,_=>none
 | k + 1,x5,x6,x1000,x1001,x1002,x268000=>if x6 > 0 then ((spec_l1Cur_lit.f k x1000 x1001 x1002 x268000).bind fun bt274=>(if x5.length < 2513169434916 then (spec_l1Cur_clause.l0 k (x5 ++ [(⟨bt274.1,bt274.2.1,bt274.2.2.1⟩:S83)]) (wrap64 (x6 - 1)) x1000 bt274.2.2.2.1 bt274.2.2.2.2 x268000) else (none))) else (if (x5.length:Int) > 0 then ((spec_l1Cur_one.f x1000 x1001 x1002 6).bind fun bt286=>(spec_l1Cur_clause.j1 k x5 bt286.1 x1000 bt286.2.1 bt286.2.2 x268000)) else (spec_l1Cur_clause.j1 k x5 false x1000 x1001 x1002 x268000))
def spec_l1Cur_clause.j1:Nat → List (S83) → Bool → List Int → Int → Int → List Int → Option ((List (S83)) × Int × Int)
 | 0,_,_,_,_,_,_=>none
 | k + 1,x5,x27,x1000,x1001,x1002,x268000=>if x27 = true then ((spec_l1Cur_pick.f x1000 x1001 x1002 (x5.length:Int)).bind fun bt289=>(if 0 ≤ bt289.1 then (if bt289.1 < (x5.length:Int) then ((spec_l1Cur_one.f x1000 bt289.2.1 bt289.2.2 3).bind fun bt294=>(if x5.length < 2513169434916 then (spec_l1Cur_clause.j2 k (x5 ++ [(⟨(((rd_T83 x5 bt289.1).f0) != bt294.1),(rd_T83 x5 bt289.1).f2,(rd_T83 x5 bt289.1).f1⟩:S83)]) x1000 bt294.2.1 bt294.2.2 x268000) else (none))) else (none)) else (none))) else (spec_l1Cur_clause.j2 k x5 x1000 x1001 x1002 x268000)
def spec_l1Cur_clause.j2:Nat → List (S83) → List Int → Int → Int → List Int → Option ((List (S83)) × Int × Int)
 | 0,_,_,_,_,_=>none
 | k + 1,x5,x1000,x1001,x1002,x268000=>if (x5.length:Int) > 0 then ((spec_l1Cur_one.f x1000 x1001 x1002 12).bind fun bt300=>(spec_l1Cur_clause.j3 k x5 bt300.1 x1000 bt300.2.1 bt300.2.2 x268000)) else (spec_l1Cur_clause.j3 k x5 false x1000 x1001 x1002 x268000)
def spec_l1Cur_clause.j3:Nat → List (S83) → Bool → List Int → Int → Int → List Int → Option ((List (S83)) × Int × Int)
 | 0,_,_,_,_,_,_=>none
 | k + 1,x5,x54,x1000,x1001,x1002,x268000=>if x54 = true then (if 0 < (x5.length:Int) then (spec_l1Cur_clause.j4 k (x5.set (0:Int).toNat (⟨(rd_T83 x5 0).f0,(rd_T83 x5 0).f1,(rd_T83 x5 0).f1⟩:S83)) x1000 x1001 x1002 x268000) else (none)) else (spec_l1Cur_clause.j4 k x5 x1000 x1001 x1002 x268000)
def spec_l1Cur_clause.j4:Nat → List (S83) → List Int → Int → Int → List Int → Option ((List (S83)) × Int × Int)
 | 0,_,_,_,_,_=>none
 | k + 1,x5,x1000,x1001,x1002,x268000=>(spec_l1Cur_pick.f x1000 x1001 x1002 60).bind fun bt305=>(if bt305.1 = 0 then (spec_l1Cur_clause.l1 k x5 x1000 bt305.2.1 bt305.2.2 x268000) else (if bt305.1 = 1 then (if x5.length < 2513169434916 then (some ((x5 ++ [(⟨false,(([0]:List Int)),([]:List Int)⟩:S83)]),bt305.2.1,bt305.2.2)) else (none)) else (some (x5,bt305.2.1,bt305.2.2))))
def spec_l1Cur_clause.l1:Nat → List (S83) → List Int → Int → Int → List Int → Option ((List (S83)) × Int × Int)
 | 0,_,_,_,_,_=>none
 | k + 1,x5,x1000,x1001,x1002,x268000=>(spec_l1Cur_pick.f x1000 x1001 x1002 2).bind fun bt308=>(if (x5.length:Int) < (wrap64 (8 + bt308.1)) then ((spec_l1Cur_lit.f k x1000 bt308.2.1 bt308.2.2 x268000).bind fun bt311=>(if x5.length < 2513169434916 then (spec_l1Cur_clause.l1 k (x5 ++ [(⟨bt311.1,bt311.2.1,bt311.2.2.1⟩:S83)]) x1000 bt311.2.2.2.1 bt311.2.2.2.2 x268000) else (none))) else (some (x5,bt308.2.1,bt308.2.2)))
end
def spec_l1Cur_clause.f (k:Nat) (s0_0:List Int) (s0_1:Int) (s0_2:Int) (l1_0:List Int):Option ((List (S83)) × Int × Int):=(spec_l1Cur_among.f s0_0 s0_1 s0_2 (([0,1,1,1,2,2,3]:List Int))).bind fun bt271=>(spec_l1Cur_clause.l0 k ([]:List (S83)) bt271.1 s0_0 bt271.2.1 bt271.2.2 l1_0)
theorem spec_l1Cur_clause.mono_l:∀ k,(∀ y0 y1 y2 y3 y4 y5,LeO (spec_l1Cur_clause.l0 k y0 y1 y2 y3 y4 y5) (spec_l1Cur_clause.l0 (k + 1) y0 y1 y2 y3 y4 y5)) ∧ (∀ y0 y1 y2 y3 y4 y5,LeO (spec_l1Cur_clause.j1 k y0 y1 y2 y3 y4 y5) (spec_l1Cur_clause.j1 (k + 1) y0 y1 y2 y3 y4 y5)) ∧ (∀ y0 y1 y2 y3 y4,LeO (spec_l1Cur_clause.j2 k y0 y1 y2 y3 y4) (spec_l1Cur_clause.j2 (k + 1) y0 y1 y2 y3 y4)) ∧ (∀ y0 y1 y2 y3 y4 y5,LeO (spec_l1Cur_clause.j3 k y0 y1 y2 y3 y4 y5) (spec_l1Cur_clause.j3 (k + 1) y0 y1 y2 y3 y4 y5)) ∧ (∀ y0 y1 y2 y3 y4,LeO (spec_l1Cur_clause.j4 k y0 y1 y2 y3 y4) (spec_l1Cur_clause.j4 (k + 1) y0 y1 y2 y3 y4)) ∧ (∀ y0 y1 y2 y3 y4,LeO (spec_l1Cur_clause.l1 k y0 y1 y2 y3 y4) (spec_l1Cur_clause.l1 (k + 1) y0 y1 y2 y3 y4))
 | 0=>⟨fun _ _ _ _ _ _ r h=>by simp [spec_l1Cur_clause.l0] at h,fun _ _ _ _ _ _ r h=>by simp [spec_l1Cur_clause.j1] at h,fun _ _ _ _ _ r h=>by simp [spec_l1Cur_clause.j2] at h,fun _ _ _ _ _ _ r h=>by simp [spec_l1Cur_clause.j3] at h,fun _ _ _ _ _ r h=>by simp [spec_l1Cur_clause.j4] at h,fun _ _ _ _ _ r h=>by simp [spec_l1Cur_clause.l1] at h⟩
 | k + 1=>by
  obtain ⟨ih0,ih1,ih2,ih3,ih4,ih5⟩:=spec_l1Cur_clause.mono_l k
  refine ⟨?_,?_,?_,?_,?_,?_⟩
  ·intro y0 y1 y2 y3 y4 y5
   unfold spec_l1Cur_clause.l0
   have m0:=@ih4
   have m1:=@ih5
   have m2:=@spec_l1Cur_lit.mono
   exact mO
  ·intro y0 y1 y2 y3 y4 y5
   unfold spec_l1Cur_clause.j1
   have m0:=@ih4
   have m1:=@ih5
   have m2:=@spec_l1Cur_lit.mono
   exact mO
  ·intro y0 y1 y2 y3 y4
   unfold spec_l1Cur_clause.j2
   have m0:=@ih4
   have m1:=@ih5
   have m2:=@spec_l1Cur_lit.mono
   exact mO
  ·intro y0 y1 y2 y3 y4 y5
   unfold spec_l1Cur_clause.j3
   have m0:=@ih4
   have m1:=@ih5
   have m2:=@spec_l1Cur_lit.mono
   exact mO
  ·intro y0 y1 y2 y3 y4
   unfold spec_l1Cur_clause.j4
   have m0:=@ih4
   have m1:=@ih5
   have m2:=@spec_l1Cur_lit.mono
   exact mO
  ·intro y0 y1 y2 y3 y4
   unfold spec_l1Cur_clause.l1
   have m0:=@ih4
   have m1:=@ih5
   have m2:=@spec_l1Cur_lit.mono
   exact mO
theorem spec_l1Cur_clause.mono:∀ a0 a1 a2 a3 k,LeO (spec_l1Cur_clause.f k a0 a1 a2 a3) (spec_l1Cur_clause.f (k + 1) a0 a1 a2 a3):=by
 intro a0 a1 a2 a3 k
 obtain ⟨ih0,ih1,ih2,ih3,ih4,ih5⟩:=spec_l1Cur_clause.mono_l k
 unfold spec_l1Cur_clause.f
 have m0:=@ih4
 have m1:=@ih5
 have m2:=@spec_l1Cur_lit.mono
 exact mO
def spec_l1Cur_clause.T8:Bool × List (List Nat × List Nat):=(true,[([],[]),([],[]),([1],[1]),([],[]),([3],[3]),([2,4],[2,4]),([],[]),([6],[6]),([],[]),([8],[8]),([5,7,9],[5,7,9]),([10],[10]),([0,11,4],[0,11]),([12,12,0,1,2,3,4,5,6,7,8,9,10,11,12],[0,12])])
def spec_l1Cur_clause.B8:List Nat:=[0,0,2,0,8,30,0,64,0,256,1022,2046,4095,8191]
theorem spec_l1Cur_clause.tab8:rtab .any (opsOf Try.f49 8) = spec_l1Cur_clause.T8:=by kernel_rfl
theorem spec_l1Cur_clause.bits8:waitsOk spec_l1Cur_clause.T8.2 spec_l1Cur_clause.B8 = true:=by kernel_rfl
set_option maxHeartbeats 8000000 in
set_option maxRecDepth 100000 in
theorem spec_l1Cur_clause.calls (k:Nat) (g:Nat) (s0_0:List Int) (s0_1:Int) (s0_2:Int) (A1_0:Option Addr) (c1_0:Nat) (l1_0:List Int) (r1:List (S83)) (r2:Int) (r3:Int) (w0 w:World) (hI:IsS60 w0 w g s0_0 s0_1 s0_2) (hB:Below w0.heap.size w0 w) (hr1_0:Kd.C (Kd.int .i64) w A1_0 l1_0.length l1_0) (hc1_0:l1_0.length ≤ c1_0) (hf1_0:∀ ad,A1_0 = some ad → 0 < l1_0.length → ad.block ≠ g) (h:spec_l1Cur_clause.f k s0_0 s0_1 s0_2 l1_0 = some (r1,r2,r3)) :
  Calls Try.prog 49 #[.pointer (some ⟨g,0,none⟩),.agg #[.slice A1_0 l1_0.length c1_0]] w fun e w'=>∃ v0_:Value,e = .returned (v0_) ∧ Kd.N k83 83 w' w.heap.size (fun k_=>(w.heap.size ≤ k_)) v0_ r1 ∧ IsS60 w0 w' g s0_0 r2 r3 ∧ Below w0.heap.size w0 w' ∧ KeepBut w w' g none:=by
 have hu26:=Try.underlying26
 have hu83:=Try.underlying83
 have HR1_0:=Aside0.mk hr1_0
 have HC1_0:=Aside0.mk hc1_0
 clear hr1_0 hc1_0
 have HI0:=Aside0.mk hI
 have HK:=Aside0.mk (KeepBut.refl w g none)
 have HL:=Aside0.mk hB.size
 clear hI
 have HW0:=Aside0.mk hB.size
 have HB:=Aside0.mk hB
 clear hB
 have H:((spec_l1Cur_among.f s0_0 s0_1 s0_2 (([0,1,1,1,2,2,3]:List Int))).bind fun bt271=>(spec_l1Cur_clause.l0 k ([]:List (S83)) bt271.1 s0_0 bt271.2.1 bt271.2.2 l1_0)) = some (r1,r2,r3):=h
 clear h
 obtain ⟨y268,hy268⟩:∃ y_:List Int,y_ = (([0,1,1,1,2,2,3]:List Int)):=⟨_,rfl⟩
 replace H:((spec_l1Cur_among.f s0_0 s0_1 s0_2 y268).bind fun bt271=>(spec_l1Cur_clause.l0 k ([]:List (S83)) bt271.1 s0_0 bt271.2.1 bt271.2.2 l1_0)) = some (r1,r2,r3):=by first|(rw [hy268];with_reducible exact H)|(have H2_:=(Option.bind_some _ _).symm.trans H;rw [hy268];with_reducible exact H2_)|(have H2_:=(Option.bind_some _ _).symm.trans H;with_reducible exact H2_)|with_reducible exact H|(rw [hy268];exact H)|exact H
 have Ny268:=Aside0.mk hy268
 clear hy268
 replace H:=bI H;obtain ⟨⟨t271,t272,t273⟩,A3,H⟩:=H
 dsimp only at H
 have H':=Aside0.mk H
 clear H
 go_enter Try.func49,Try.ntmps49
 go_wp2_with (first|(refine xB 3 #[.slice A1_0 l1_0.length c1_0] 26 ?_;intro gb267 hg w4 hbox hb;replace HB:=bS hb;have BK267:=Aside0.mk (hbox);have GW267:=gY w gb267;have GE267:=gX HW0 GW267;replace HK:=kT w g hb;have NB0_267:=iN60 g gb267;have NB267_0:=nr NB0_267;replace HI0:=iB60 hb;clear hb hbox hg)|((with_reducible refine gate_dst (N:=9) rfl ?_);refine Kd.R_lit (Kd.int .i64) _ 3 ?hg (N:=9) ?hd (xs:=([0,1,1,1,2,2,3]:List Int)) (inner:=[.int .i64 0,.int .i64 1,.int .i64 1,.int .i64 1,.int .i64 2,.int .i64 2,.int .i64 3]) (ok:=fun _=>True) (okp:=fun _=>True) ?hr ?hp (fun _ hk=>hk) trivial (Below.refl _ _) (Nat.le_refl _) (by simp) ?_;(case hd=>rfl);(case hg=>rfl);(case hr=>exact Yc);(case hp=>exact (Reps.one (show Kd.M (Kd.int .i64) _ _ _ 0 [.int .i64 0] from rfl) (Reps.one (show Kd.M (Kd.int .i64) _ _ _ 1 [.int .i64 1] from rfl) (Reps.one (show Kd.M (Kd.int .i64) _ _ _ 1 [.int .i64 1] from rfl) (Reps.one (show Kd.M (Kd.int .i64) _ _ _ 1 [.int .i64 1] from rfl) (Reps.one (show Kd.M (Kd.int .i64) _ _ _ 2 [.int .i64 2] from rfl) (Reps.one (show Kd.M (Kd.int .i64) _ _ _ 2 [.int .i64 2] from rfl) (Reps.one (show Kd.M (Kd.int .i64) _ _ _ 3 [.int .i64 3] from rfl) (Reps.none _ _)))))))));intro v269 w5 ho6 hb hg_ hnew_;clear hg_ hnew_;(first|rw [← Ny268.out] at ho6|(simp only [Int.reduceToNat] at ho6;rw [← Ny268.out] at ho6));have HO270:=Aside0.mk (Kd.R_lower (Kd.R_newM (M:=fun k_=>(w.heap.size ≤ k_)) ho6 (keep_size (w:=w) (g:=g) (row:=none) kB) (fun k_ h_=>h_)) (keep_size (w:=w) (g:=g) (row:=none) kB));replace BK267:=bb BK267 hb;replace HK:=kT w g hb;replace HB:=bS hb;replace HI0:=iB60 hb;clear hb ho6;obtain ⟨Ao7,co7,eo7⟩:=Kd.R_slice HO270.out;subst eo7)|((with_reducible refine gate_callee (f:=76) rfl ?_);refine goesL_ (some 10) rfl rfl Try.func76 (by kernel_rfl) rfl #[.pointer (some ⟨g,0,none⟩),.slice Ao7 y268.length co7] rfl Ya ?_;(with_reducible refine (spec_l1Cur_among.calls g s0_0 s0_1 s0_2 _ _ y268 t271 t272 t273 w0 _ ?side1 ?side2 ?side3 ?side4 ?side5 A3.out).mono ?_);(case side1=>exact iIsS60);(case side2=>exact bH);(case side3=>repeat (first|exact (Kd.R_reads' HO270.out).2.2|(with_reducible refine Kd.C_alloc ?_ _)|(with_reducible refine Kd.C_drewN ?_ _)|(with_reducible refine Kd.C_drew ?_)));(case side4=>exact (Kd.R_reads' HO270.out).2.1);(case side5=>exact far_slice (IsS60.own_ne HI0.out HO270.out (by decide)));rintro e w8 ⟨rfl,hi,hb,hk⟩;refine ⟨_,rfl,?_⟩;replace BK267:=kU hk NB267_0 (bB BK267);replace HO270:=Aside0.mk (Kd.R_mono (Kd.R_keep (IsS60.apart (show IsS60 w0 _ g s0_0 s0_1 s0_2 from iIsS60) (rR HO270) (by decide)) hk (fun _ h=>h.2)) (fun _ h=>h.1));replace HK:=Aside0.mk (KeepBut.trans kB hk (.inl rfl));replace HB:=Aside0.mk (hb);replace HI0:=Aside0.mk (hi);clear hb hk hi))
 go_loopg [5,6] k (fun kq v5 v6 w'=>∃ (x5_1:List (S83)) (x6_1:Int) (x1001_1:Int) (x1002_1:Int),v6 = .int .i64 x6_1 ∧ Aside0 (spec_l1Cur_clause.l0 kq x5_1 x6_1 s0_0 x1001_1 x1002_1 l1_0 = some (r1,r2,r3)) ∧ Aside0 (kq ≤ k) ∧ Aside0 (Kd.N k83 83 w' w.heap.size (fun k_=>(w.heap.size ≤ k_) ∧ k_ ≠ gb267 ∧ k_ ≠ g) v5 x5_1) ∧ Aside0 (w'.heap[gb267]? = some (.cells #[(.slice A1_0 l1_0.length c1_0)] 26 (0,0))) ∧ Aside0 (IsS60 w0 w' g s0_0 x1001_1 x1002_1) ∧ Aside0 (KeepBut w w' g none) ∧ Aside0 (Below w0.heap.size w0 w'))
 case atStart=>exact ⟨(([]:List (S83))),(t271),(t272),(t273),Yd,H',⟨Nat.le_refl _⟩,⟨Yl⟩,⟨Yk⟩,⟨iIsS60⟩,⟨kB⟩,⟨bH⟩⟩
 case round =>
  clear H'
  obtain ⟨x5_1,x6_1,x1001_1,x1002_1,rfl,HA,HK1,HO_5,BK267,HI0,HK,HB⟩:=hrel
  cases gk with
  | zero=>exact absurd HA.out (by simp [spec_l1Cur_clause.l0])
  | succ k1 =>
   have H:=HA.out
   clear HA
   simp only [spec_l1Cur_clause.l0] at H
   by_cases c9:x6_1 > 0
   ·rw [if_pos c9] at H
    have c9b0:decide (0 < x6_1) = true:=decide_eq_true c9
    clear c9
    replace H:=bI H;obtain ⟨⟨t274,t275,t278,t281,t282⟩,A10,H⟩:=H
    dsimp only at H
    replace H:=gK H;obtain ⟨LMc11,H⟩:=H
    obtain ⟨y283,hy283⟩:∃ y_:List (S83),y_ = (x5_1 ++ [(⟨t274,t275,t278⟩:S83)]):=⟨_,rfl⟩
    replace H:(spec_l1Cur_clause.l0 k1 y283 (wrap64 (x6_1 - 1)) s0_0 t281 t282 l1_0) = some (r1,r2,r3):=by first|(rw [hy283];with_reducible exact H)|(have H2_:=(Option.bind_some _ _).symm.trans H;rw [hy283];with_reducible exact H2_)|(have H2_:=(Option.bind_some _ _).symm.trans H;with_reducible exact H2_)|with_reducible exact H|(rw [hy283];exact H)|exact H
    have Ny283:=Aside0.mk hy283
    clear hy283
    have H':=Aside0.mk H
    clear H
    have hnb12:=NB267_0.out
    have hnc12:=NB0_267.out
    have hcz13_0:=qc1_0 BK267
    have hfz13_0:=fz BK267 0
    go_wp2_with (first|((with_reducible refine gate_callee (f:=87) rfl ?_);refine goesL_ (some 18) rfl rfl Try.func87 (by kernel_rfl) rfl #[.pointer (some ⟨g,0,none⟩),.agg #[.slice A1_0 l1_0.length c1_0]] rfl Ya ?_;(with_reducible refine (spec_l1Cur_lit.calls k1 g s0_0 x1001_1 x1002_1 _ _ l1_0 t274 t275 t278 t281 t282 w0 _ ?side1 ?side2 ?side3 ?side4 ?side5 A10.out).mono ?_);(case side1=>exact iIsS60);(case side2=>exact bH);(case side3=>exact Za);(case side4=>exact HC1_0.out);(case side5=>exact hf1_0);rintro e w14 ⟨v276,v279,rfl,ho0,ho1,hi,hb,hk⟩;refine ⟨_,rfl,?_⟩;replace HO_5:=Aside0.mk (Kd.N_mono (Kd.N_told (Kd.N_told (Kd.N_oldK (Kd.N_mono (ok:=fun k_=>(((w.heap.size ≤ k_)) ∧ (k_ ≠ gb267 ∧ k_ ≠ g))) (rN HO_5) (fun k_ hk_=>(⟨hk_,hk_.2.2⟩:_ ∧ k_ ≠ g))) hk) (Kd.R_base ho0)) (Kd.R_base ho1)) (fun _ h_=>h_.1));replace BK267:=kU hk NB267_0 (bB BK267);have HO277:=Aside0.mk (Kd.R_lower (Kd.R_newM (M:=fun k_=>(w.heap.size ≤ k_)) ho0 (keep_size (w:=w) (g:=g) (row:=none) kB) (fun k_ h_=>h_)) (keep_size (w:=w) (g:=g) (row:=none) kB));have HO280:=Aside0.mk (Kd.R_lower (Kd.R_newM (M:=fun k_=>(w.heap.size ≤ k_)) ho1 (keep_size (w:=w) (g:=g) (row:=none) kB) (fun k_ h_=>h_)) (keep_size (w:=w) (g:=g) (row:=none) kB));replace HK:=Aside0.mk (KeepBut.trans kB hk (.inl rfl));replace HB:=Aside0.mk (hb);replace HI0:=Aside0.mk (hi);(try clear hb);(try clear hb2);(try clear hk);(try clear hi);(try clear ho0);(try clear ho1);obtain ⟨Ao16,co16,eo16⟩:=Kd.R_slice HO277.out;subst eo16;obtain ⟨Ao17,co17,eo17⟩:=Kd.R_slice HO280.out;subst eo17)|((with_reducible refine gate_builtin (b:=.append) (xs:=#[.tmp 15,.tmp 19]) rfl ?_);at_builtin;refine Kd.N_append k83 w.heap.size rfl (.tmp 15) (.tmp 19) 40 83 (.agg #[(.bool false),(.slice none 0 0),(.slice none 0 0)]) 56 rfl Try.underlying40 info83 rfl (by decide) YP u5 x5_1 (⟨t274,t275,t278⟩:S83) [.bool t274,.slice Ao16 t275.length co16,.slice Ao17 t278.length co17] (fun k_=>(w.heap.size ≤ k_) ∧ k_ ≠ gb267 ∧ k_ ≠ g) (fun k_=>((fun k_=>(w.heap.size ≤ k_) ∧ k_ ≠ gb267 ∧ k_ ≠ g)) k_ ∧ some k_ ≠ (u5:Value).ownBlock) rfl rfl ?aP (fun _ hk=>hk) ?aF ?aO (Below.refl _ _) ?aS ?aL ?_;(case aP=>exact (k83_mkF _ _ (⟨t274,t275,t278⟩:S83) (Kd.R_reads' (Kd.R_mono (ok':=(fun k_=>((fun k_=>(w.heap.size ≤ k_) ∧ k_ ≠ gb267 ∧ k_ ≠ g)) k_ ∧ some k_ ≠ (u5:Value).ownBlock)) (IsS60.apart HI0.out (Kd.R_types (Kd.R_apart' (HO277.out) (Kd.N_typed HO_5.out) (by decide)) BK267.out (by decide)) (by decide)) (fun k_ hk=>⟨⟨hk.1.1.1.1,⟨hk.1.2,hk.2⟩⟩,hk.1.1.2⟩))).2.1 (Kd.R_F (Kd.R_mono (ok':=(fun k_=>((fun k_=>(w.heap.size ≤ k_) ∧ k_ ≠ gb267 ∧ k_ ≠ g)) k_ ∧ some k_ ≠ (u5:Value).ownBlock)) (IsS60.apart HI0.out (Kd.R_types (Kd.R_apart' (HO277.out) (Kd.N_typed HO_5.out) (by decide)) BK267.out (by decide)) (by decide)) (fun k_ hk=>⟨⟨hk.1.1.1.1,⟨hk.1.2,hk.2⟩⟩,hk.1.1.2⟩))) (Kd.R_reads' (Kd.R_mono (ok':=(fun k_=>((fun k_=>(w.heap.size ≤ k_) ∧ k_ ≠ gb267 ∧ k_ ≠ g)) k_ ∧ some k_ ≠ (u5:Value).ownBlock)) (IsS60.apart HI0.out (Kd.R_types (Kd.R_apart' (HO280.out) (Kd.N_typed HO_5.out) (by decide)) BK267.out (by decide)) (by decide)) (fun k_ hk=>⟨⟨hk.1.1.1.1,⟨hk.1.2,hk.2⟩⟩,hk.1.1.2⟩))).2.1 (Kd.R_F (Kd.R_mono (ok':=(fun k_=>((fun k_=>(w.heap.size ≤ k_) ∧ k_ ≠ gb267 ∧ k_ ≠ g)) k_ ∧ some k_ ≠ (u5:Value).ownBlock)) (IsS60.apart HI0.out (Kd.R_types (Kd.R_apart' (HO280.out) (Kd.N_typed HO_5.out) (by decide)) BK267.out (by decide)) (by decide)) (fun k_ hk=>⟨⟨hk.1.1.1.1,⟨hk.1.2,hk.2⟩⟩,hk.1.1.2⟩)))));(case aF=>exact YQ);(case aO=>exact Zd);(case aS=>exact Ze);(case aL=>have:=LMc11.out;omega);intro v284 w15 ho hb hg hat;rw [← Ny283.out] at ho;have n0_:=Aside0.mk (blk_grown (bB BK267) hg (Kd.N_ne HO_5.out BK267.out (by decide)));have n1_:=Aside0.mk (IsS60.grown iIsS60 hg (IsS60.own_neN HI0.out HO_5.out (by decide)));have n2_:=Aside0.mk (below_weaken bH HL.out hb);have n3_:=Aside0.mk (KeepBut.trans kB (KeepBut.of_grown hg g) (Kd.N_base2 HO_5.out));have n4_:=Aside0.mk (ho);clear BK267;clear HI0;clear HB;clear HK;clear HO_5;clear HO277;clear HO280;have BK267:=n0_;have HI0:=n1_;have HB:=n2_;have HK:=n3_;have HO285:=n4_;clear n0_ n1_ n2_ n3_ n4_;clear ho hb hg hat))
    go_roundg k1
    case measure=>have:=HK1.out;omega
    case rel=>exact ⟨(y283),(wrap64 (x6_1 - 1)),(t281),(t282),Yd,H',⟨YH⟩,⟨rN HO285⟩,⟨Yk⟩,⟨iIsS60⟩,⟨kB⟩,⟨bH⟩⟩
   ·rw [if_neg c9] at H
    have c9b0:decide (0 < x6_1) = false:=decide_eq_false c9
    clear c9
    have HC18:=Aside0.mk H
    clear H
    go_upto_region 6 with (fail)
    go_cut [27] (fun v27 wc=>∃ (kq:Nat) (x27_17:Bool) (x1001_17:Int) (x1002_17:Int),v27 = .bool x27_17 ∧ Aside0 (spec_l1Cur_clause.j1 kq x5_1 x27_17 s0_0 x1001_17 x1002_17 l1_0 = some (r1,r2,r3)) ∧ Aside0 (kq ≤ k1) ∧ Aside0 (Kd.N k83 83 wc w.heap.size (fun k_=>(w.heap.size ≤ k_) ∧ k_ ≠ gb267 ∧ k_ ≠ g) u5 x5_1) ∧ Aside0 (wc.heap[gb267]? = some (.cells #[(.slice A1_0 l1_0.length c1_0)] 26 (0,0))) ∧ Aside0 (IsS60 w0 wc g s0_0 x1001_17 x1002_17) ∧ Aside0 (KeepBut w wc g none) ∧ Aside0 (Below w0.heap.size w0 wc))
    case first =>
     have H:=HC18.out
     clear HC18
     by_cases c19:(x5_1.length:Int) > 0
     ·rw [if_pos c19] at H
      have c19b0:decide (0 < (x5_1.length:Int)) = true:=decide_eq_true c19
      have c19b1:decide (0 < x5_1.length) = true:=decide_eq_true (by omega)
      clear c19
      (first|rw [c19b0]|(simp only [i64_w,i32_w];rw [c19b0])|skip)
      replace H:=bI H;obtain ⟨⟨t286,t287,t288⟩,A20,H⟩:=H
      dsimp only at H
      have H':=Aside0.mk H
      clear H
      obtain ⟨Ao21,co21,eo21⟩:=Kd.N_slice HO_5.out
      subst eo21
      go_wp2_with (first|(go_at_call 75;(with_reducible refine (spec_l1Cur_one.calls g s0_0 x1001_1 x1002_1 6 t286 t287 t288 w0 _ ?side1 ?side2 A20.out).mono ?_);(case side1=>exact iIsS60);(case side2=>exact bH);rintro e w22 ⟨rfl,hi,hb,hk⟩;replace HO_5:=Aside0.mk (Kd.N_mono (Kd.N_keep (Kd.N_mono (ok:=fun k_=>(((w.heap.size ≤ k_)) ∧ (k_ ≠ gb267 ∧ k_ ≠ g))) (rN HO_5) (fun k_ hk_=>(⟨hk_,hk_.2.2⟩:_ ∧ k_ ≠ g))) hk (fun _ h=>h.2)) (fun _ h=>h.1));replace BK267:=kU hk NB267_0 (bB BK267);replace HK:=Aside0.mk (KeepBut.trans kB hk (.inl rfl));replace HB:=Aside0.mk (hb);replace HI0:=Aside0.mk (hi);clear hb hk hi))
      go_meet
      case rel=>exact ⟨_,(t286),(t287),(t288),Yd,H',⟨YZ⟩,⟨rN HO_5⟩,⟨Yk⟩,⟨iIsS60⟩,⟨kB⟩,⟨bH⟩⟩
     ·rw [if_neg c19] at H
      have c19b0:decide (0 < (x5_1.length:Int)) = false:=decide_eq_false c19
      have c19b1:decide (0 < x5_1.length) = false:=decide_eq_false (by omega)
      clear c19
      (first|rw [c19b0]|(simp only [i64_w,i32_w];rw [c19b0])|skip)
      have H':=Aside0.mk H
      clear H
      obtain ⟨Ao23,co23,eo23⟩:=Kd.N_slice HO_5.out
      subst eo23
      go_wp2
      go_meet
      case rel=>exact ⟨_,(false),(x1001_1),(x1002_1),Yd,H',⟨YZ⟩,⟨rN HO_5⟩,⟨Yk⟩,⟨iIsS60⟩,⟨kB⟩,⟨bH⟩⟩
    case rest =>
     clear HC18
     (try clear c9);(try clear c9b0);(try clear c19);(try clear c19b0);(try clear c19b1);(try clear hcz13_0);(try clear hfz13_0)
     obtain ⟨kq,x27_17,x1001_17,x1002_17,rfl,HA,HJ17,HO_5,BK267,HI0,HK,HB⟩:=hcut
     cases kq with
     | zero=>exact absurd HA.out (by simp [spec_l1Cur_clause.j1])
     | succ kj17 =>
      have H:=HA.out
      clear HA
      simp only [spec_l1Cur_clause.j1] at H
      have HC24:=Aside0.mk H
      clear H
      go_upto_if 27 with (fail)
      go_cut [5] (fun v5 wc=>∃ (kq:Nat) (x5_23:List (S83)) (x1001_23:Int) (x1002_23:Int),Aside0 (spec_l1Cur_clause.j2 kq x5_23 s0_0 x1001_23 x1002_23 l1_0 = some (r1,r2,r3)) ∧ Aside0 (kq ≤ kj17) ∧ Aside0 (Kd.N k83 83 wc w.heap.size (fun k_=>(w.heap.size ≤ k_) ∧ k_ ≠ gb267 ∧ k_ ≠ g) v5 x5_23) ∧ Aside0 (wc.heap[gb267]? = some (.cells #[(.slice A1_0 l1_0.length c1_0)] 26 (0,0))) ∧ Aside0 (IsS60 w0 wc g s0_0 x1001_23 x1002_23) ∧ Aside0 (KeepBut w wc g none) ∧ Aside0 (Below w0.heap.size w0 wc))
      case first =>
       have H:=HC24.out
       clear HC24
       by_cases c25:x27_17 = true
       ·subst c25
        replace H:=pT H
        replace H:=bI H;obtain ⟨⟨t289,t290,t291⟩,A26,H⟩:=H
        dsimp only at H
        replace H:=gI H;obtain ⟨c27b0,H⟩:=H
        (first|rw [c27b0]|(simp only [i64_w,i32_w];rw [c27b0])|skip)
        replace H:=gI H;obtain ⟨c28b0,H⟩:=H
        replace H:=bI H;obtain ⟨⟨t294,t295,t296⟩,A29,H⟩:=H
        dsimp only at H
        replace H:=gK H;obtain ⟨LMc30,H⟩:=H
        obtain ⟨y297,hy297⟩:∃ y_:List (S83),y_ = (x5_1 ++ [(⟨(((rd_T83 x5_1 t289).f0) != t294),(rd_T83 x5_1 t289).f2,(rd_T83 x5_1 t289).f1⟩:S83)]):=⟨_,rfl⟩
        replace H:(spec_l1Cur_clause.j2 kj17 y297 s0_0 t295 t296 l1_0) = some (r1,r2,r3):=by first|(rw [hy297];with_reducible exact H)|(have H2_:=(Option.bind_some _ _).symm.trans H;rw [hy297];with_reducible exact H2_)|(have H2_:=(Option.bind_some _ _).symm.trans H;with_reducible exact H2_)|with_reducible exact H|(rw [hy297];exact H)|exact H
        have Ny297:=Aside0.mk hy297
        clear hy297
        have H':=Aside0.mk H
        clear H
        obtain ⟨Ao31,co31,eo31⟩:=Kd.N_slice HO_5.out
        subst eo31
        try go_wp2_with (first|((with_reducible refine gate_callee (f:=73) rfl ?_);refine goesL_ (some 32) rfl rfl Try.func73 (by kernel_rfl) rfl #[.pointer (some ⟨g,0,none⟩),.int .i64 (x5_1.length:Int)] rfl Ya ?_;(with_reducible refine (spec_l1Cur_pick.calls g s0_0 x1001_17 x1002_17 (x5_1.length:Int) t289 t290 t291 w0 _ ?side1 ?side2 A26.out).mono ?_);(case side1=>exact iIsS60);(case side2=>exact bH);rintro e w32 ⟨rfl,hi,hb,hk⟩;refine ⟨_,rfl,?_⟩;replace HO_5:=Aside0.mk (Kd.N_mono (Kd.N_keep (Kd.N_mono (ok:=fun k_=>(((w.heap.size ≤ k_)) ∧ (k_ ≠ gb267 ∧ k_ ≠ g))) (rN HO_5) (fun k_ hk_=>(⟨hk_,hk_.2.2⟩:_ ∧ k_ ≠ g))) hk (fun _ h=>h.2)) (fun _ h=>h.1));replace BK267:=kU hk NB267_0 (bB BK267);replace HK:=Aside0.mk (KeepBut.trans kB hk (.inl rfl));replace HB:=Aside0.mk (hb);replace HI0:=Aside0.mk (hi);(try clear hb);(try clear hb2);(try clear hk);(try clear hi);have p292:0 ≤ (t289:Int):=oD;have q292:t289 < (x5_1.length:Int):=oD;obtain ⟨ad292,A292_1,c292_1,A292_2,c292_2,e292,hx292_0,hx292_1,hx292_2,hl292_1,hi292_1,hl292_2,hi292_2⟩:=at_T83 (Kd.N_reads' HO_5.out).2.2 t289 p292 q292;cases e292;obtain ⟨ce292,hce292,hMe292,hcc292⟩:=Kd.N_get HO_5.out z83 t289 p292 (by first|exact q292|exact oD|(have e_:=(Kd.N_reads' HO_5.out).1;omega));obtain ⟨ua292_1,uc292_1,ua292_2,uc292_2,rfl,ul292_1,ge292_1,ul292_2,ge292_2⟩:=k83_openF hMe292;have hv292_1:=hcc292 1 _ rfl;rw [add_field _ _ 1 (by omega)] at hv292_1;replace hv292_1:=Option.some.inj (hv292_1.symm.trans hx292_1);injection hv292_1 with hva_ hvn_ hvc_;rw [hva_] at ge292_1;rw [hvc_] at ul292_1;have HL292_1:=Aside0.mk (show Kd.V (Kd.int .i64) 3 _ w.heap.size _ _ ((rd_T83 x5_1 t289).f1) from Kd.V_mk ul292_1 ge292_1);clear hva_ hvn_ hvc_ ge292_1 ul292_1;have hv292_2:=hcc292 2 _ rfl;rw [add_field _ _ 2 (by omega)] at hv292_2;replace hv292_2:=Option.some.inj (hv292_2.symm.trans hx292_2);injection hv292_2 with hva_ hvn_ hvc_;rw [hva_] at ge292_2;rw [hvc_] at ul292_2;have HL292_2:=Aside0.mk (show Kd.V (Kd.int .i64) 3 _ w.heap.size _ _ ((rd_T83 x5_1 t289).f2) from Kd.V_mk ul292_2 ge292_2);clear hva_ hvn_ hvc_ ge292_2 ul292_2;clear hcc292 hce292;have HR292_1:=Aside0.mk hi292_1;have HC292_1:=Aside0.mk hl292_1;clear hi292_1 hl292_1;have HR292_2:=Aside0.mk hi292_2;have HC292_2:=Aside0.mk hl292_2;clear hi292_2 hl292_2;replace p292:=eq_true p292;replace q292:=eq_true q292)|(refine xB 7 #[.bool false,.slice none 0 0,.slice none 0 0] 83 ?_;intro gb293 hg w33 hbox hb;replace HO_5:=Aside0.mk (Kd.N_below (Kd.N_elderB (rN HO_5) gb293 (Nat.le_of_eq hg.symm)) hb);replace HL292_1:=Aside0.mk (Kd.V_below (Kd.V_elderB (rV HL292_1) gb293 (Nat.le_of_eq hg.symm)) hb);replace HL292_2:=Aside0.mk (Kd.V_below (Kd.V_elderB (rV HL292_2) gb293 (Nat.le_of_eq hg.symm)) hb);replace HR292_1:=Aside0.mk (Kd.C_below (by repeat (first|(with_reducible exact HR292_1.out)|(with_reducible refine Kd.C_alloc ?_ _)|(with_reducible refine Kd.C_drewN ?_ _)|(with_reducible refine Kd.C_drew ?_)|exact HR292_1.out)) hb);replace HR292_2:=Aside0.mk (Kd.C_below (by repeat (first|(with_reducible exact HR292_2.out)|(with_reducible refine Kd.C_alloc ?_ _)|(with_reducible refine Kd.C_drewN ?_ _)|(with_reducible refine Kd.C_drew ?_)|exact HR292_2.out)) hb);replace HB:=bS hb;have BK293:=Aside0.mk (hbox);have GW293:=gY w gb293;have GE293:=gX HW0 GW293;replace HK:=kT w g hb;have NB267_293:=nl BK267 gb267 gb293;have NB293_267:=nr NB267_293;replace BK267:=bb BK267 hb;have NB0_293:=iN60 g gb293;have NB293_0:=nr NB0_293;replace HI0:=iB60 hb;clear hb hbox hg;have hnb34:=NB293_267.out;have hnc34:=NB267_293.out;have hnb35:=NB293_0.out;have hnc35:=NB0_293.out;have hcz36_0:=qc3_0 BK293;have hcz36_1:=qc3_1 BK293;have hcz36_2:=qc3_2 BK293;have hfz36_0:=fz BK293 0;have hfz36_1:=fz BK293 1;have hfz36_2:=fz BK293 2))
        have n0_:Aside0 (Kd.N k83 83 (((w33.setCell ⟨gb293,0,none⟩ (.bool ((rd_T83 x5_1 t289).f0))).setCell ⟨gb293,1,none⟩ (.slice A292_1 ((rd_T83 x5_1 t289).f1).length c292_1)).setCell ⟨gb293,2,none⟩ (.slice A292_2 ((rd_T83 x5_1 t289).f2).length c292_2)) w.heap.size (fun k_=>(w.heap.size ≤ k_) ∧ k_ ≠ gb267 ∧ k_ ≠ g ∧ k_ ≠ gb293) (.slice (some ad292) x5_1.length co31) x5_1):=⟨by (with_reducible repeat (first|apply Kd.N_alloc|apply Kd.N_drewN|apply Kd.N_drew));exact Kd.N_mono (Kd.N_far (p:=⟨gb293,2,none⟩) (Kd.N_far (p:=⟨gb293,1,none⟩) (Kd.N_far (p:=⟨gb293,0,none⟩) (Kd.N_mono HO_5.out (fun k_ hk=>(⟨hk,hk.2⟩:_ ∧ k_ ≠ gb293))) (fun _ hk=>hk.2) (.bool ((rd_T83 x5_1 t289).f0))) (fun _ hk=>hk.2) (.slice A292_1 ((rd_T83 x5_1 t289).f1).length c292_1)) (fun _ hk=>hk.2) (.slice A292_2 ((rd_T83 x5_1 t289).f2).length c292_2)) (fun _ hk=>⟨hk.1.1.1,⟨hk.1.1.2.1,⟨hk.1.1.2.2,hk.1.2⟩⟩⟩)⟩
        have n1_:Aside0 (Kd.V (Kd.int .i64) 3 (((w33.setCell ⟨gb293,0,none⟩ (.bool ((rd_T83 x5_1 t289).f0))).setCell ⟨gb293,1,none⟩ (.slice A292_1 ((rd_T83 x5_1 t289).f1).length c292_1)).setCell ⟨gb293,2,none⟩ (.slice A292_2 ((rd_T83 x5_1 t289).f2).length c292_2)) w.heap.size (fun k_=>(w.heap.size ≤ k_) ∧ some k_ ≠ (.slice (some ad292) x5_1.length co31:Value).ownBlock ∧ k_ ≠ gb267 ∧ k_ ≠ g ∧ k_ ≠ gb293) (.slice A292_1 ((rd_T83 x5_1 t289).f1).length c292_1) ((rd_T83 x5_1 t289).f1)):=⟨by (with_reducible repeat (first|apply Kd.V_alloc|apply Kd.V_drewN|apply Kd.V_drew));exact Kd.V_mono (Kd.V_far (p:=⟨gb293,2,none⟩) (Kd.V_far (p:=⟨gb293,1,none⟩) (Kd.V_far (p:=⟨gb293,0,none⟩) (Kd.V_mono HL292_1.out (fun k_ hk=>(⟨hk,hk.2⟩:_ ∧ k_ ≠ gb293))) (fun _ hk=>hk.2) (.bool ((rd_T83 x5_1 t289).f0))) (fun _ hk=>hk.2) (.slice A292_1 ((rd_T83 x5_1 t289).f1).length c292_1)) (fun _ hk=>hk.2) (.slice A292_2 ((rd_T83 x5_1 t289).f2).length c292_2)) (fun _ hk=>⟨hk.1.1.1.1,⟨hk.1.1.2,⟨hk.1.1.1.2.1,⟨hk.1.1.1.2.2,hk.1.2⟩⟩⟩⟩)⟩
        have n2_:Aside0 (Kd.V (Kd.int .i64) 3 (((w33.setCell ⟨gb293,0,none⟩ (.bool ((rd_T83 x5_1 t289).f0))).setCell ⟨gb293,1,none⟩ (.slice A292_1 ((rd_T83 x5_1 t289).f1).length c292_1)).setCell ⟨gb293,2,none⟩ (.slice A292_2 ((rd_T83 x5_1 t289).f2).length c292_2)) w.heap.size (fun k_=>(w.heap.size ≤ k_) ∧ some k_ ≠ (.slice (some ad292) x5_1.length co31:Value).ownBlock ∧ k_ ≠ gb267 ∧ k_ ≠ g ∧ k_ ≠ gb293) (.slice A292_2 ((rd_T83 x5_1 t289).f2).length c292_2) ((rd_T83 x5_1 t289).f2)):=⟨by (with_reducible repeat (first|apply Kd.V_alloc|apply Kd.V_drewN|apply Kd.V_drew));exact Kd.V_mono (Kd.V_far (p:=⟨gb293,2,none⟩) (Kd.V_far (p:=⟨gb293,1,none⟩) (Kd.V_far (p:=⟨gb293,0,none⟩) (Kd.V_mono HL292_2.out (fun k_ hk=>(⟨hk,hk.2⟩:_ ∧ k_ ≠ gb293))) (fun _ hk=>hk.2) (.bool ((rd_T83 x5_1 t289).f0))) (fun _ hk=>hk.2) (.slice A292_1 ((rd_T83 x5_1 t289).f1).length c292_1)) (fun _ hk=>hk.2) (.slice A292_2 ((rd_T83 x5_1 t289).f2).length c292_2)) (fun _ hk=>⟨hk.1.1.1.1,⟨hk.1.1.2,⟨hk.1.1.1.2.1,⟨hk.1.1.1.2.2,hk.1.2⟩⟩⟩⟩)⟩
        have n3_:Aside0 ((((w33.setCell ⟨gb293,0,none⟩ (.bool ((rd_T83 x5_1 t289).f0))).setCell ⟨gb293,1,none⟩ (.slice A292_1 ((rd_T83 x5_1 t289).f1).length c292_1)).setCell ⟨gb293,2,none⟩ (.slice A292_2 ((rd_T83 x5_1 t289).f2).length c292_2)).heap[gb267]? = some (.cells #[.slice A1_0 l1_0.length c1_0] 26 (0,0))):=⟨by (with_reducible repeat (first|refine blk_drewN ?_ _|refine blk_drew ?_|refine blk_alloc ?_ _));refine blk_far ?_ NB267_293.out _;(with_reducible repeat (first|refine blk_drewN ?_ _|refine blk_drew ?_|refine blk_alloc ?_ _));refine blk_far ?_ NB267_293.out _;(with_reducible repeat (first|refine blk_drewN ?_ _|refine blk_drew ?_|refine blk_alloc ?_ _));refine blk_far ?_ NB267_293.out _;(with_reducible repeat (first|refine blk_drewN ?_ _|refine blk_drew ?_|refine blk_alloc ?_ _));exact BK267.out⟩
        have n4_:Aside0 ((((w33.setCell ⟨gb293,0,none⟩ (.bool ((rd_T83 x5_1 t289).f0))).setCell ⟨gb293,1,none⟩ (.slice A292_1 ((rd_T83 x5_1 t289).f1).length c292_1)).setCell ⟨gb293,2,none⟩ (.slice A292_2 ((rd_T83 x5_1 t289).f2).length c292_2)).heap[gb293]? = some (.cells #[.bool ((rd_T83 x5_1 t289).f0),.slice A292_1 ((rd_T83 x5_1 t289).f1).length c292_1,.slice A292_2 ((rd_T83 x5_1 t289).f2).length c292_2] 83 (0,0))):=⟨by (with_reducible repeat (first|refine blk_drewN ?_ _|refine blk_drew ?_|refine blk_alloc ?_ _));refine blk_put (cs:=#[.bool ((rd_T83 x5_1 t289).f0),.slice A292_1 ((rd_T83 x5_1 t289).f1).length c292_1,.slice none 0 0]) ?_ 2 _ rfl;(with_reducible repeat (first|refine blk_drewN ?_ _|refine blk_drew ?_|refine blk_alloc ?_ _));refine blk_put (cs:=#[.bool ((rd_T83 x5_1 t289).f0),.slice none 0 0,.slice none 0 0]) ?_ 1 _ rfl;(with_reducible repeat (first|refine blk_drewN ?_ _|refine blk_drew ?_|refine blk_alloc ?_ _));refine blk_put (cs:=#[.bool false,.slice none 0 0,.slice none 0 0]) ?_ 0 _ rfl;(with_reducible repeat (first|refine blk_drewN ?_ _|refine blk_drew ?_|refine blk_alloc ?_ _));exact BK293.out⟩
        have n5_:Aside0 (IsS60 w0 (((w33.setCell ⟨gb293,0,none⟩ (.bool ((rd_T83 x5_1 t289).f0))).setCell ⟨gb293,1,none⟩ (.slice A292_1 ((rd_T83 x5_1 t289).f1).length c292_1)).setCell ⟨gb293,2,none⟩ (.slice A292_2 ((rd_T83 x5_1 t289).f2).length c292_2)) g s0_0 t290 t291):=⟨iIsS60⟩
        have n6_:Aside0 (KeepBut w (((w33.setCell ⟨gb293,0,none⟩ (.bool ((rd_T83 x5_1 t289).f0))).setCell ⟨gb293,1,none⟩ (.slice A292_1 ((rd_T83 x5_1 t289).f1).length c292_1)).setCell ⟨gb293,2,none⟩ (.slice A292_2 ((rd_T83 x5_1 t289).f2).length c292_2)) g none):=⟨kB⟩
        have n7_:Aside0 (Below w0.heap.size w0 (((w33.setCell ⟨gb293,0,none⟩ (.bool ((rd_T83 x5_1 t289).f0))).setCell ⟨gb293,1,none⟩ (.slice A292_1 ((rd_T83 x5_1 t289).f1).length c292_1)).setCell ⟨gb293,2,none⟩ (.slice A292_2 ((rd_T83 x5_1 t289).f2).length c292_2))):=⟨bH⟩
        (try clear HO_5);(try clear HL292_1);(try clear HL292_2);(try clear BK267);(try clear BK293);(try clear HI0);(try clear HK);(try clear HB)
        generalize (((w33.setCell ⟨gb293,0,none⟩ (.bool ((rd_T83 x5_1 t289).f0))).setCell ⟨gb293,1,none⟩ (.slice A292_1 ((rd_T83 x5_1 t289).f1).length c292_1)).setCell ⟨gb293,2,none⟩ (.slice A292_2 ((rd_T83 x5_1 t289).f2).length c292_2)) = w37 at n0_ n1_ n2_ n3_ n4_ n5_ n6_ n7_ ⊢
        have HO_5:=n0_
        have HL292_1:=n1_
        have HL292_2:=n2_
        have BK267:=n3_
        have BK293:=n4_
        have HI0:=n5_
        have HK:=n6_
        have HB:=n7_
        clear n0_ n1_ n2_ n3_ n4_ n5_ n6_ n7_
        replace HO_5:=Aside0.mk (Kd.N_drew HO_5.out);replace HL292_1:=Aside0.mk (Kd.V_drew HL292_1.out);replace HL292_2:=Aside0.mk (Kd.V_drew HL292_2.out);replace BK267:=Aside0.mk (blk_drew BK267.out);replace BK293:=Aside0.mk (blk_drew BK293.out);replace HI0:=Aside0.mk (IsS60.drew HI0.out);replace HK:=Aside0.mk (keep_drew HK.out);replace HB:=Aside0.mk (below_drew1 HB.out)
        refine start_ (n:=14) (S:=fun w'=>w'.cell? ⟨gb293,0,none⟩ = some (.bool ((rd_T83 x5_1 t289).f0)) ∧ w'.cell? ⟨gb293,1,none⟩ = some (.slice A292_1 ((rd_T83 x5_1 t289).f1).length c292_1) ∧ w'.cell? ⟨gb293,2,none⟩ = some (.slice A292_2 ((rd_T83 x5_1 t289).f2).length c292_2)) (ds:=[]) #[false,false,false,false,false,false,false,false,false,false,false,false,false,false] (by kernel_rfl) rfl rfl (qA3 BK293) (fun hHeld=>?_);refine with_tabW spec_l1Cur_clause.tab8 spec_l1Cur_clause.bits8 (fun HT_ HW_=>?_)
        generalize w37.drew = w38 at HO_5 HL292_1 HL292_2 BK267 BK293 HI0 HK HB hHeld ⊢
        refine pV 0 (some 35) (bs 14 1) HT_ ?_
        refine pV 1 (some 36) (bs 14 3) HT_ ?_
        refine pV 3 (some 38) (bs 14 11) HT_ ?_
        refine pV 6 (some 41) (bs 14 75) HT_ ?_
        refine pV 8 (some 43) (bs 14 331) HT_ ?_
        refine tV3 2 (some 37) (bs 14 335) HT_ HW_ hHeld ?_
        refine tV3 7 (some 42) (bs 14 463) HT_ HW_ hHeld ?_
        refine tV3 9 (some 44) (bs 14 975) HT_ HW_ hHeld ?_
        refine oN 4 (some 39) (bs 14 991) HT_ fun K hK=>?_
        refine goes_ Try.func75 (by kernel_rfl) rfl #[.pointer (some ⟨g,0,none⟩),.int .i64 3] (by rfl) rfl rfl Ya ?_
        with_reducible refine (spec_l1Cur_one.calls g s0_0 t290 t291 3 t294 t295 t296 w0 _ ?side1 ?side2 A29.out).mono ?_
        (case side1=>exact iIsS60)
        (case side2=>exact bH)
        rintro e w39 ⟨rfl,hi,hb,hk⟩
        refine ⟨_,rfl,?_⟩
        replace HO_5:=Aside0.mk (Kd.N_mono (Kd.N_keep (Kd.N_mono (ok:=fun k_=>(((w.heap.size ≤ k_)) ∧ (k_ ≠ gb267 ∧ (k_ ≠ g ∧ k_ ≠ gb293)))) (rN HO_5) (fun k_ hk_=>(⟨hk_,hk_.2.2.1⟩:_ ∧ k_ ≠ g))) hk (fun _ h=>h.2)) (fun _ h=>h.1));replace BK267:=kU hk NB267_0 (bB BK267);replace HL292_1:=Aside0.mk (Kd.V_mono (Kd.V_keep (Kd.V_mono (ok:=fun k_=>(((w.heap.size ≤ k_)) ∧ (some k_ ≠ (.slice (some ad292) x5_1.length co31:Value).ownBlock ∧ (k_ ≠ gb267 ∧ (k_ ≠ g ∧ k_ ≠ gb293))))) (rV HL292_1) (fun k_ hk_=>(⟨hk_,hk_.2.2.2.1⟩:_ ∧ k_ ≠ g))) hk (fun _ h=>h.2)) (fun _ h=>h.1));replace HL292_2:=Aside0.mk (Kd.V_mono (Kd.V_keep (Kd.V_mono (ok:=fun k_=>(((w.heap.size ≤ k_)) ∧ (some k_ ≠ (.slice (some ad292) x5_1.length co31:Value).ownBlock ∧ (k_ ≠ gb267 ∧ (k_ ≠ g ∧ k_ ≠ gb293))))) (rV HL292_2) (fun k_ hk_=>(⟨hk_,hk_.2.2.2.1⟩:_ ∧ k_ ≠ g))) hk (fun _ h=>h.2)) (fun _ h=>h.1));replace BK293:=kU hk NB293_0 (bB BK293);replace HK:=Aside0.mk (KeepBut.trans kB hk (.inl rfl));replace HB:=Aside0.mk (hb);replace HI0:=Aside0.mk (hi)
        (try clear hb);(try clear hb2);(try clear hk);(try clear hi)
        refine hK.out _ _ (qA3 BK293) (fun hHeld=>?_)
        clear hK K
        refine nM (N:=some 39) ?_
        refine pV 5 (some 40) (bs 14 1023) HT_ ?_
        refine pV 10 (some 45) (bs 14 2047) HT_ ?_
        refine oN 11 (some 46) (bs 14 4095) HT_ fun K hK=>?_
        refine value_ (w1:=?_) (v:=?_) (by rfl) rfl ?_ ?_
        rotate_left 2
        ·go_simp
         constructor
         ·rfl
         ·rfl
        refine hK.out _ _ ⟨(blk_cell (blk_alloc BK293.out _) 0).trans rfl,(blk_cell (blk_alloc BK293.out _) 1).trans rfl,(blk_cell (blk_alloc BK293.out _) 2).trans rfl⟩ (fun hHeld=>?_)
        clear hK K
        refine nM (N:=some 46) ?_
        refine oN 12 (some 47) (bs 14 8191) HT_ fun K hK=>?_
        refine Kd.N_append_step k83 w.heap.size (by rfl) (.tmp 35) (.tmp 46) 40 83 (.agg #[(.bool false),(.slice none 0 0),(.slice none 0 0)]) 56 rfl Try.underlying40 info83 rfl (by decide) YP (.slice (some ad292) x5_1.length co31) x5_1 (⟨(((rd_T83 x5_1 t289).f0) != t294),(rd_T83 x5_1 t289).f2,(rd_T83 x5_1 t289).f1⟩:S83) [.bool (((rd_T83 x5_1 t289).f0) != t294),.slice A292_2 ((rd_T83 x5_1 t289).f2).length c292_2,.slice A292_1 ((rd_T83 x5_1 t289).f1).length c292_1] (fun k_=>(w.heap.size ≤ k_) ∧ k_ ≠ gb267 ∧ k_ ≠ gb293 ∧ k_ ≠ g) (fun k_=>((fun k_=>(w.heap.size ≤ k_) ∧ k_ ≠ gb267 ∧ k_ ≠ gb293 ∧ k_ ≠ g)) k_ ∧ some k_ ≠ (.slice (some ad292) x5_1.length co31:Value).ownBlock) rfl rfl ?aP (fun _ hk=>hk) ?aF ?aO (Below.refl _ _) ?aS ?aL ?_
        (case aP=>exact (k83_mkF _ _ (⟨(((rd_T83 x5_1 t289).f0) != t294),(rd_T83 x5_1 t289).f2,(rd_T83 x5_1 t289).f1⟩:S83) (Kd.V_reads' (Kd.V_mono (ok':=(fun k_=>((fun k_=>(w.heap.size ≤ k_) ∧ k_ ≠ gb267 ∧ k_ ≠ gb293 ∧ k_ ≠ g)) k_ ∧ some k_ ≠ (.slice (some ad292) x5_1.length co31:Value).ownBlock)) (HL292_2.out) (fun k_ hk=>⟨⟨hk.1,⟨hk.2.2.1,⟨hk.2.2.2.2,hk.2.2.2.1⟩⟩⟩,hk.2.1⟩))).2.1 (Kd.V_F (Kd.V_mono (ok':=(fun k_=>((fun k_=>(w.heap.size ≤ k_) ∧ k_ ≠ gb267 ∧ k_ ≠ gb293 ∧ k_ ≠ g)) k_ ∧ some k_ ≠ (.slice (some ad292) x5_1.length co31:Value).ownBlock)) (HL292_2.out) (fun k_ hk=>⟨⟨hk.1,⟨hk.2.2.1,⟨hk.2.2.2.2,hk.2.2.2.1⟩⟩⟩,hk.2.1⟩))) (Kd.V_reads' (Kd.V_mono (ok':=(fun k_=>((fun k_=>(w.heap.size ≤ k_) ∧ k_ ≠ gb267 ∧ k_ ≠ gb293 ∧ k_ ≠ g)) k_ ∧ some k_ ≠ (.slice (some ad292) x5_1.length co31:Value).ownBlock)) (HL292_1.out) (fun k_ hk=>⟨⟨hk.1,⟨hk.2.2.1,⟨hk.2.2.2.2,hk.2.2.2.1⟩⟩⟩,hk.2.1⟩))).2.1 (Kd.V_F (Kd.V_mono (ok':=(fun k_=>((fun k_=>(w.heap.size ≤ k_) ∧ k_ ≠ gb267 ∧ k_ ≠ gb293 ∧ k_ ≠ g)) k_ ∧ some k_ ≠ (.slice (some ad292) x5_1.length co31:Value).ownBlock)) (HL292_1.out) (fun k_ hk=>⟨⟨hk.1,⟨hk.2.2.1,⟨hk.2.2.2.2,hk.2.2.2.1⟩⟩⟩,hk.2.1⟩)))))
        (case aF=>exact (fun k_ hk=>⟨(Nat.le_trans (keep_size (w:=w) (g:=g) (row:=none) kB) hk),Kd.freshB (bB BK267) k_ hk,Kd.freshB (bB BK293) k_ hk,IsS60.fresh iIsS60 k_ hk⟩))
        (case aO=>exact (by (with_reducible repeat (first|apply Kd.N_alloc|apply Kd.N_drewN|apply Kd.N_drew));exact Kd.N_mono HO_5.out (fun _ hk=>⟨hk.1,⟨hk.2.1,⟨hk.2.2.2,hk.2.2.1⟩⟩⟩)))
        (case aS=>exact Ze)
        (case aL=>have:=LMc30.out;omega)
        intro v298 w40 ho hb hg hat
        rw [← Ny297.out] at ho
        have n0_:=Aside0.mk (blk_grown (bB BK267) hg (Kd.N_ne HO_5.out BK267.out (by decide)));have n1_:=Aside0.mk (IsS60.grown iIsS60 hg (IsS60.own_neN HI0.out HO_5.out (by decide)));have n2_:=Aside0.mk (Kd.V_afterv (ok:=(fun k_=>(w.heap.size ≤ k_) ∧ k_ ≠ gb267 ∧ k_ ≠ g ∧ k_ ≠ gb293)) (by (with_reducible repeat (first|apply Kd.V_alloc|apply Kd.V_drewN|apply Kd.V_drew));exact Kd.V_mono HL292_1.out (fun _ hk=>⟨⟨hk.1,⟨hk.2.2.1,⟨hk.2.2.2.1,hk.2.2.2.2⟩⟩⟩,hk.2.1⟩)) hg hat);have n3_:=Aside0.mk (Kd.V_afterv (ok:=(fun k_=>(w.heap.size ≤ k_) ∧ k_ ≠ gb267 ∧ k_ ≠ g ∧ k_ ≠ gb293)) (by (with_reducible repeat (first|apply Kd.V_alloc|apply Kd.V_drewN|apply Kd.V_drew));exact Kd.V_mono HL292_2.out (fun _ hk=>⟨⟨hk.1,⟨hk.2.2.1,⟨hk.2.2.2.1,hk.2.2.2.2⟩⟩⟩,hk.2.1⟩)) hg hat);have n4_:=Aside0.mk (blk_grown (bB BK293) hg (Kd.N_away HO_5.out (fun _ hk=>hk.2.2.2)));have n5_:=Aside0.mk (below_weaken bH HL.out hb);have n6_:=Aside0.mk (KeepBut.trans kB (KeepBut.of_grown hg g) (Kd.N_base2 HO_5.out));have n7_:=Aside0.mk (ho);clear BK267;clear HI0;clear HL292_1;clear HL292_2;clear BK293;clear HB;clear HK;clear HO_5;have BK267:=n0_;have HI0:=n1_;have HL292_1:=n2_;have HL292_2:=n3_;have BK293:=n4_;have HB:=n5_;have HK:=n6_;have HO299:=n7_;clear n0_ n1_ n2_ n3_ n4_ n5_ n6_ n7_
        clear ho hb hg hat
        refine hK.out _ _ (qA3 BK293) (fun hHeld=>?_)
        clear hK K
        refine nM (N:=some 47) ?_
        refine pV 13 (some 5) (bs 14 16383) HT_ ?_
        refine done_ (done_of HT_.out (by kernel_rfl)) ?_
        try go_wp2
        go_meet
        case rel=>exact ⟨_,(y297),(t295),(t296),H',⟨by have:=HK1.out;have:=HJ17.out;first|omega|exact Nat.le_refl _⟩,⟨by (with_reducible repeat (first|apply Kd.N_alloc|apply Kd.N_drewN|apply Kd.N_drew));exact Kd.N_mono HO299.out (fun _ hk=>⟨hk.1,⟨hk.2.1,hk.2.2.2⟩⟩)⟩,⟨Yk⟩,⟨iIsS60⟩,⟨kB⟩,⟨bH⟩⟩
       ·replace c25:=Bool.eq_false_iff.mpr c25
        subst c25
        replace H:=pF H
        have H':=Aside0.mk H
        clear H
        go_wp2
        go_meet
        case rel=>exact ⟨_,(x5_1),(x1001_17),(x1002_17),H',⟨by have:=HK1.out;have:=HJ17.out;first|omega|exact Nat.le_refl _⟩,⟨rN HO_5⟩,⟨Yk⟩,⟨iIsS60⟩,⟨kB⟩,⟨bH⟩⟩
      case rest =>
       clear HC24
       (try clear c9);(try clear c9b0);(try clear c19);(try clear c19b0);(try clear c19b1);(try clear c25);(try clear c27b0);(try clear c28b0);(try clear hcz13_0);(try clear hcz36_0);(try clear hcz36_1);(try clear hcz36_2);(try clear hfz13_0);(try clear hfz36_0);(try clear hfz36_1);(try clear hfz36_2);(try clear hx292_0);(try clear hx292_1);(try clear hx292_2);(try clear p292);(try clear q292)
       obtain ⟨kq,x5_23,x1001_23,x1002_23,HA,HJ23,HO_5,BK267,HI0,HK,HB⟩:=hcut
       cases kq with
       | zero=>exact absurd HA.out (by simp [spec_l1Cur_clause.j2])
       | succ kj23 =>
        have H:=HA.out
        clear HA
        simp only [spec_l1Cur_clause.j2] at H
        have HC41:=Aside0.mk H
        clear H
        go_upto_region 9 with (fail)
        go_cut [54] (fun v54 wc=>∃ (kq:Nat) (x54_40:Bool) (x1001_40:Int) (x1002_40:Int),v54 = .bool x54_40 ∧ Aside0 (spec_l1Cur_clause.j3 kq x5_23 x54_40 s0_0 x1001_40 x1002_40 l1_0 = some (r1,r2,r3)) ∧ Aside0 (kq ≤ kj23) ∧ Aside0 (Kd.N k83 83 wc w.heap.size (fun k_=>(w.heap.size ≤ k_) ∧ k_ ≠ gb267 ∧ k_ ≠ g) u5 x5_23) ∧ Aside0 (wc.heap[gb267]? = some (.cells #[(.slice A1_0 l1_0.length c1_0)] 26 (0,0))) ∧ Aside0 (IsS60 w0 wc g s0_0 x1001_40 x1002_40) ∧ Aside0 (KeepBut w wc g none) ∧ Aside0 (Below w0.heap.size w0 wc))
        case first =>
         have H:=HC41.out
         clear HC41
         by_cases c42:(x5_23.length:Int) > 0
         ·rw [if_pos c42] at H
          have c42b0:decide (0 < (x5_23.length:Int)) = true:=decide_eq_true c42
          have c42b1:decide (0 < x5_23.length) = true:=decide_eq_true (by omega)
          clear c42
          (first|rw [c42b0]|(simp only [i64_w,i32_w];rw [c42b0])|skip)
          replace H:=bI H;obtain ⟨⟨t300,t301,t302⟩,A43,H⟩:=H
          dsimp only at H
          have H':=Aside0.mk H
          clear H
          obtain ⟨Ao44,co44,eo44⟩:=Kd.N_slice HO_5.out
          subst eo44
          go_wp2_with (first|(go_at_call 75;(with_reducible refine (spec_l1Cur_one.calls g s0_0 x1001_23 x1002_23 12 t300 t301 t302 w0 _ ?side1 ?side2 A43.out).mono ?_);(case side1=>exact iIsS60);(case side2=>exact bH);rintro e w45 ⟨rfl,hi,hb,hk⟩;replace HO_5:=Aside0.mk (Kd.N_mono (Kd.N_keep (Kd.N_mono (ok:=fun k_=>(((w.heap.size ≤ k_)) ∧ (k_ ≠ gb267 ∧ k_ ≠ g))) (rN HO_5) (fun k_ hk_=>(⟨hk_,hk_.2.2⟩:_ ∧ k_ ≠ g))) hk (fun _ h=>h.2)) (fun _ h=>h.1));replace BK267:=kU hk NB267_0 (bB BK267);replace HK:=Aside0.mk (KeepBut.trans kB hk (.inl rfl));replace HB:=Aside0.mk (hb);replace HI0:=Aside0.mk (hi);clear hb hk hi))
          go_meet
          case rel=>exact ⟨_,(t300),(t301),(t302),Yd,H',⟨by have:=HK1.out;have:=HJ17.out;have:=HJ23.out;first|omega|exact Nat.le_refl _⟩,⟨rN HO_5⟩,⟨Yk⟩,⟨iIsS60⟩,⟨kB⟩,⟨bH⟩⟩
         ·rw [if_neg c42] at H
          have c42b0:decide (0 < (x5_23.length:Int)) = false:=decide_eq_false c42
          have c42b1:decide (0 < x5_23.length) = false:=decide_eq_false (by omega)
          clear c42
          (first|rw [c42b0]|(simp only [i64_w,i32_w];rw [c42b0])|skip)
          have H':=Aside0.mk H
          clear H
          obtain ⟨Ao46,co46,eo46⟩:=Kd.N_slice HO_5.out
          subst eo46
          go_wp2
          go_meet
          case rel=>exact ⟨_,(false),(x1001_23),(x1002_23),Yd,H',⟨by have:=HK1.out;have:=HJ17.out;have:=HJ23.out;first|omega|exact Nat.le_refl _⟩,⟨rN HO_5⟩,⟨Yk⟩,⟨iIsS60⟩,⟨kB⟩,⟨bH⟩⟩
        case rest =>
         clear HC41
         (try clear c9);(try clear c9b0);(try clear c19);(try clear c19b0);(try clear c19b1);(try clear c25);(try clear c27b0);(try clear c28b0);(try clear c42);(try clear c42b0);(try clear c42b1);(try clear hcz13_0);(try clear hcz36_0);(try clear hcz36_1);(try clear hcz36_2);(try clear hfz13_0);(try clear hfz36_0);(try clear hfz36_1);(try clear hfz36_2);(try clear hx292_0);(try clear hx292_1);(try clear hx292_2);(try clear p292);(try clear q292)
         obtain ⟨kq,x54_40,x1001_40,x1002_40,rfl,HA,HJ40,HO_5,BK267,HI0,HK,HB⟩:=hcut
         cases kq with
         | zero=>exact absurd HA.out (by simp [spec_l1Cur_clause.j3])
         | succ kj40 =>
          have H:=HA.out
          clear HA
          simp only [spec_l1Cur_clause.j3] at H
          have HC47:=Aside0.mk H
          clear H
          go_upto_if 54 with (fail)
          go_cut [] (fun wc=>∃ (kq:Nat) (x5_46:List (S83)),Aside0 (spec_l1Cur_clause.j4 kq x5_46 s0_0 x1001_40 x1002_40 l1_0 = some (r1,r2,r3)) ∧ Aside0 (kq ≤ kj40) ∧ Aside0 (Kd.N k83 83 wc w.heap.size (fun k_=>(w.heap.size ≤ k_) ∧ k_ ≠ gb267 ∧ k_ ≠ g) u5 x5_46) ∧ Aside0 (wc.heap[gb267]? = some (.cells #[(.slice A1_0 l1_0.length c1_0)] 26 (0,0))) ∧ Aside0 (IsS60 w0 wc g s0_0 x1001_40 x1002_40) ∧ Aside0 (KeepBut w wc g none) ∧ Aside0 (Below w0.heap.size w0 wc))
          case first =>
           have H:=HC47.out
           clear HC47
           by_cases c48:x54_40 = true
           ·subst c48
            replace H:=pT H
            replace H:=gJ H;obtain ⟨c49,H⟩:=H
            have c49b0:=decide_eq_true c49
            have c49b1:decide (0 < x5_23.length) = true:=decide_eq_true (by omega)
            clear c49
            (first|rw [c49b0]|(simp only [i64_w,i32_w];rw [c49b0])|skip)
            obtain ⟨y304,hy304⟩:∃ y_:List (S83),y_ = (x5_23.set (0:Int).toNat (⟨(rd_T83 x5_23 0).f0,(rd_T83 x5_23 0).f1,(rd_T83 x5_23 0).f1⟩:S83)):=⟨_,rfl⟩
            replace H:(spec_l1Cur_clause.j4 kj40 y304 s0_0 x1001_40 x1002_40 l1_0) = some (r1,r2,r3):=by first|(rw [hy304];with_reducible exact H)|(have H2_:=(Option.bind_some _ _).symm.trans H;rw [hy304];with_reducible exact H2_)|(have H2_:=(Option.bind_some _ _).symm.trans H;with_reducible exact H2_)|with_reducible exact H|(rw [hy304];exact H)|exact H
            have Ny304:=Aside0.mk hy304
            clear hy304
            have H':=Aside0.mk H
            clear H
            obtain ⟨Ao51,co51,eo51⟩:=Kd.N_slice HO_5.out
            subst eo51
            have p303:0 ≤ (0:Int):=(by omega)
            have q303:0 < (x5_23.length:Int):=oD
            obtain ⟨ad303,A303_1,c303_1,A303_2,c303_2,e303,hx303_0,hx303_1,hx303_2,hl303_1,hi303_1,hl303_2,hi303_2⟩:=at_T83 (Kd.N_reads' HO_5.out).2.2 0 p303 q303
            cases e303
            obtain ⟨ce303,hce303,hMe303,hcc303⟩:=Kd.N_get HO_5.out z83 0 p303 (by first|exact q303|exact oD|(have e_:=(Kd.N_reads' HO_5.out).1;omega))
            obtain ⟨ua303_1,uc303_1,ua303_2,uc303_2,rfl,ul303_1,ge303_1,ul303_2,ge303_2⟩:=k83_openF hMe303
            have hv303_1:=hcc303 1 _ rfl
            rw [add_field _ _ 1 (by omega)] at hv303_1
            replace hv303_1:=Option.some.inj (hv303_1.symm.trans hx303_1)
            injection hv303_1 with hva_ hvn_ hvc_
            rw [hva_] at ge303_1
            rw [hvc_] at ul303_1
            have HL303_1:=Aside0.mk (show Kd.V (Kd.int .i64) 3 _ w.heap.size _ _ ((rd_T83 x5_23 0).f1) from Kd.V_mk ul303_1 ge303_1)
            clear hva_ hvn_ hvc_ ge303_1 ul303_1
            have hv303_2:=hcc303 2 _ rfl
            rw [add_field _ _ 2 (by omega)] at hv303_2
            replace hv303_2:=Option.some.inj (hv303_2.symm.trans hx303_2)
            injection hv303_2 with hva_ hvn_ hvc_
            rw [hva_] at ge303_2
            rw [hvc_] at ul303_2
            have HL303_2:=Aside0.mk (show Kd.V (Kd.int .i64) 3 _ w.heap.size _ _ ((rd_T83 x5_23 0).f2) from Kd.V_mk ul303_2 ge303_2)
            clear hva_ hvn_ hvc_ ge303_2 ul303_2
            clear hcc303 hce303
            have qi303:(0 < x5_23.length) = True:=eq_true (by omega)
            (try rw [show ((0:Int)).toNat = 0 from rfl] at hx303_0)
            (try rw [show 0 * 3 = 0 from rfl] at hx303_0)
            (try rw [Addr.add_zero'] at hx303_0)
            (try rw [show ((0:Int)).toNat = 0 from rfl] at hx303_1)
            (try rw [show 0 * 3 = 0 from rfl] at hx303_1)
            (try rw [Addr.add_zero'] at hx303_1)
            (try rw [show ((0:Int)).toNat = 0 from rfl] at hx303_2)
            (try rw [show 0 * 3 = 0 from rfl] at hx303_2)
            (try rw [Addr.add_zero'] at hx303_2)
            have HR303_1:=Aside0.mk hi303_1
            have HC303_1:=Aside0.mk hl303_1
            clear hi303_1 hl303_1
            have HR303_2:=Aside0.mk hi303_2
            have HC303_2:=Aside0.mk hl303_2
            clear hi303_2 hl303_2
            replace p303:=eq_true p303
            replace q303:=eq_true q303
            have p50:0 ≤ (0:Int):=(by omega)
            have q50:(0:Int) < ((x5_23.length:Int):Int):=oD
            have qi50:(0 < x5_23.length) = True:=eq_true (by omega)
            obtain ⟨go50,co50,eo50,gb50,gl50,cl50,HG50⟩:=Kd.N_form HO_5.out (by omega)
            (first|cases eo50|(injection eo50 with ea_ en_ ec_;(first|subst ea_|(injection ea_ with ea_;subst ea_));subst ec_;clear en_))
            have GB50:=Aside0.mk gb50
            have GG50:=Aside0.mk HG50
            clear gb50 gl50 HG50
            (first|simp only [add_plain] at hx303_0|skip)
            (first|simp only [add_plain] at hx303_1|skip)
            (first|simp only [add_plain] at hx303_2|skip)
            obtain ⟨ce50,hcl50,hM50,hcc50,hfr50⟩:=Kd.N_elem HO_5.out z83 (0:Int) p50 q50
            obtain ⟨ua50_1,uc50_1,ua50_2,uc50_2,rfl,ul50_1,ge50_1,ul50_2,ge50_2⟩:=k83_openF hM50
            have hx50_0:wc.cell? ⟨go50,(0:Int).toNat * 3,none⟩ = some (.bool ((rd_T83 x5_23 0).f0)):=hcc50 0 _ rfl
            have hx50_1:wc.cell? ⟨go50,(0:Int).toNat * 3 + 1,none⟩ = some (.slice ua50_1 ((rd_T83 x5_23 0).f1).length uc50_1):=hcc50 1 _ rfl
            have hx50_2:wc.cell? ⟨go50,(0:Int).toNat * 3 + 2,none⟩ = some (.slice ua50_2 ((rd_T83 x5_23 0).f2).length uc50_2):=hcc50 2 _ rfl
            have hf50_0:wc.frozen? ⟨go50,(0:Int).toNat * 3,none⟩ = false:=hfr50 0
            have hf50_1:wc.frozen? ⟨go50,(0:Int).toNat * 3 + 1,none⟩ = false:=hfr50 1
            have hf50_2:wc.frozen? ⟨go50,(0:Int).toNat * 3 + 2,none⟩ = false:=hfr50 2
            clear hcl50 hcc50 hfr50;(try clear hM50)
            (try rw [show ((0:Int)).toNat = 0 from rfl] at hx50_0)
            (try simp only [Nat.reduceMul,Nat.zero_mul,Nat.zero_add,Nat.reduceAdd] at hx50_0)
            (try rw [show ((0:Int)).toNat = 0 from rfl] at hf50_0)
            (try simp only [Nat.reduceMul,Nat.zero_mul,Nat.zero_add,Nat.reduceAdd] at hf50_0)
            (try rw [show ((0:Int)).toNat = 0 from rfl] at hx50_1)
            (try simp only [Nat.reduceMul,Nat.zero_mul,Nat.zero_add,Nat.reduceAdd] at hx50_1)
            (try rw [show ((0:Int)).toNat = 0 from rfl] at hf50_1)
            (try simp only [Nat.reduceMul,Nat.zero_mul,Nat.zero_add,Nat.reduceAdd] at hf50_1)
            (try rw [show ((0:Int)).toNat = 0 from rfl] at hx50_2)
            (try simp only [Nat.reduceMul,Nat.zero_mul,Nat.zero_add,Nat.reduceAdd] at hx50_2)
            (try rw [show ((0:Int)).toNat = 0 from rfl] at hf50_2)
            (try simp only [Nat.reduceMul,Nat.zero_mul,Nat.zero_add,Nat.reduceAdd] at hf50_2)
            replace p50:=eq_true p50
            replace q50:=eq_true q50
            have HX52:=Aside0.mk (show Kd.N k83 83 wc w.heap.size (fun k_=>(w.heap.size ≤ k_) ∧ k_ ≠ gb267 ∧ k_ ≠ g) (.slice (some ⟨go50,0,none⟩) x5_23.length co51) x5_23 from (rN HO_5))
            obtain ⟨ce52,hcl52,hM52,hcc52,hfr52⟩:=Kd.N_elem HX52.out z83 (0:Int) (by omega) (by have h_:(0:Int) < ((x5_23.length:Int):Int):=oD;first|exact h_|(have e_:=(Kd.N_reads' HO_5.out).1;omega)|simpa using h_)
            obtain ⟨ua52_1,uc52_1,ua52_2,uc52_2,rfl,ul52_1,ge52_1,ul52_2,ge52_2⟩:=k83_openF hM52
            have HP52:=Kd.N_seg HX52.out (0:Int) (by omega) (by have h_:(0:Int) < ((x5_23.length:Int):Int):=oD;first|exact h_|(have e_:=(Kd.N_reads' HO_5.out).1;omega)|simpa using h_) (seg:=[.slice A303_1 ((rd_T83 x5_23 0).f1).length c303_1]) (j:=2) hcl52 hcc52 (show 3 ≤ 3 from by decide) (x':=(⟨(rd_T83 x5_23 0).f0,(rd_T83 x5_23 0).f1,(rd_T83 x5_23 0).f1⟩:S83)) (k83_mkF _ _ (⟨(rd_T83 x5_23 0).f0,(rd_T83 x5_23 0).f1,(rd_T83 x5_23 0).f1⟩:S83) ul52_1 ge52_1 (Kd.V_reads' (Kd.V_mono (ok':=(fun k_=>((fun k_=>(w.heap.size ≤ k_) ∧ k_ ≠ gb267 ∧ k_ ≠ g)) k_ ∧ k_ ≠ go50)) (HL303_1.out) (fun k_ hk=>⟨⟨hk.1.1,⟨hk.1.2.1,hk.1.2.2⟩⟩,fun e_=>(hk.2) (by rw [e_];rfl)⟩))).2.1 (Kd.V_F (Kd.V_mono (ok':=(fun k_=>((fun k_=>(w.heap.size ≤ k_) ∧ k_ ≠ gb267 ∧ k_ ≠ g)) k_ ∧ k_ ≠ go50)) (HL303_1.out) (fun k_ hk=>⟨⟨hk.1.1,⟨hk.1.2.1,hk.1.2.2⟩⟩,fun e_=>(hk.2) (by rw [e_];rfl)⟩)))) (fun _ hk=>hk)
            have hx52_2:=hcc52 2 _ rfl
            (try simp only [show (k83).sz = 3 from rfl,Nat.mul_one,Nat.add_zero] at hx52_2)
            (try rw [show ((0:Int)).toNat = 0 from rfl] at hx52_2)
            (try simp only [Nat.reduceMul,Nat.zero_mul,Nat.zero_add,Nat.reduceAdd] at hx52_2)
            have hf52_2:=hfr52 2
            (try simp only [show (k83).sz = 3 from rfl,Nat.mul_one,Nat.add_zero] at hf52_2)
            (try rw [show ((0:Int)).toNat = 0 from rfl] at hf52_2)
            (try simp only [Nat.reduceMul,Nat.zero_mul,Nat.zero_add,Nat.reduceAdd] at hf52_2)
            clear hcl52 hcc52 hfr52;(try clear hM52)
            go_wp2_with (first|((with_reducible refine gate_store (t:=24) (p:=61) rfl ?_);refine store_event (t:=24) (p:=61) (v:=?vo_w53) (w1:=(wc.setCell ⟨go50,2,none⟩ (.slice A303_1 ((rd_T83 x5_23 0).f1).length c303_1))) ?hg ?ho ?hn ?hr ?_;(case ho=>rfl);(case hg=>rfl);(case hn=>rfl);(case hr=>exact Yc);intro w53 hw;have hg:wc.grownBy w53 (some go50):=(by rw [hw];exact HP52.2);have hp_:Kd.N k83 83 w53 w.heap.size (fun k_=>(w.heap.size ≤ k_) ∧ k_ ≠ gb267 ∧ k_ ≠ g) (.slice (some ⟨go50,0,none⟩) x5_23.length co51) y304:=(by rw [hw,Ny304.out];exact HP52.1);clear HP52;replace BK267:=Aside0.mk (blk_grown (bB BK267) hg (Kd.N_ne HO_5.out BK267.out (by decide)));replace HI0:=Aside0.mk (IsS60.grown iIsS60 hg (IsS60.own_neN HI0.out HO_5.out (by decide)));replace HL303_1:=Aside0.mk (Kd.V_afterv (v:=(.slice (some ⟨go50,0,none⟩) x5_23.length co51)) (v1:=(.slice (some ⟨go50,0,none⟩) x5_23.length co51)) (ok:=(fun k_=>(w.heap.size ≤ k_) ∧ k_ ≠ gb267 ∧ k_ ≠ g)) (rV HL303_1) hg (.inl rfl));replace HL303_2:=Aside0.mk (Kd.V_afterv (v:=(.slice (some ⟨go50,0,none⟩) x5_23.length co51)) (v1:=(.slice (some ⟨go50,0,none⟩) x5_23.length co51)) (ok:=(fun k_=>(w.heap.size ≤ k_) ∧ k_ ≠ gb267 ∧ k_ ≠ g)) (rV HL303_2) hg (.inl rfl));replace HB:=Aside0.mk ((by rw [hw];exact below_set (HB.out) (Nat.le_trans HL.out GB50.out):Below w0.heap.size w0 w53));replace HK:=Aside0.mk (KeepBut.trans kB (KeepBut.of_grown hg g) (Kd.N_base2 HO_5.out));replace HO_5:=Aside0.mk (hp_);clear hg hw hp_))
            go_meet
            case rel=>exact ⟨_,(y304),H',⟨by have:=HK1.out;have:=HJ17.out;have:=HJ23.out;have:=HJ40.out;first|omega|exact Nat.le_refl _⟩,⟨rN HO_5⟩,⟨Yk⟩,⟨iIsS60⟩,⟨kB⟩,⟨bH⟩⟩
           ·replace c48:=Bool.eq_false_iff.mpr c48
            subst c48
            replace H:=pF H
            have H':=Aside0.mk H
            clear H
            go_wp2
            go_meet
            case rel=>exact ⟨_,(x5_23),H',⟨by have:=HK1.out;have:=HJ17.out;have:=HJ23.out;have:=HJ40.out;first|omega|exact Nat.le_refl _⟩,⟨rN HO_5⟩,⟨Yk⟩,⟨iIsS60⟩,⟨kB⟩,⟨bH⟩⟩
          case rest =>
           clear HC47
           (try clear c9);(try clear c9b0);(try clear c19);(try clear c19b0);(try clear c19b1);(try clear c25);(try clear c27b0);(try clear c28b0);(try clear c42);(try clear c42b0);(try clear c42b1);(try clear c48);(try clear c49);(try clear c49b0);(try clear c49b1);(try clear p50);(try clear q50);(try clear qi50);(try clear hcz13_0);(try clear hcz36_0);(try clear hcz36_1);(try clear hcz36_2);(try clear hfz13_0);(try clear hfz36_0);(try clear hfz36_1);(try clear hfz36_2);(try clear hx292_0);(try clear hx292_1);(try clear hx292_2);(try clear hx303_0);(try clear hx303_1);(try clear hx303_2);(try clear hx50_0);(try clear hx50_1);(try clear hx50_2);(try clear hx52_2);(try clear p292);(try clear p303);(try clear p50);(try clear q292);(try clear q303);(try clear q50)
           obtain ⟨kq,x5_46,HA,HJ46,HO_5,BK267,HI0,HK,HB⟩:=hcut
           cases kq with
           | zero=>exact absurd HA.out (by simp [spec_l1Cur_clause.j4])
           | succ kj46 =>
            have H:=HA.out
            clear HA
            simp only [spec_l1Cur_clause.j4] at H
            replace H:=bI H;obtain ⟨⟨t305,t306,t307⟩,A54,H⟩:=H
            dsimp only at H
            by_cases c55:t305 = 0
            ·rw [if_pos c55] at H
             have c55b0:(t305 == 0) = true:=beq_iff_eq.mpr c55
             have c55b1:(t305 != 0) = false:=bne_eq_false_iff_eq.mpr c55
             clear c55
             have H':=Aside0.mk H
             clear H
             go_wp2_with (first|((with_reducible refine gate_callee (f:=73) rfl ?_);refine goesL_ (some 63) rfl rfl Try.func73 (by kernel_rfl) rfl #[.pointer (some ⟨g,0,none⟩),.int .i64 60] rfl Ya ?_;(with_reducible refine (spec_l1Cur_pick.calls g s0_0 x1001_40 x1002_40 60 t305 t306 t307 w0 _ ?side1 ?side2 A54.out).mono ?_);(case side1=>exact iIsS60);(case side2=>exact bH);rintro e w56 ⟨rfl,hi,hb,hk⟩;refine ⟨_,rfl,?_⟩;replace HO_5:=Aside0.mk (Kd.N_mono (Kd.N_keep (Kd.N_mono (ok:=fun k_=>(((w.heap.size ≤ k_)) ∧ (k_ ≠ gb267 ∧ k_ ≠ g))) (rN HO_5) (fun k_ hk_=>(⟨hk_,hk_.2.2⟩:_ ∧ k_ ≠ g))) hk (fun _ h=>h.2)) (fun _ h=>h.1));replace BK267:=kU hk NB267_0 (bB BK267);replace HK:=Aside0.mk (KeepBut.trans kB hk (.inl rfl));replace HB:=Aside0.mk (hb);replace HI0:=Aside0.mk (hi);clear hb hk hi))
             go_loopg [5] kj46 (fun kq v5 w'=>∃ (x5_6:List (S83)) (x1001_6:Int) (x1002_6:Int),Aside0 (spec_l1Cur_clause.l1 kq x5_6 s0_0 x1001_6 x1002_6 l1_0 = some (r1,r2,r3)) ∧ Aside0 (kq ≤ kj46) ∧ Aside0 (Kd.N k83 83 w' w.heap.size (fun k_=>(w.heap.size ≤ k_) ∧ k_ ≠ gb267 ∧ k_ ≠ g) v5 x5_6) ∧ Aside0 (w'.heap[gb267]? = some (.cells #[(.slice A1_0 l1_0.length c1_0)] 26 (0,0))) ∧ Aside0 (IsS60 w0 w' g s0_0 x1001_6 x1002_6) ∧ Aside0 (KeepBut w w' g none) ∧ Aside0 (Below w0.heap.size w0 w'))
             case atStart=>exact ⟨(x5_46),(t306),(t307),H',⟨Nat.le_refl _⟩,⟨rN HO_5⟩,⟨Yk⟩,⟨iIsS60⟩,⟨kB⟩,⟨bH⟩⟩
             case round =>
              clear H'
              (try clear c9);(try clear c9b0);(try clear c19);(try clear c19b0);(try clear c19b1);(try clear c25);(try clear c27b0);(try clear c28b0);(try clear c42);(try clear c42b0);(try clear c42b1);(try clear c48);(try clear c49);(try clear c49b0);(try clear c49b1);(try clear p50);(try clear q50);(try clear qi50);(try clear c55);(try clear c55b0);(try clear c55b1);(try clear hcz13_0);(try clear hcz36_0);(try clear hcz36_1);(try clear hcz36_2);(try clear hfz13_0);(try clear hfz36_0);(try clear hfz36_1);(try clear hfz36_2);(try clear hx292_0);(try clear hx292_1);(try clear hx292_2);(try clear hx303_0);(try clear hx303_1);(try clear hx303_2);(try clear hx50_0);(try clear hx50_1);(try clear hx50_2);(try clear hx52_2);(try clear p292);(try clear p303);(try clear p50);(try clear q292);(try clear q303);(try clear q50)
              obtain ⟨x5_6,x1001_6,x1002_6,HA,HK6,HO_5,BK267,HI0,HK,HB⟩:=hrel
              cases gk with
              | zero=>exact absurd HA.out (by simp [spec_l1Cur_clause.l1])
              | succ k6 =>
               have H:=HA.out
               clear HA
               simp only [spec_l1Cur_clause.l1] at H
               replace H:=bI H;obtain ⟨⟨t308,t309,t310⟩,A57,H⟩:=H
               dsimp only at H
               by_cases c58:(x5_6.length:Int) < (wrap64 (8 + t308))
               ·rw [if_pos c58] at H
                have c58b0:=decide_eq_true c58
                clear c58
                replace H:=bI H;obtain ⟨⟨t311,t312,t315,t318,t319⟩,A59,H⟩:=H
                dsimp only at H
                replace H:=gK H;obtain ⟨LMc60,H⟩:=H
                obtain ⟨y320,hy320⟩:∃ y_:List (S83),y_ = (x5_6 ++ [(⟨t311,t312,t315⟩:S83)]):=⟨_,rfl⟩
                replace H:(spec_l1Cur_clause.l1 k6 y320 s0_0 t318 t319 l1_0) = some (r1,r2,r3):=by first|(rw [hy320];with_reducible exact H)|(have H2_:=(Option.bind_some _ _).symm.trans H;rw [hy320];with_reducible exact H2_)|(have H2_:=(Option.bind_some _ _).symm.trans H;with_reducible exact H2_)|with_reducible exact H|(rw [hy320];exact H)|exact H
                have Ny320:=Aside0.mk hy320
                clear hy320
                have H':=Aside0.mk H
                clear H
                obtain ⟨Ao61,co61,eo61⟩:=Kd.N_slice HO_5.out
                subst eo61
                go_wp2_with (first|((with_reducible refine gate_callee (f:=73) rfl ?_);refine goesL_ (some 69) rfl rfl Try.func73 (by kernel_rfl) rfl #[.pointer (some ⟨g,0,none⟩),.int .i64 2] rfl Ya ?_;(with_reducible refine (spec_l1Cur_pick.calls g s0_0 x1001_6 x1002_6 2 t308 t309 t310 w0 _ ?side1 ?side2 A57.out).mono ?_);(case side1=>exact iIsS60);(case side2=>exact bH);rintro e w62 ⟨rfl,hi,hb,hk⟩;refine ⟨_,rfl,?_⟩;replace HO_5:=Aside0.mk (Kd.N_mono (Kd.N_keep (Kd.N_mono (ok:=fun k_=>(((w.heap.size ≤ k_)) ∧ (k_ ≠ gb267 ∧ k_ ≠ g))) (rN HO_5) (fun k_ hk_=>(⟨hk_,hk_.2.2⟩:_ ∧ k_ ≠ g))) hk (fun _ h=>h.2)) (fun _ h=>h.1));replace BK267:=kU hk NB267_0 (bB BK267);replace HK:=Aside0.mk (KeepBut.trans kB hk (.inl rfl));replace HB:=Aside0.mk (hb);replace HI0:=Aside0.mk (hi);(try clear hb);(try clear hb2);(try clear hk);(try clear hi);have hnb63:=NB267_0.out;have hnc63:=NB0_267.out;have hcz64_0:=qc1_0 BK267;have hfz64_0:=fz BK267 0)|((with_reducible refine gate_callee (f:=87) rfl ?_);refine goesL_ (some 75) rfl rfl Try.func87 (by kernel_rfl) rfl #[.pointer (some ⟨g,0,none⟩),.agg #[.slice A1_0 l1_0.length c1_0]] rfl Ya ?_;(with_reducible refine (spec_l1Cur_lit.calls k6 g s0_0 t309 t310 _ _ l1_0 t311 t312 t315 t318 t319 w0 _ ?side1 ?side2 ?side3 ?side4 ?side5 A59.out).mono ?_);(case side1=>exact iIsS60);(case side2=>exact bH);(case side3=>exact Za);(case side4=>exact HC1_0.out);(case side5=>exact hf1_0);rintro e w65 ⟨v313,v316,rfl,ho0,ho1,hi,hb,hk⟩;refine ⟨_,rfl,?_⟩;replace HO_5:=Aside0.mk (Kd.N_mono (Kd.N_told (Kd.N_told (Kd.N_oldK (Kd.N_mono (ok:=fun k_=>(((w.heap.size ≤ k_)) ∧ (k_ ≠ gb267 ∧ k_ ≠ g))) (rN HO_5) (fun k_ hk_=>(⟨hk_,hk_.2.2⟩:_ ∧ k_ ≠ g))) hk) (Kd.R_base ho0)) (Kd.R_base ho1)) (fun _ h_=>h_.1));replace BK267:=kU hk NB267_0 (bB BK267);have HO314:=Aside0.mk (Kd.R_lower (Kd.R_newM (M:=fun k_=>(w.heap.size ≤ k_)) ho0 (keep_size (w:=w) (g:=g) (row:=none) kB) (fun k_ h_=>h_)) (keep_size (w:=w) (g:=g) (row:=none) kB));have HO317:=Aside0.mk (Kd.R_lower (Kd.R_newM (M:=fun k_=>(w.heap.size ≤ k_)) ho1 (keep_size (w:=w) (g:=g) (row:=none) kB) (fun k_ h_=>h_)) (keep_size (w:=w) (g:=g) (row:=none) kB));replace HK:=Aside0.mk (KeepBut.trans kB hk (.inl rfl));replace HB:=Aside0.mk (hb);replace HI0:=Aside0.mk (hi);(try clear hb);(try clear hb2);(try clear hk);(try clear hi);(try clear ho0);(try clear ho1);obtain ⟨Ao67,co67,eo67⟩:=Kd.R_slice HO314.out;subst eo67;obtain ⟨Ao68,co68,eo68⟩:=Kd.R_slice HO317.out;subst eo68)|((with_reducible refine gate_builtin (b:=.append) (xs:=#[.tmp 72,.tmp 76]) rfl ?_);at_builtin;refine Kd.N_append k83 w.heap.size rfl (.tmp 72) (.tmp 76) 40 83 (.agg #[(.bool false),(.slice none 0 0),(.slice none 0 0)]) 56 rfl Try.underlying40 info83 rfl (by decide) YP (.slice Ao61 x5_6.length co61) x5_6 (⟨t311,t312,t315⟩:S83) [.bool t311,.slice Ao67 t312.length co67,.slice Ao68 t315.length co68] (fun k_=>(w.heap.size ≤ k_) ∧ k_ ≠ gb267 ∧ k_ ≠ g) (fun k_=>((fun k_=>(w.heap.size ≤ k_) ∧ k_ ≠ gb267 ∧ k_ ≠ g)) k_ ∧ some k_ ≠ (.slice Ao61 x5_6.length co61:Value).ownBlock) rfl rfl ?aP (fun _ hk=>hk) ?aF ?aO (Below.refl _ _) ?aS ?aL ?_;(case aP=>exact (k83_mkF _ _ (⟨t311,t312,t315⟩:S83) (Kd.R_reads' (Kd.R_mono (ok':=(fun k_=>((fun k_=>(w.heap.size ≤ k_) ∧ k_ ≠ gb267 ∧ k_ ≠ g)) k_ ∧ some k_ ≠ (.slice Ao61 x5_6.length co61:Value).ownBlock)) (IsS60.apart HI0.out (Kd.R_types (Kd.R_apart' (HO314.out) (Kd.N_typed HO_5.out) (by decide)) BK267.out (by decide)) (by decide)) (fun k_ hk=>⟨⟨hk.1.1.1.1,⟨hk.1.2,hk.2⟩⟩,hk.1.1.2⟩))).2.1 (Kd.R_F (Kd.R_mono (ok':=(fun k_=>((fun k_=>(w.heap.size ≤ k_) ∧ k_ ≠ gb267 ∧ k_ ≠ g)) k_ ∧ some k_ ≠ (.slice Ao61 x5_6.length co61:Value).ownBlock)) (IsS60.apart HI0.out (Kd.R_types (Kd.R_apart' (HO314.out) (Kd.N_typed HO_5.out) (by decide)) BK267.out (by decide)) (by decide)) (fun k_ hk=>⟨⟨hk.1.1.1.1,⟨hk.1.2,hk.2⟩⟩,hk.1.1.2⟩))) (Kd.R_reads' (Kd.R_mono (ok':=(fun k_=>((fun k_=>(w.heap.size ≤ k_) ∧ k_ ≠ gb267 ∧ k_ ≠ g)) k_ ∧ some k_ ≠ (.slice Ao61 x5_6.length co61:Value).ownBlock)) (IsS60.apart HI0.out (Kd.R_types (Kd.R_apart' (HO317.out) (Kd.N_typed HO_5.out) (by decide)) BK267.out (by decide)) (by decide)) (fun k_ hk=>⟨⟨hk.1.1.1.1,⟨hk.1.2,hk.2⟩⟩,hk.1.1.2⟩))).2.1 (Kd.R_F (Kd.R_mono (ok':=(fun k_=>((fun k_=>(w.heap.size ≤ k_) ∧ k_ ≠ gb267 ∧ k_ ≠ g)) k_ ∧ some k_ ≠ (.slice Ao61 x5_6.length co61:Value).ownBlock)) (IsS60.apart HI0.out (Kd.R_types (Kd.R_apart' (HO317.out) (Kd.N_typed HO_5.out) (by decide)) BK267.out (by decide)) (by decide)) (fun k_ hk=>⟨⟨hk.1.1.1.1,⟨hk.1.2,hk.2⟩⟩,hk.1.1.2⟩)))));(case aF=>exact YQ);(case aO=>exact Zd);(case aS=>exact Ze);(case aL=>have:=LMc60.out;omega);intro v321 w66 ho hb hg hat;rw [← Ny320.out] at ho;have n0_:=Aside0.mk (blk_grown (bB BK267) hg (Kd.N_ne HO_5.out BK267.out (by decide)));have n1_:=Aside0.mk (IsS60.grown iIsS60 hg (IsS60.own_neN HI0.out HO_5.out (by decide)));have n2_:=Aside0.mk (below_weaken bH HL.out hb);have n3_:=Aside0.mk (KeepBut.trans kB (KeepBut.of_grown hg g) (Kd.N_base2 HO_5.out));have n4_:=Aside0.mk (ho);clear BK267;clear HI0;clear HB;clear HK;clear HO_5;clear HO314;clear HO317;have BK267:=n0_;have HI0:=n1_;have HB:=n2_;have HK:=n3_;have HO322:=n4_;clear n0_ n1_ n2_ n3_ n4_;clear ho hb hg hat))
                go_roundg k6
                case measure=>have:=HK1.out;have:=HJ17.out;have:=HJ23.out;have:=HJ40.out;have:=HJ46.out;have:=HK6.out;omega
                case rel=>exact ⟨(y320),(t318),(t319),H',⟨by have:=HK1.out;have:=HJ17.out;have:=HJ23.out;have:=HJ40.out;have:=HJ46.out;have:=HK6.out;omega⟩,⟨rN HO322⟩,⟨Yk⟩,⟨iIsS60⟩,⟨kB⟩,⟨bH⟩⟩
               ·rw [if_neg c58] at H
                have c58b0:decide ((x5_6.length:Int) < (wrap64 (8 + t308))) = false:=decide_eq_false c58
                clear c58
                simp only [Option.some.injEq,Prod.mk.injEq] at H
                obtain ⟨rfl,rfl,rfl⟩:=H
                obtain ⟨Ao69,co69,eo69⟩:=Kd.N_slice HO_5.out
                subst eo69
                go_wp2_with (first|((with_reducible refine gate_callee (f:=73) rfl ?_);refine goesL_ (some 69) rfl rfl Try.func73 (by kernel_rfl) rfl #[.pointer (some ⟨g,0,none⟩),.int .i64 2] rfl Ya ?_;(with_reducible refine (spec_l1Cur_pick.calls g s0_0 x1001_6 x1002_6 2 t308 t309 t310 w0 _ ?side1 ?side2 A57.out).mono ?_);(case side1=>exact iIsS60);(case side2=>exact bH);rintro e w70 ⟨rfl,hi,hb,hk⟩;refine ⟨_,rfl,?_⟩;replace HO_5:=Aside0.mk (Kd.N_mono (Kd.N_keep (Kd.N_mono (ok:=fun k_=>(((w.heap.size ≤ k_)) ∧ (k_ ≠ gb267 ∧ k_ ≠ g))) (rN HO_5) (fun k_ hk_=>(⟨hk_,hk_.2.2⟩:_ ∧ k_ ≠ g))) hk (fun _ h=>h.2)) (fun _ h=>h.1));replace BK267:=kU hk NB267_0 (bB BK267);replace HK:=Aside0.mk (KeepBut.trans kB hk (.inl rfl));replace HB:=Aside0.mk (hb);replace HI0:=Aside0.mk (hi);clear hb hk hi))
                go_ret
                exact ⟨_,Yb,by (with_reducible repeat (first|apply Kd.N_alloc|apply Kd.N_drewN|apply Kd.N_drew));exact Kd.N_mono HO_5.out (fun _ hk=>hk.1),iIsS60,bH,kB⟩
            ·rw [if_neg c55] at H
             have c55b0:(t305 == 0) = false:=beq_eq_false_iff_ne.mpr c55
             have c55b1:(t305 != 0) = true:=bne_iff_ne.mpr c55
             by_cases c71:t305 = 1
             ·rw [if_pos c71] at H
              have c71b0:(t305 == 1) = true:=beq_iff_eq.mpr c71
              have c71b1:(t305 != 1) = false:=bne_eq_false_iff_eq.mpr c71
              clear c71
              obtain ⟨y323,hy323⟩:∃ y_:List Int,y_ = (([0]:List Int)):=⟨_,rfl⟩
              replace H:(if x5_46.length < 2513169434916 then (some ((x5_46 ++ [(⟨false,y323,([]:List Int)⟩:S83)]),t306,t307)) else (none)) = some (r1,r2,r3):=by first|(rw [hy323];with_reducible exact H)|(have H2_:=(Option.bind_some _ _).symm.trans H;rw [hy323];with_reducible exact H2_)|(have H2_:=(Option.bind_some _ _).symm.trans H;with_reducible exact H2_)|with_reducible exact H|(rw [hy323];exact H)|exact H
              have Ny323:=Aside0.mk hy323
              clear hy323
              replace H:=gK H;obtain ⟨LMc72,H⟩:=H
              obtain ⟨y326,hy326⟩:∃ y_:List (S83),y_ = (x5_46 ++ [(⟨false,y323,([]:List Int)⟩:S83)]):=⟨_,rfl⟩
              replace H:(some (y326,t306,t307)) = some (r1,r2,r3):=by first|(rw [hy326];with_reducible exact H)|(have H2_:=(Option.bind_some _ _).symm.trans H;rw [hy326];with_reducible exact H2_)|(have H2_:=(Option.bind_some _ _).symm.trans H;with_reducible exact H2_)|with_reducible exact H|(rw [hy326];exact H)|exact H
              have Ny326:=Aside0.mk hy326
              clear hy326
              simp only [Option.some.injEq,Prod.mk.injEq] at H
              obtain ⟨rfl,rfl,rfl⟩:=H
              go_wp2_with (first|((with_reducible refine gate_callee (f:=73) rfl ?_);refine goesL_ (some 63) rfl rfl Try.func73 (by kernel_rfl) rfl #[.pointer (some ⟨g,0,none⟩),.int .i64 60] rfl Ya ?_;(with_reducible refine (spec_l1Cur_pick.calls g s0_0 x1001_40 x1002_40 60 t305 t306 t307 w0 _ ?side1 ?side2 A54.out).mono ?_);(case side1=>exact iIsS60);(case side2=>exact bH);rintro e w73 ⟨rfl,hi,hb,hk⟩;refine ⟨_,rfl,?_⟩;replace HO_5:=Aside0.mk (Kd.N_mono (Kd.N_keep (Kd.N_mono (ok:=fun k_=>(((w.heap.size ≤ k_)) ∧ (k_ ≠ gb267 ∧ k_ ≠ g))) (rN HO_5) (fun k_ hk_=>(⟨hk_,hk_.2.2⟩:_ ∧ k_ ≠ g))) hk (fun _ h=>h.2)) (fun _ h=>h.1));replace BK267:=kU hk NB267_0 (bB BK267);replace HK:=Aside0.mk (KeepBut.trans kB hk (.inl rfl));replace HB:=Aside0.mk (hb);replace HI0:=Aside0.mk (hi);clear hb hk hi)|((with_reducible refine gate_dst (N:=81) rfl ?_);refine Kd.R_lit (Kd.int .i64) _ 3 ?hg (N:=81) ?hd (xs:=([0]:List Int)) (inner:=[.int .i64 0]) (ok:=fun _=>True) (okp:=fun _=>True) ?hr ?hp (fun _ hk=>hk) trivial (Below.refl _ _) (Nat.le_refl _) (by simp) ?_;(case hd=>rfl);(case hg=>rfl);(case hr=>exact Yc);(case hp=>exact YS);intro v324 w74 ho75 hb hg_ hnew_;clear hg_ hnew_;(first|rw [← Ny323.out] at ho75|(simp only [Int.reduceToNat] at ho75;rw [← Ny323.out] at ho75));replace HO_5:=Aside0.mk (Kd.N_elder' (rN HO_5) (Kd.R_base ho75) hb);have HO325:=Aside0.mk (Kd.R_lower (Kd.R_newM (M:=fun k_=>(w.heap.size ≤ k_)) ho75 (keep_size (w:=w) (g:=g) (row:=none) kB) (fun k_ h_=>h_)) (keep_size (w:=w) (g:=g) (row:=none) kB));replace BK267:=bb BK267 hb;replace HK:=kT w g hb;replace HB:=bS hb;replace HI0:=iB60 hb;clear hb ho75;obtain ⟨Ao76,co76,eo76⟩:=Kd.R_slice HO325.out;subst eo76)|((with_reducible refine gate_builtin (b:=.append) (xs:=#[.tmp 80,.tmp 83]) rfl ?_);at_builtin;refine Kd.N_append k83 w.heap.size rfl (.tmp 80) (.tmp 83) 40 83 (.agg #[(.bool false),(.slice none 0 0),(.slice none 0 0)]) 56 rfl Try.underlying40 info83 rfl (by decide) YP u5 x5_46 (⟨false,y323,([]:List Int)⟩:S83) [.bool false,.slice Ao76 y323.length co76,.slice none 0 0] (fun k_=>(w.heap.size ≤ k_) ∧ k_ ≠ gb267 ∧ k_ ≠ g) (fun k_=>((fun k_=>(w.heap.size ≤ k_) ∧ k_ ≠ gb267 ∧ k_ ≠ g)) k_ ∧ some k_ ≠ (u5:Value).ownBlock) rfl rfl ?aP (fun _ hk=>hk) ?aF ?aO (Below.refl _ _) ?aS ?aL ?_;(case aP=>exact (k83_mkF _ _ (⟨false,y323,([]:List Int)⟩:S83) (Kd.R_reads' (Kd.R_mono (ok':=(fun k_=>((fun k_=>(w.heap.size ≤ k_) ∧ k_ ≠ gb267 ∧ k_ ≠ g)) k_ ∧ some k_ ≠ (u5:Value).ownBlock)) (IsS60.apart HI0.out (Kd.R_types (Kd.R_apart' (HO325.out) (Kd.N_typed HO_5.out) (by decide)) BK267.out (by decide)) (by decide)) (fun k_ hk=>⟨⟨hk.1.1.1.1,⟨hk.1.2,hk.2⟩⟩,hk.1.1.2⟩))).2.1 (Kd.R_F (Kd.R_mono (ok':=(fun k_=>((fun k_=>(w.heap.size ≤ k_) ∧ k_ ≠ gb267 ∧ k_ ≠ g)) k_ ∧ some k_ ≠ (u5:Value).ownBlock)) (IsS60.apart HI0.out (Kd.R_types (Kd.R_apart' (HO325.out) (Kd.N_typed HO_5.out) (by decide)) BK267.out (by decide)) (by decide)) (fun k_ hk=>⟨⟨hk.1.1.1.1,⟨hk.1.2,hk.2⟩⟩,hk.1.1.2⟩))) (Nat.le_refl _) (Kd.F_nil _ _ _)));(case aF=>exact YQ);(case aO=>exact (by (with_reducible repeat (first|apply Kd.N_alloc|apply Kd.N_drewN|apply Kd.N_drew));exact Kd.N_mono HO_5.out (fun _ hk=>⟨hk.1.1,⟨hk.1.2.1,hk.1.2.2⟩⟩)));(case aS=>exact Ze);(case aL=>have:=LMc72.out;omega);intro v327 w77 ho hb hg hat;rw [← Ny326.out] at ho;have n0_:=Aside0.mk (blk_grown (bB BK267) hg (Kd.N_ne HO_5.out BK267.out (by decide)));have n1_:=Aside0.mk (IsS60.grown iIsS60 hg (IsS60.own_neN HI0.out HO_5.out (by decide)));have n2_:=Aside0.mk (below_weaken bH HL.out hb);have n3_:=Aside0.mk (KeepBut.trans kB (KeepBut.of_grown hg g) (Kd.N_base2 HO_5.out));have n4_:=Aside0.mk (ho);clear BK267;clear HI0;clear HB;clear HK;clear HO_5;clear HO325;have BK267:=n0_;have HI0:=n1_;have HB:=n2_;have HK:=n3_;have HO328:=n4_;clear n0_ n1_ n2_ n3_ n4_;clear ho hb hg hat))
              go_ret
              exact ⟨_,Yb,by (with_reducible repeat (first|apply Kd.N_alloc|apply Kd.N_drewN|apply Kd.N_drew));exact Kd.N_mono HO328.out (fun _ hk=>hk.1),iIsS60,bH,kB⟩
             ·rw [if_neg c71] at H
              have c71b0:(t305 == 1) = false:=beq_eq_false_iff_ne.mpr c71
              have c71b1:(t305 != 1) = true:=bne_iff_ne.mpr c71
              simp only [Option.some.injEq,Prod.mk.injEq] at H
              obtain ⟨rfl,rfl,rfl⟩:=H
              go_wp2_with (first|((with_reducible refine gate_callee (f:=73) rfl ?_);refine goesL_ (some 63) rfl rfl Try.func73 (by kernel_rfl) rfl #[.pointer (some ⟨g,0,none⟩),.int .i64 60] rfl Ya ?_;(with_reducible refine (spec_l1Cur_pick.calls g s0_0 x1001_40 x1002_40 60 t305 t306 t307 w0 _ ?side1 ?side2 A54.out).mono ?_);(case side1=>exact iIsS60);(case side2=>exact bH);rintro e w78 ⟨rfl,hi,hb,hk⟩;refine ⟨_,rfl,?_⟩;replace HO_5:=Aside0.mk (Kd.N_mono (Kd.N_keep (Kd.N_mono (ok:=fun k_=>(((w.heap.size ≤ k_)) ∧ (k_ ≠ gb267 ∧ k_ ≠ g))) (rN HO_5) (fun k_ hk_=>(⟨hk_,hk_.2.2⟩:_ ∧ k_ ≠ g))) hk (fun _ h=>h.2)) (fun _ h=>h.1));replace BK267:=kU hk NB267_0 (bB BK267);replace HK:=Aside0.mk (KeepBut.trans kB hk (.inl rfl));replace HB:=Aside0.mk (hb);replace HI0:=Aside0.mk (hi);clear hb hk hi))
              go_ret
              exact ⟨_,Yb,by (with_reducible repeat (first|apply Kd.N_alloc|apply Kd.N_drewN|apply Kd.N_drew));exact Kd.N_mono HO_5.out (fun _ hk=>hk.1),iIsS60,bH,kB⟩

end Go.Proofs.Ytmgkflkfoccgkaa.QFnTidied
