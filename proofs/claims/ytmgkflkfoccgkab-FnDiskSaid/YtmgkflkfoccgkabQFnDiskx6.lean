-- Written by this session's own program (wip/x/xprint.py, over the kit's printer); Lean checks it.
import Derived.Test.YtmgkflkfoccgkabQFnDiskx0
import Derived.Test.YtmgkflkfoccgkabQFnDiskx1
import Derived.Test.YtmgkflkfoccgkabQFnDiskx3
import Derived.Test.YtmgkflkfoccgkabQFnDiskx4
import Derived.Test.YtmgkflkfoccgkabQFnDiskx5
namespace Go.Proofs.Ytmgkflkfoccgkab.QFnDisk
open Go.RowKit Go.Proofs.YtmgkflkfoccgkabW.PrintWords Go.Proofs.YtmgkflkfoccgkabW.PrintLast Go.Proofs.YtmgkflkfoccgkabW.PrintMore
attribute [local go_sem] max2_int min2_int max_two min_two max_three min_three max_four min_four   -- for this text's walks alone
set_option linter.unusedVariables false
set_option linter.unusedSimpArgs false

/-! ### spec_l13Put: function 58 -/
def spec_l13Put.l0:Nat → Int → ByteArray → List ByteArray → Option (List ByteArray)
 | 0,_,_,_=>none
 | k + 1,x0,x1,x5=>if (x1.size:Int) > 10 then (if 0 ≤ 10 then (if 10 ≤ (x1.size:Int) then ((spec_l13Sector.f k (wrap64 (x0 + (x5.length:Int))) false (x1.extract 0 10)).bind fun t188=>(if x5.length < 8796093022208 then (spec_l13Put.l0 k x0 (x1.extract 10 x1.size) (x5 ++ [t188])) else (none))) else (none)) else (none)) else ((spec_l13Sector.f k (wrap64 (x0 + (x5.length:Int))) true x1).bind fun t192=>(if x5.length < 8796093022208 then (some (x5 ++ [t192])) else (none)))
def spec_l13Put.f (k:Nat) (a0:Int) (a1:ByteArray):Option (List ByteArray):=spec_l13Put.l0 k a0 a1 ([]:List ByteArray)
theorem spec_l13Put.mono_l:∀ k,(∀ y0 y1 y2,LeO (spec_l13Put.l0 k y0 y1 y2) (spec_l13Put.l0 (k + 1) y0 y1 y2))
 | 0=>fun _ _ _ r h=>by simp [spec_l13Put.l0] at h
 | k + 1=>by
  have ih0:=spec_l13Put.mono_l k
  ·intro y0 y1 y2
   unfold spec_l13Put.l0
   have m0:=@spec_l13Sector.mono
   exact mO
theorem spec_l13Put.mono:∀ a0 a1 k,LeO (spec_l13Put.f k a0 a1) (spec_l13Put.f (k + 1) a0 a1):=by
 intro a0 a1 k
 have ih0:=spec_l13Put.mono_l k
 unfold spec_l13Put.f
 have m0:=@spec_l13Sector.mono
 exact mO
set_option maxHeartbeats 8000000 in
set_option maxRecDepth 100000 in
theorem spec_l13Put.calls (k:Nat) (a0:Int) (a1:ByteArray) (r:List ByteArray) (w:World) (h:spec_l13Put.f k a0 a1 = some r) :
  Calls Try.prog 58 #[.int .i64 a0,.string a1] w fun e w'=>∃ v0_:Value,e = .returned (v0_) ∧ Kd.R Kd.string 9 w' w.heap.size (fun _=>True) v0_ r ∧ Below w.heap.size w w':=by
 have HB:=Aside0.mk (Below.refl w.heap.size w)
 have H:(spec_l13Put.l0 k a0 a1 ([]:List ByteArray)) = some r:=h
 clear h
 have H':=Aside0.mk H
 clear H
 go_enter Try.func58,Try.ntmps58
 go_wp2
 go_loopg [1,5] k (fun kq v1 v5 w'=>∃ (x1_1:ByteArray) (x5_1:List ByteArray),v1 = .string x1_1 ∧ Aside0 (spec_l13Put.l0 kq a0 x1_1 x5_1 = some r) ∧ Aside0 (kq ≤ k) ∧ Aside0 (Kd.R Kd.string 9 w' w.heap.size (fun _=>True) v5 x5_1) ∧ Aside0 (Below w.heap.size w w'))
 case atStart=>exact ⟨(a1),(([]:List ByteArray)),Yh,H',⟨Nat.le_refl _⟩,⟨Yd⟩,⟨bH⟩⟩
 case round =>
  clear H'
  try clear p2
  obtain ⟨x1_1,x5_1,rfl,HA,HK1,HO_5,HB⟩:=hrel
  cases gk with
  | zero=>exact absurd HA.out (by simp [spec_l13Put.l0])
  | succ k1 =>
   have H:=HA.out
   clear HA
   simp only [spec_l13Put.l0] at H
   by_cases c3:(x1_1.size:Int) > 10
   ·rw [if_pos c3] at H
    have c3b0:decide (10 < (x1_1.size:Int)) = true:=decide_eq_true c3
    have c3b1:decide (10 < x1_1.size) = true:=decide_eq_true (by omega)
    clear c3
    by_cases c4:0 ≤ 10
    ·rw [if_pos c4] at H
     have c4b0:=eq_true c4
     have c4b1:=decide_eq_true c4
     clear c4
     by_cases c5:10 ≤ (x1_1.size:Int)
     ·rw [if_pos c5] at H
      have c5b0:=eq_true c5
      have c5b1:=decide_eq_true c5
      clear c5
      replace H:=Option.bind_eq_some_iff.mp H
      obtain ⟨t188,A60,H⟩:=H
      replace H:(if x5_1.length < 8796093022208 then (spec_l13Put.l0 k1 a0 (x1_1.extract 10 x1_1.size) (x5_1 ++ [t188])) else (none)) = some r:=H
      have A6:=Aside0.mk A60
      clear A60
      by_cases c7:x5_1.length < 8796093022208
      ·rw [if_pos c7] at H
       have LMc7:=Aside0.mk c7
       clear c7
       obtain ⟨y189,hy189⟩:∃ y_:List ByteArray,y_ = (x5_1 ++ [t188]):=⟨_,rfl⟩
       replace H:(spec_l13Put.l0 k1 a0 (x1_1.extract 10 x1_1.size) y189) = some r:=by first|(rw [hy189];with_reducible exact H)|(have H2_:=(Option.bind_some _ _).symm.trans H;rw [hy189];with_reducible exact H2_)|(have H2_:=(Option.bind_some _ _).symm.trans H;with_reducible exact H2_)|with_reducible exact H|(rw [hy189];exact H)|exact H
       have Ny189:=Aside0.mk hy189
       clear hy189
       have c8b0:=eq_true (oD:10 ≤ (x1_1.size:Int))
       have H':=Aside0.mk H
       clear H
       obtain ⟨Ao9,co9,eo9⟩:=Kd.R_slice HO_5.out
       subst eo9
       go_wp2_with (first|((with_reducible refine gate_callee (f:=89) rfl ?_);refine goesL_ (some 16) rfl rfl Try.func89 (by kernel_rfl) rfl #[.int .i64 (wrap64 (a0 + (x5_1.length:Int))),.bool false,.string (x1_1.extract 0 10)] rfl Ya ?_;(with_reducible refine (spec_l13Sector.calls k1 (wrap64 (a0 + (x5_1.length:Int))) false (x1_1.extract 0 10) t188 _ A6.out).mono ?_);rintro e w10 ⟨rfl,hb⟩;refine ⟨_,rfl,?_⟩;replace HO_5:=Aside0.mk (Kd.R_below (rR HO_5) hb);replace HB:=Aside0.mk (below_step bH hb);(try clear hb);(try clear hb2);(try clear hk);(try clear hi))|((with_reducible refine gate_builtin (b:=.append) (xs:=#[.tmp 9,.tmp 17]) rfl ?_);at_builtin;refine Kd.R_append Kd.string (w0:=w) w.heap.size rfl (.tmp 9) (.tmp 17) 24 9 (.string ⟨#[]⟩) 16 rfl Try.underlying24 info9 rfl (by decide) Yy (.slice Ao9 x5_1.length co9) x5_1 t188 [.string t188] (fun _=>True) (fun _=>False) rfl rfl ?aP (fun _ hk=>hk.elim) ?aF ?aO ?aB ?aS ?aL ?_;(case aP=>exact rfl);(case aB=>exact bH);(case aF=>exact YE);(case aO=>exact (rR HO_5));(case aS=>exact YB);(case aL=>have:=LMc7.out;omega);intro v190 w11 ho hb hg hat;rw [← Ny189.out] at ho;have n0_:=Aside0.mk (hb);have n1_:=Aside0.mk (ho);clear HB;clear HO_5;have HB:=n0_;have HO191:=n1_;clear n0_ n1_;clear ho hb hg hat))
       go_roundg k1
       case measure=>have:=HK1.out;omega
       case rel=>exact ⟨(x1_1.extract 10 x1_1.size),(y189),Yh,H',⟨by have:=HK1.out;omega⟩,⟨rR HO191⟩,⟨bH⟩⟩
      ·rw [if_neg c7] at H
       exact absurd H (by simp)
     ·rw [if_neg c5] at H
      exact absurd H (by simp)
    ·rw [if_neg c4] at H
     exact absurd H (by simp)
   ·rw [if_neg c3] at H
    have c3b0:decide (10 < (x1_1.size:Int)) = false:=decide_eq_false c3
    have c3b1:decide (10 < x1_1.size) = false:=decide_eq_false (by omega)
    clear c3
    replace H:=Option.bind_eq_some_iff.mp H
    obtain ⟨t192,A120,H⟩:=H
    replace H:(if x5_1.length < 8796093022208 then (some (x5_1 ++ [t192])) else (none)) = some r:=H
    have A12:=Aside0.mk A120
    clear A120
    by_cases c13:x5_1.length < 8796093022208
    ·rw [if_pos c13] at H
     have LMc13:=Aside0.mk c13
     clear c13
     obtain ⟨y193,hy193⟩:∃ y_:List ByteArray,y_ = (x5_1 ++ [t192]):=⟨_,rfl⟩
     replace H:(some y193) = some r:=by first|(rw [hy193];with_reducible exact H)|(have H2_:=(Option.bind_some _ _).symm.trans H;rw [hy193];with_reducible exact H2_)|(have H2_:=(Option.bind_some _ _).symm.trans H;with_reducible exact H2_)|with_reducible exact H|(rw [hy193];exact H)|exact H
     have Ny193:=Aside0.mk hy193
     clear hy193
     obtain rfl:=Option.some.inj H
     obtain ⟨Ao14,co14,eo14⟩:=Kd.R_slice HO_5.out
     subst eo14
     go_wp2_with (first|((with_reducible refine gate_callee (f:=89) rfl ?_);refine goesL_ (some 27) rfl rfl Try.func89 (by kernel_rfl) rfl #[.int .i64 (wrap64 (a0 + (x5_1.length:Int))),.bool true,.string x1_1] rfl Ya ?_;(with_reducible refine (spec_l13Sector.calls k1 (wrap64 (a0 + (x5_1.length:Int))) true x1_1 t192 _ A12.out).mono ?_);rintro e w15 ⟨rfl,hb⟩;refine ⟨_,rfl,?_⟩;replace HO_5:=Aside0.mk (Kd.R_below (rR HO_5) hb);replace HB:=Aside0.mk (below_step bH hb);(try clear hb);(try clear hb2);(try clear hk);(try clear hi))|((with_reducible refine gate_builtin (b:=.append) (xs:=#[.tmp 21,.tmp 28]) rfl ?_);at_builtin;refine Kd.R_append Kd.string (w0:=w) w.heap.size rfl (.tmp 21) (.tmp 28) 24 9 (.string ⟨#[]⟩) 16 rfl Try.underlying24 info9 rfl (by decide) Yy (.slice Ao14 x5_1.length co14) x5_1 t192 [.string t192] (fun _=>True) (fun _=>False) rfl rfl ?aP (fun _ hk=>hk.elim) ?aF ?aO ?aB ?aS ?aL ?_;(case aP=>exact rfl);(case aB=>exact bH);(case aF=>exact YE);(case aO=>exact (rR HO_5));(case aS=>exact YB);(case aL=>have:=LMc13.out;omega);intro v194 w16 ho hb hg hat;rw [← Ny193.out] at ho;have n0_:=Aside0.mk (hb);have n1_:=Aside0.mk (ho);clear HB;clear HO_5;have HB:=n0_;have HO195:=n1_;clear n0_ n1_;clear ho hb hg hat))
     go_ret
     exact ⟨_,Yb,rR HO195,bH⟩
    ·rw [if_neg c13] at H
     exact absurd H (by simp)

/-! ### spec_PutText: function 18 -/
mutual
def spec_PutText.j0:Nat → ByteArray → Bool → List ByteArray → List ByteArray → Option (List ByteArray × List ByteArray × Bool)
 | 0,_,_,_,_=>none
 | k + 1,x1,x17,x197000,x197001=>if x17 = true then (some (([]:List ByteArray),([]:List ByteArray),false)) else ((spec_l13All.f x197000 x197001).bind fun t199=>((spec_l13Texts.f k t199).bind fun bt202=>(if bt202.2 < (t199.length:Int) then (spec_PutText.j1 k x1 bt202.2 true x197000 x197001) else (if (wrap64 (bt202.2 + (wrap64 (Int.tdiv (wrap64 ((x1.size:Int) + 9)) 10)))) > 400 then (spec_PutText.j1 k x1 bt202.2 true x197000 x197001) else (spec_PutText.j1 k x1 bt202.2 (bt202.2 == 400) x197000 x197001)))))
def spec_PutText.j1:Nat → ByteArray → Int → Bool → List ByteArray → List ByteArray → Option (List ByteArray × List ByteArray × Bool)
 | 0,_,_,_,_,_=>none
 | k + 1,x1,x8,x42,x197000,x197001=>if x42 = true then (some (([]:List ByteArray),([]:List ByteArray),false)) else ((spec_l13Own.f x197000 x197001).bind fun bt206=>((spec_l13Put.f k x8 x1).bind fun t213=>(if bt206.2.length + t213.length < 8796093022208 then (some (bt206.1,(bt206.2 ++ t213),true)) else (none))))
end
def spec_PutText.f (k:Nat) (l0_0:List ByteArray) (l0_1:List ByteArray) (a1:ByteArray):Option (List ByteArray × List ByteArray × Bool):=(spec_GoodDisk.f k l0_0 l0_1).bind fun t198=>(if t198 = true then (spec_PutText.j0 k a1 (decide ((a1.size:Int) > 1000)) l0_0 l0_1) else (spec_PutText.j0 k a1 true l0_0 l0_1))
theorem spec_PutText.mono_l:∀ k,(∀ y0 y1 y2 y3,LeO (spec_PutText.j0 k y0 y1 y2 y3) (spec_PutText.j0 (k + 1) y0 y1 y2 y3)) ∧ (∀ y0 y1 y2 y3 y4,LeO (spec_PutText.j1 k y0 y1 y2 y3 y4) (spec_PutText.j1 (k + 1) y0 y1 y2 y3 y4))
 | 0=>⟨fun _ _ _ _ r h=>by simp [spec_PutText.j0] at h,fun _ _ _ _ _ r h=>by simp [spec_PutText.j1] at h⟩
 | k + 1=>by
  obtain ⟨ih0,ih1⟩:=spec_PutText.mono_l k
  refine ⟨?_,?_⟩
  ·intro y0 y1 y2 y3
   unfold spec_PutText.j0
   have m0:=@spec_GoodDisk.mono
   have m1:=@spec_l13Put.mono
   have m2:=@spec_l13Texts.mono
   exact mO
  ·intro y0 y1 y2 y3 y4
   unfold spec_PutText.j1
   have m0:=@spec_GoodDisk.mono
   have m1:=@spec_l13Put.mono
   have m2:=@spec_l13Texts.mono
   exact mO
theorem spec_PutText.mono:∀ a0 a1 a2 k,LeO (spec_PutText.f k a0 a1 a2) (spec_PutText.f (k + 1) a0 a1 a2):=by
 intro a0 a1 a2 k
 obtain ⟨ih0,ih1⟩:=spec_PutText.mono_l k
 unfold spec_PutText.f
 have m0:=@spec_GoodDisk.mono
 have m1:=@spec_l13Put.mono
 have m2:=@spec_l13Texts.mono
 exact mO
def spec_PutText.T8:Bool × List (List Nat × List Nat):=(true,[([],[]),([0],[0]),([],[]),([],[]),([2,3],[2,3]),([1,4,4],[1,4]),([0,1,2,3,4,5],[]),([6,5,5,0,1,2,3,4,5],[5,6])])
def spec_PutText.B8:List Nat:=[0,1,0,0,12,31,63,127]
theorem spec_PutText.tab8:rtab .any (opsOf Try.f18 8) = spec_PutText.T8:=by kernel_rfl
theorem spec_PutText.bits8:waitsOk spec_PutText.T8.2 spec_PutText.B8 = true:=by kernel_rfl
set_option maxHeartbeats 8000000 in
set_option maxRecDepth 100000 in
theorem spec_PutText.calls (k:Nat) (A0_0:Option Addr) (c0_0:Nat) (l0_0:List ByteArray) (A0_1:Option Addr) (c0_1:Nat) (l0_1:List ByteArray) (a1:ByteArray) (r1:List ByteArray) (r2:List ByteArray) (r3:Bool) (w:World) (hr0_0:Kd.C Kd.string w A0_0 l0_0.length l0_0) (hc0_0:l0_0.length ≤ c0_0) (hr0_1:Kd.C Kd.string w A0_1 l0_1.length l0_1) (hc0_1:l0_1.length ≤ c0_1) (h:spec_PutText.f k l0_0 l0_1 a1 = some (r1,r2,r3)) :
  Calls Try.prog 18 #[.agg #[.slice A0_0 l0_0.length c0_0,.slice A0_1 l0_1.length c0_1],.string a1] w fun e w'=>∃ v0_ v1_:Value,e = .returned (.tuple #[.agg #[v0_,v1_],.bool r3]) ∧ Kd.R Kd.string 9 w' w.heap.size (fun k_=>some k_ ≠ (v1_:Value).ownBlock) v0_ r1 ∧ Kd.R Kd.string 9 w' w.heap.size (fun k_=>some k_ ≠ (v0_:Value).ownBlock) v1_ r2 ∧ Below w.heap.size w w':=by
 have hu26:=Try.underlying26
 have HR0_0:=Aside0.mk hr0_0
 have HC0_0:=Aside0.mk hc0_0
 clear hr0_0 hc0_0
 have HR0_1:=Aside0.mk hr0_1
 have HC0_1:=Aside0.mk hc0_1
 clear hr0_1 hc0_1
 have HB:=Aside0.mk (Below.refl w.heap.size w)
 have H:((spec_GoodDisk.f k l0_0 l0_1).bind fun t198=>(if t198 = true then (spec_PutText.j0 k a1 (decide ((a1.size:Int) > 1000)) l0_0 l0_1) else (spec_PutText.j0 k a1 true l0_0 l0_1))) = some (r1,r2,r3):=h
 clear h
 have HC3:=Aside0.mk H
 clear H
 go_enter Try.func18,Try.ntmps18
 go_upto_region 1 with (first|((with_reducible refine gate_dst (N:=2) rfl ?_);(try (refine gate_guard (by rfl) ?_;dsimp only));refine box_event ?hg (N:=2) ?hd (cs:=#[.slice A0_0 l0_0.length c0_0,.slice A0_1 l0_1.length c0_1]) (t:=26) ?hr ?_;(case hd=>rfl);(case hg=>rfl);(case hr=>exact Yg);intro gb196 hg w4 hbox hb;have BK196:=Aside0.mk (hbox);have GW196:=Aside0.mk ((hZ:w.heap.size ≤ gb196));have GE196:=Aside0.mk ((hZ:w.heap.size ≤ gb196));replace HB:=Aside0.mk (below_step bH hb);clear hb hbox hg)|((with_reducible refine gate_dst (N:=4) rfl ?_);(try (refine gate_guard (by rfl) ?_;dsimp only));refine box_event ?hg (N:=4) ?hd (cs:=#[.slice none 0 0,.slice none 0 0]) (t:=26) ?hr ?_;(case hd=>rfl);(case hg=>rfl);(case hr=>exact Yg);intro gb197 hg w5 hbox hb;have BK197:=Aside0.mk (hbox);have GW197:=Aside0.mk ((hZ:w.heap.size ≤ gb197));have GE197:=Aside0.mk ((hZ:w.heap.size ≤ gb197));replace HB:=Aside0.mk (below_step bH hb);have NB196_197:=Aside0.mk ((nL BK196:gb196 ≠ gb197));have NB197_196:=Aside0.mk ((nG BK196:gb197 ≠ gb196));replace BK196:=Aside0.mk (blk_below (bB BK196) hb);clear hb hbox hg))
 (try simp only [Act.put,List.setIfInBounds_toArray,List.set_cons_zero,List.set_cons_succ])
 go_cut [17] (fun v17 wc=>∃ (kq:Nat) (x17_2:Bool),v17 = .bool x17_2 ∧ Aside0 (spec_PutText.j0 kq a1 x17_2 l0_0 l0_1 = some (r1,r2,r3)) ∧ Aside0 (kq ≤ k) ∧ Aside0 (wc.heap[gb196]? = some (.cells #[(.slice A0_0 l0_0.length c0_0),(.slice A0_1 l0_1.length c0_1)] 26 (0,0))) ∧ Aside0 (wc.heap[gb197]? = some (.cells #[(.slice none 0 0),(.slice none 0 0)] 26 (0,0))) ∧ Aside0 (Below w.heap.size w wc))
 case first =>
  have H:=HC3.out
  clear HC3
  replace H:=Option.bind_eq_some_iff.mp H
  obtain ⟨t198,A60,H⟩:=H
  replace H:(if t198 = true then (spec_PutText.j0 k a1 (decide ((a1.size:Int) > 1000)) l0_0 l0_1) else (spec_PutText.j0 k a1 true l0_0 l0_1)) = some (r1,r2,r3):=H
  have A6:=Aside0.mk A60
  clear A60
  by_cases c7:t198 = true
  ·subst c7
   have H1:(spec_PutText.j0 k a1 (decide ((a1.size:Int) > 1000)) l0_0 l0_1) = some (r1,r2,r3):=by rw [if_pos rfl] at H;exact H
   clear H
   have H:=H1
   clear H1
   have H':=Aside0.mk H
   clear H
   have hnb8:=NB196_197.out
   have hnc8:=NB197_196.out
   have hcz9_0:w5.cell? ⟨gb196,0,none⟩ = some (.slice A0_0 l0_0.length c0_0):=(blk_cell BK196.out 0).trans rfl
   have hcz9_1:w5.cell? ⟨gb196,1,none⟩ = some (.slice A0_1 l0_1.length c0_1):=(blk_cell BK196.out 1).trans rfl
   have hfz9_0:=blk_frozen BK196.out 0
   have hfz9_1:=blk_frozen BK196.out 1
   go_wp2_with (first|((with_reducible refine gate_callee (f:=12) rfl ?_);refine goesL_ (some 11) rfl rfl Try.func12 (by kernel_rfl) rfl #[.agg #[.slice A0_0 l0_0.length c0_0,.slice A0_1 l0_1.length c0_1]] rfl Ya ?_;(with_reducible refine (spec_GoodDisk.calls k _ _ l0_0 _ _ l0_1 true _ ?side1 ?side2 ?side3 ?side4 A6.out).mono ?_);(case side1=>exact ZB);(case side2=>exact ZL);(case side3=>exact ZP);(case side4=>exact ZO);rintro e w10 ⟨rfl,hb⟩;refine ⟨_,rfl,?_⟩;replace BK196:=Aside0.mk (blk_below (bB BK196) hb);replace BK197:=Aside0.mk (blk_below (bB BK197) hb);replace HB:=Aside0.mk (below_step bH hb);(try clear hb);(try clear hb2);(try clear hk);(try clear hi)))
   go_meet
   case rel=>exact ⟨_,(decide ((a1.size:Int) > 1000)),Yh,H',⟨YQ⟩,⟨YU⟩,⟨YT⟩,⟨bH⟩⟩
  ·replace c7:=Bool.eq_false_iff.mpr c7
   subst c7
   have H1:(spec_PutText.j0 k a1 true l0_0 l0_1) = some (r1,r2,r3):=by rw [if_neg (show ¬ (false = true) by decide)] at H;exact H
   clear H
   have H:=H1
   clear H1
   have H':=Aside0.mk H
   clear H
   have hnb11:=NB196_197.out
   have hnc11:=NB197_196.out
   have hcz12_0:w5.cell? ⟨gb196,0,none⟩ = some (.slice A0_0 l0_0.length c0_0):=(blk_cell BK196.out 0).trans rfl
   have hcz12_1:w5.cell? ⟨gb196,1,none⟩ = some (.slice A0_1 l0_1.length c0_1):=(blk_cell BK196.out 1).trans rfl
   have hfz12_0:=blk_frozen BK196.out 0
   have hfz12_1:=blk_frozen BK196.out 1
   go_wp2_with (first|((with_reducible refine gate_callee (f:=12) rfl ?_);refine goesL_ (some 11) rfl rfl Try.func12 (by kernel_rfl) rfl #[.agg #[.slice A0_0 l0_0.length c0_0,.slice A0_1 l0_1.length c0_1]] rfl Ya ?_;(with_reducible refine (spec_GoodDisk.calls k _ _ l0_0 _ _ l0_1 false _ ?side1 ?side2 ?side3 ?side4 A6.out).mono ?_);(case side1=>exact ZB);(case side2=>exact ZL);(case side3=>exact ZP);(case side4=>exact ZO);rintro e w13 ⟨rfl,hb⟩;refine ⟨_,rfl,?_⟩;replace BK196:=Aside0.mk (blk_below (bB BK196) hb);replace BK197:=Aside0.mk (blk_below (bB BK197) hb);replace HB:=Aside0.mk (below_step bH hb);(try clear hb);(try clear hb2);(try clear hk);(try clear hi)))
   go_meet
   case rel=>exact ⟨_,(true),Yh,H',⟨YQ⟩,⟨YU⟩,⟨YT⟩,⟨bH⟩⟩
 case rest =>
  clear HC3
  try clear c1
  try clear p2
  try clear c7
  try clear c8
  try clear c11
  try clear c12
  try clear hcz12_0
  try clear hcz12_1
  try clear hcz9_0
  try clear hcz9_1
  try clear hfz12_0
  try clear hfz12_1
  try clear hfz9_0
  try clear hfz9_1
  obtain ⟨kq,x17_2,rfl,HA,HJ2,BK196,BK197,HB⟩:=hcut
  cases kq with
  | zero=>exact absurd HA.out (by simp [spec_PutText.j0])
  | succ kj2 =>
   have H:=HA.out
   clear HA
   simp only [spec_PutText.j0] at H
   by_cases c14:x17_2 = true
   ·subst c14
    have H1:(some (([]:List ByteArray),([]:List ByteArray),false)) = some (r1,r2,r3):=by rw [if_pos rfl] at H;exact H
    clear H
    have H:=H1
    clear H1
    simp only [Option.some.injEq,Prod.mk.injEq] at H
    obtain ⟨rfl,rfl,rfl⟩:=H
    have hnb15:=NB197_196.out
    have hnc15:=NB196_197.out
    have hcz16_0:wc.cell? ⟨gb197,0,none⟩ = some (.slice none 0 0):=(blk_cell BK197.out 0).trans rfl
    have hcz16_1:wc.cell? ⟨gb197,1,none⟩ = some (.slice none 0 0):=(blk_cell BK197.out 1).trans rfl
    have hfz16_0:=blk_frozen BK197.out 0
    have hfz16_1:=blk_frozen BK197.out 1
    go_wp2
    refine bodyPost_ret (results_ct rfl _ _ gb197 26 #[.slice none 0 0,.slice none 0 0] (0,0) _ rfl YP Try.underlying26 rfl (by kernel_rfl)) rfl ?_
    exact ⟨_,_,Yb,Yd,Yd,bH⟩
   ·replace c14:=Bool.eq_false_iff.mpr c14
    subst c14
    have H1:((spec_l13All.f l0_0 l0_1).bind fun t199=>((spec_l13Texts.f kj2 t199).bind fun bt202=>(if bt202.2 < (t199.length:Int) then (spec_PutText.j1 kj2 a1 bt202.2 true l0_0 l0_1) else (if (wrap64 (bt202.2 + (wrap64 (Int.tdiv (wrap64 ((a1.size:Int) + 9)) 10)))) > 400 then (spec_PutText.j1 kj2 a1 bt202.2 true l0_0 l0_1) else (spec_PutText.j1 kj2 a1 bt202.2 (bt202.2 == 400) l0_0 l0_1))))) = some (r1,r2,r3):=by rw [if_neg (show ¬ (false = true) by decide)] at H;exact H
    clear H
    have H:=H1
    clear H1
    replace H:=Option.bind_eq_some_iff.mp H
    obtain ⟨t199,A170,H⟩:=H
    replace H:((spec_l13Texts.f kj2 t199).bind fun bt202=>(if bt202.2 < (t199.length:Int) then (spec_PutText.j1 kj2 a1 bt202.2 true l0_0 l0_1) else (if (wrap64 (bt202.2 + (wrap64 (Int.tdiv (wrap64 ((a1.size:Int) + 9)) 10)))) > 400 then (spec_PutText.j1 kj2 a1 bt202.2 true l0_0 l0_1) else (spec_PutText.j1 kj2 a1 bt202.2 (bt202.2 == 400) l0_0 l0_1)))) = some (r1,r2,r3):=H
    have A17:=Aside0.mk A170
    clear A170
    replace H:=Option.bind_eq_some_iff.mp H
    obtain ⟨⟨t202,t203⟩,A180,H⟩:=H
    replace H:(if t203 < (t199.length:Int) then (spec_PutText.j1 kj2 a1 t203 true l0_0 l0_1) else (if (wrap64 (t203 + (wrap64 (Int.tdiv (wrap64 ((a1.size:Int) + 9)) 10)))) > 400 then (spec_PutText.j1 kj2 a1 t203 true l0_0 l0_1) else (spec_PutText.j1 kj2 a1 t203 (t203 == 400) l0_0 l0_1))) = some (r1,r2,r3):=H
    have A18:=Aside0.mk A180
    clear A180
    have HC19:=Aside0.mk H
    clear H
    have hnb20:=NB196_197.out
    have hnc20:=NB197_196.out
    have hcz21_0:wc.cell? ⟨gb196,0,none⟩ = some (.slice A0_0 l0_0.length c0_0):=(blk_cell BK196.out 0).trans rfl
    have hcz21_1:wc.cell? ⟨gb196,1,none⟩ = some (.slice A0_1 l0_1.length c0_1):=(blk_cell BK196.out 1).trans rfl
    have hfz21_0:=blk_frozen BK196.out 0
    have hfz21_1:=blk_frozen BK196.out 1
    go_upto_region 5 with (first|((with_reducible refine gate_callee (f:=55) rfl ?_);refine goesL_ (some 20) rfl rfl Try.func55 (by kernel_rfl) rfl #[.agg #[.slice A0_0 l0_0.length c0_0,.slice A0_1 l0_1.length c0_1]] rfl Ya ?_;(with_reducible refine (spec_l13All.calls _ _ l0_0 _ _ l0_1 t199 _ ?side1 ?side2 ?side3 ?side4 A17.out).mono ?_);(case side1=>exact ZB);(case side2=>exact ZL);(case side3=>exact ZP);(case side4=>exact ZO);rintro e w22 ⟨v200,rfl,ho0,hb⟩;refine ⟨_,rfl,?_⟩;have HO201:=Aside0.mk (Kd.R_lower ho0 (below_size bH));replace BK196:=Aside0.mk (blk_below (bB BK196) hb);replace BK197:=Aside0.mk (blk_below (bB BK197) hb);replace HB:=Aside0.mk (below_step bH hb);(try clear hb);(try clear hb2);(try clear hk);(try clear hi);(try clear ho0);obtain ⟨Ao23,co23,eo23⟩:=Kd.R_slice HO201.out;subst eo23)|((with_reducible refine gate_callee (f:=56) rfl ?_);refine goesL_ (some 23) rfl rfl Try.func56 (by kernel_rfl) rfl #[.slice Ao23 t199.length co23] rfl Ya ?_;(with_reducible refine (spec_l13Texts.calls kj2 _ _ t199 t202 t203 _ ?side1 ?side2 A18.out).mono ?_);(case side1=>repeat (first|exact (Kd.R_reads' HO201.out).2.2|(with_reducible refine Kd.C_alloc ?_ _)|(with_reducible refine Kd.C_drewN ?_ _)|(with_reducible refine Kd.C_drew ?_)));(case side2=>exact (Kd.R_reads' HO201.out).2.1);rintro e w24 ⟨v204,rfl,ho0,hb⟩;refine ⟨_,rfl,?_⟩;have HO205:=Aside0.mk (Kd.R_lower (Kd.R_new' ho0 (Kd.R_lt (rR HO201))) (below_size bH));replace HO201:=Aside0.mk (Kd.R_elder' (rR HO201) (Kd.R_base ho0) hb);replace BK196:=Aside0.mk (blk_below (bB BK196) hb);replace BK197:=Aside0.mk (blk_below (bB BK197) hb);replace HB:=Aside0.mk (below_step bH hb);(try clear hb);(try clear hb2);(try clear hk);(try clear hi);(try clear ho0)))
    (try simp only [Act.put,List.setIfInBounds_toArray,List.set_cons_zero,List.set_cons_succ])
    go_cut [42] (fun v42 wc=>∃ (kq:Nat) (x42_18:Bool),v42 = .bool x42_18 ∧ Aside0 (spec_PutText.j1 kq a1 t203 x42_18 l0_0 l0_1 = some (r1,r2,r3)) ∧ Aside0 (kq ≤ kj2) ∧ Aside0 (wc.heap[gb196]? = some (.cells #[(.slice A0_0 l0_0.length c0_0),(.slice A0_1 l0_1.length c0_1)] 26 (0,0))) ∧ Aside0 (wc.heap[gb197]? = some (.cells #[(.slice none 0 0),(.slice none 0 0)] 26 (0,0))) ∧ Aside0 (Below w.heap.size w wc))
    case first =>
     have H:=HC19.out
     clear HC19
     by_cases c25:t203 < (t199.length:Int)
     ·rw [if_pos c25] at H
      have c25b0:=decide_eq_true c25
      clear c25
      (first|rw [c25b0]|(simp only [i64_w,i32_w];rw [c25b0])|skip)
      have H':=Aside0.mk H
      clear H
      go_wp2
      go_meet
      case rel=>exact ⟨_,(true),Yh,H',⟨by have:=HJ2.out;first|omega|exact Nat.le_refl _⟩,⟨YU⟩,⟨YT⟩,⟨bH⟩⟩
     ·rw [if_neg c25] at H
      have c25b0:decide (t203 < (t199.length:Int)) = false:=decide_eq_false c25
      clear c25
      (first|rw [c25b0]|(simp only [i64_w,i32_w];rw [c25b0])|skip)
      by_cases c26:(wrap64 (t203 + (wrap64 (Int.tdiv (wrap64 ((a1.size:Int) + 9)) 10)))) > 400
      ·rw [if_pos c26] at H
       have c26b0:decide (400 < (wrap64 (t203 + (wrap64 (Int.tdiv (wrap64 ((a1.size:Int) + 9)) 10))))) = true:=decide_eq_true c26
       clear c26
       have H':=Aside0.mk H
       clear H
       go_wp2
       go_meet
       case rel=>exact ⟨_,(true),Yh,H',⟨by have:=HJ2.out;first|omega|exact Nat.le_refl _⟩,⟨YU⟩,⟨YT⟩,⟨bH⟩⟩
      ·rw [if_neg c26] at H
       have c26b0:decide (400 < (wrap64 (t203 + (wrap64 (Int.tdiv (wrap64 ((a1.size:Int) + 9)) 10))))) = false:=decide_eq_false c26
       clear c26
       have H':=Aside0.mk H
       clear H
       go_wp2
       go_meet
       case rel=>exact ⟨_,((t203 == 400)),Yh,H',⟨by have:=HJ2.out;first|omega|exact Nat.le_refl _⟩,⟨YU⟩,⟨YT⟩,⟨bH⟩⟩
    case rest =>
     clear HC19
     try clear c1
     try clear c2
     try clear p2
     try clear c5
     try clear p6
     try clear c7
     try clear c8
     try clear c11
     try clear c12
     try clear c14
     try clear c15
     try clear c18
     try clear c20
     try clear c25
     try clear c25b0
     try clear c26
     try clear c26b0
     try clear hcz12_0
     try clear hcz12_1
     try clear hcz16_0
     try clear hcz16_1
     try clear hcz21_0
     try clear hcz21_1
     try clear hcz9_0
     try clear hcz9_1
     try clear hfz12_0
     try clear hfz12_1
     try clear hfz16_0
     try clear hfz16_1
     try clear hfz21_0
     try clear hfz21_1
     try clear hfz9_0
     try clear hfz9_1
     try clear p2
     obtain ⟨kq,x42_18,rfl,HA,HJ18,BK196,BK197,HB⟩:=hcut
     cases kq with
     | zero=>exact absurd HA.out (by simp [spec_PutText.j1])
     | succ kj18 =>
      have H:=HA.out
      clear HA
      simp only [spec_PutText.j1] at H
      by_cases c27:x42_18 = true
      ·subst c27
       have H1:(some (([]:List ByteArray),([]:List ByteArray),false)) = some (r1,r2,r3):=by rw [if_pos rfl] at H;exact H
       clear H
       have H:=H1
       clear H1
       simp only [Option.some.injEq,Prod.mk.injEq] at H
       obtain ⟨rfl,rfl,rfl⟩:=H
       have hnb28:=NB197_196.out
       have hnc28:=NB196_197.out
       have hcz29_0:wc.cell? ⟨gb197,0,none⟩ = some (.slice none 0 0):=(blk_cell BK197.out 0).trans rfl
       have hcz29_1:wc.cell? ⟨gb197,1,none⟩ = some (.slice none 0 0):=(blk_cell BK197.out 1).trans rfl
       have hfz29_0:=blk_frozen BK197.out 0
       have hfz29_1:=blk_frozen BK197.out 1
       go_wp2
       refine bodyPost_ret (results_ct rfl _ _ gb197 26 #[.slice none 0 0,.slice none 0 0] (0,0) _ rfl YP Try.underlying26 rfl (by kernel_rfl)) rfl ?_
       exact ⟨_,_,Yb,Yd,Yd,bH⟩
      ·replace c27:=Bool.eq_false_iff.mpr c27
       subst c27
       have H1:((spec_l13Own.f l0_0 l0_1).bind fun bt206=>((spec_l13Put.f kj18 t203 a1).bind fun t213=>(if bt206.2.length + t213.length < 8796093022208 then (some (bt206.1,(bt206.2 ++ t213),true)) else (none)))) = some (r1,r2,r3):=by rw [if_neg (show ¬ (false = true) by decide)] at H;exact H
       clear H
       have H:=H1
       clear H1
       replace H:=Option.bind_eq_some_iff.mp H
       obtain ⟨⟨t206,t209⟩,A300,H⟩:=H
       replace H:((spec_l13Put.f kj18 t203 a1).bind fun t213=>(if t209.length + t213.length < 8796093022208 then (some (t206,(t209 ++ t213),true)) else (none))) = some (r1,r2,r3):=H
       have A30:=Aside0.mk A300
       clear A300
       replace H:=Option.bind_eq_some_iff.mp H
       obtain ⟨t213,A310,H⟩:=H
       replace H:(if t209.length + t213.length < 8796093022208 then (some (t206,(t209 ++ t213),true)) else (none)) = some (r1,r2,r3):=H
       have A31:=Aside0.mk A310
       clear A310
       by_cases c32:t209.length + t213.length < 8796093022208
       ·rw [if_pos c32] at H
        have LMc32:=Aside0.mk c32
        clear c32
        obtain ⟨y216,hy216⟩:∃ y_:List ByteArray,y_ = (t209 ++ t213):=⟨_,rfl⟩
        replace H:(some (t206,y216,true)) = some (r1,r2,r3):=by first|(rw [hy216];with_reducible exact H)|(have H2_:=(Option.bind_some _ _).symm.trans H;rw [hy216];with_reducible exact H2_)|(have H2_:=(Option.bind_some _ _).symm.trans H;with_reducible exact H2_)|with_reducible exact H|(rw [hy216];exact H)|exact H
        have Ny216:=Aside0.mk hy216
        clear hy216
        simp only [Option.some.injEq,Prod.mk.injEq] at H
        obtain ⟨rfl,rfl,rfl⟩:=H
        have hnb33:=NB196_197.out
        have hnc33:=NB197_196.out
        have hcz34_0:wc.cell? ⟨gb196,0,none⟩ = some (.slice A0_0 l0_0.length c0_0):=(blk_cell BK196.out 0).trans rfl
        have hcz34_1:wc.cell? ⟨gb196,1,none⟩ = some (.slice A0_1 l0_1.length c0_1):=(blk_cell BK196.out 1).trans rfl
        have hfz34_0:=blk_frozen BK196.out 0
        have hfz34_1:=blk_frozen BK196.out 1
        try go_wp2_with (first|((with_reducible refine gate_callee (f:=57) rfl ?_);refine goesL_ (some 45) rfl rfl Try.func57 (by kernel_rfl) rfl #[.agg #[.slice A0_0 l0_0.length c0_0,.slice A0_1 l0_1.length c0_1]] rfl Ya ?_;(with_reducible refine (spec_l13Own.calls _ _ l0_0 _ _ l0_1 t206 t209 _ ?side1 ?side2 ?side3 ?side4 A30.out).mono ?_);(case side1=>exact ZB);(case side2=>exact ZL);(case side3=>exact ZP);(case side4=>exact ZO);rintro e w35 ⟨v207,v210,rfl,ho0,ho1,hb⟩;refine ⟨_,rfl,?_⟩;have HO208:=Aside0.mk (Kd.R_lower ho0 (below_size bH));have HO211:=Aside0.mk (Kd.R_lower ho1 (below_size bH));replace BK196:=Aside0.mk (blk_below (bB BK196) hb);replace BK197:=Aside0.mk (blk_below (bB BK197) hb);replace HB:=Aside0.mk (below_step bH hb);(try clear hb);(try clear hb2);(try clear hk);(try clear hi);(try clear ho0);(try clear ho1))|((with_reducible refine gate_dst (N:=9) rfl ?_);(try (refine gate_guard (by rfl) ?_;dsimp only));refine box_event ?hg (N:=9) ?hd (cs:=#[.slice none 0 0,.slice none 0 0]) (t:=26) ?hr ?_;(case hd=>rfl);(case hg=>rfl);(case hr=>exact Yg);intro gb212 hg w36 hbox hb;replace HO208:=Aside0.mk (Kd.R_below (rR HO208) hb);replace HO211:=Aside0.mk (Kd.R_below (rR HO211) hb);have BK212:=Aside0.mk (hbox);have GW212:=Aside0.mk ((hZ:w.heap.size ≤ gb212));have GE212:=Aside0.mk ((hZ:w.heap.size ≤ gb212));replace HB:=Aside0.mk (below_step bH hb);have NB196_212:=Aside0.mk ((nL BK196:gb196 ≠ gb212));have NB212_196:=Aside0.mk ((nG BK196:gb212 ≠ gb196));replace BK196:=Aside0.mk (blk_below (bB BK196) hb);have NB197_212:=Aside0.mk ((nL BK197:gb197 ≠ gb212));have NB212_197:=Aside0.mk ((nG BK197:gb212 ≠ gb197));replace BK197:=Aside0.mk (blk_below (bB BK197) hb);clear hb hbox hg;obtain ⟨Ao37,co37,eo37⟩:=Kd.R_slice HO208.out;subst eo37;have hnb38:=NB212_196.out;have hnc38:=NB196_212.out;have hnb39:=NB212_197.out;have hnc39:=NB197_212.out;have hcz40_0:w36.cell? ⟨gb212,0,none⟩ = some (.slice none 0 0):=(blk_cell BK212.out 0).trans rfl;have hcz40_1:w36.cell? ⟨gb212,1,none⟩ = some (.slice none 0 0):=(blk_cell BK212.out 1).trans rfl;have hfz40_0:=blk_frozen BK212.out 0;have hfz40_1:=blk_frozen BK212.out 1;obtain ⟨Ao41,co41,eo41⟩:=Kd.R_slice HO211.out;subst eo41))
        have n0_:Aside0 (Kd.R Kd.string 9 ((w36.setCell ⟨gb212,0,none⟩ (.slice Ao37 t206.length co37)).setCell ⟨gb212,1,none⟩ (.slice Ao41 t209.length co41)) w.heap.size (fun k_=>some k_ ≠ (.slice Ao41 t209.length co41:Value).ownBlock) (.slice Ao37 t206.length co37) t206):=⟨by (with_reducible repeat (first|apply Kd.R_alloc|apply Kd.R_drewN|apply Kd.R_drew));exact Kd.R_mono (Kd.R_far (p:=⟨gb212,1,none⟩) (Kd.R_far (p:=⟨gb212,0,none⟩) (Kd.R_types HO208.out BK212.out (by decide)) (fun _ hk=>hk.2) (.slice Ao37 t206.length co37)) (fun _ hk=>hk.2) (.slice Ao41 t209.length co41)) (fun _ hk=>hk.1)⟩
        have n1_:Aside0 (Kd.R Kd.string 9 ((w36.setCell ⟨gb212,0,none⟩ (.slice Ao37 t206.length co37)).setCell ⟨gb212,1,none⟩ (.slice Ao41 t209.length co41)) w.heap.size (fun k_=>some k_ ≠ (.slice Ao37 t206.length co37:Value).ownBlock) (.slice Ao41 t209.length co41) t209):=⟨by (with_reducible repeat (first|apply Kd.R_alloc|apply Kd.R_drewN|apply Kd.R_drew));exact Kd.R_mono (Kd.R_far (p:=⟨gb212,1,none⟩) (Kd.R_far (p:=⟨gb212,0,none⟩) (Kd.R_types HO211.out BK212.out (by decide)) (fun _ hk=>hk.2) (.slice Ao37 t206.length co37)) (fun _ hk=>hk.2) (.slice Ao41 t209.length co41)) (fun _ hk=>hk.1)⟩
        have n2_:Aside0 (((w36.setCell ⟨gb212,0,none⟩ (.slice Ao37 t206.length co37)).setCell ⟨gb212,1,none⟩ (.slice Ao41 t209.length co41)).heap[gb196]? = some (.cells #[.slice A0_0 l0_0.length c0_0,.slice A0_1 l0_1.length c0_1] 26 (0,0))):=⟨by (with_reducible repeat (first|refine blk_drewN ?_ _|refine blk_drew ?_|refine blk_alloc ?_ _));refine blk_far ?_ NB196_212.out _;(with_reducible repeat (first|refine blk_drewN ?_ _|refine blk_drew ?_|refine blk_alloc ?_ _));refine blk_far ?_ NB196_212.out _;(with_reducible repeat (first|refine blk_drewN ?_ _|refine blk_drew ?_|refine blk_alloc ?_ _));exact BK196.out⟩
        have n3_:Aside0 (((w36.setCell ⟨gb212,0,none⟩ (.slice Ao37 t206.length co37)).setCell ⟨gb212,1,none⟩ (.slice Ao41 t209.length co41)).heap[gb197]? = some (.cells #[.slice none 0 0,.slice none 0 0] 26 (0,0))):=⟨by (with_reducible repeat (first|refine blk_drewN ?_ _|refine blk_drew ?_|refine blk_alloc ?_ _));refine blk_far ?_ NB197_212.out _;(with_reducible repeat (first|refine blk_drewN ?_ _|refine blk_drew ?_|refine blk_alloc ?_ _));refine blk_far ?_ NB197_212.out _;(with_reducible repeat (first|refine blk_drewN ?_ _|refine blk_drew ?_|refine blk_alloc ?_ _));exact BK197.out⟩
        have n4_:Aside0 (((w36.setCell ⟨gb212,0,none⟩ (.slice Ao37 t206.length co37)).setCell ⟨gb212,1,none⟩ (.slice Ao41 t209.length co41)).heap[gb212]? = some (.cells #[.slice Ao37 t206.length co37,.slice Ao41 t209.length co41] 26 (0,0))):=⟨by (with_reducible repeat (first|refine blk_drewN ?_ _|refine blk_drew ?_|refine blk_alloc ?_ _));refine blk_put (cs:=#[.slice Ao37 t206.length co37,.slice none 0 0]) ?_ 1 _ rfl;(with_reducible repeat (first|refine blk_drewN ?_ _|refine blk_drew ?_|refine blk_alloc ?_ _));refine blk_put (cs:=#[.slice none 0 0,.slice none 0 0]) ?_ 0 _ rfl;(with_reducible repeat (first|refine blk_drewN ?_ _|refine blk_drew ?_|refine blk_alloc ?_ _));exact BK212.out⟩
        have n5_:Aside0 (Below w.heap.size w ((w36.setCell ⟨gb212,0,none⟩ (.slice Ao37 t206.length co37)).setCell ⟨gb212,1,none⟩ (.slice Ao41 t209.length co41))):=⟨bH⟩
        (try clear HO208)
        (try clear HO211)
        (try clear BK196)
        (try clear BK197)
        (try clear BK212)
        (try clear HB)
        generalize ((w36.setCell ⟨gb212,0,none⟩ (.slice Ao37 t206.length co37)).setCell ⟨gb212,1,none⟩ (.slice Ao41 t209.length co41)) = w42 at n0_ n1_ n2_ n3_ n4_ n5_ ⊢
        have HO208:=n0_
        have HO211:=n1_
        have BK196:=n2_
        have BK197:=n3_
        have BK212:=n4_
        have HB:=n5_
        clear n0_ n1_ n2_ n3_ n4_ n5_
        replace HO208:=Aside0.mk (Kd.R_drew HO208.out);replace HO211:=Aside0.mk (Kd.R_drew HO211.out);replace BK196:=Aside0.mk (blk_drew BK196.out);replace BK197:=Aside0.mk (blk_drew BK197.out);replace BK212:=Aside0.mk (blk_drew BK212.out);replace HB:=Aside0.mk (below_drew1 HB.out)
        refine start_ (n:=8) (S:=fun w'=>w'.cell? ⟨gb212,0,none⟩ = some (.slice Ao37 t206.length co37) ∧ w'.cell? ⟨gb212,1,none⟩ = some (.slice Ao41 t209.length co41)) (ds:=[7]) #[false,false,false,false,false,false,false,false] (by kernel_rfl) rfl rfl ⟨(blk_cell BK212.out 0).trans rfl,(blk_cell BK212.out 1).trans rfl⟩ (fun hHeld=>?_);refine with_tabW spec_PutText.tab8 spec_PutText.bits8 (fun HT_ HW_=>?_)
        generalize w42.drew = w43 at HO208 HO211 BK196 BK197 BK212 HB hHeld ⊢
        refine pU (i:=0) (N:=some 46) #[true,false,false,false,false,false,false,false] (any_of HT_.out (by kernel_rfl)) ?_
        refine pU (i:=2) (N:=some 48) #[true,false,true,false,false,false,false,false] (any_of HT_.out (by kernel_rfl)) ?_
        refine pU (i:=3) (N:=some 49) #[true,false,true,true,false,false,false,false] (any_of HT_.out (by kernel_rfl)) ?_
        refine take_ (i:=1) (N:=some 47) (v:=?_) (a':=?_) #[true,true,true,true,false,false,false,false] rfl rfl (take_ofW HT_.out HW_.out (by kernel_rfl)) (fun _ _ _ h=>h) (Or.inl ⟨by rfl,?_⟩) hHeld ?_ ?_
        rotate_left
        ·rintro w' ⟨s0,s1⟩
         go_simp
         with_reducible rfl
        rotate_left
        ·simp only [Act.put,List.setIfInBounds_toArray,List.set_cons_zero,List.set_cons_succ,i64_w,i32_w]
         rfl
        refine one_ (i:=4) (N:=some 50) #[true,true,true,true,true,false,false,false] rfl rfl (one_of HT_.out (by kernel_rfl)) (by decide) (fun K hK=>?_)
        refine goes_ Try.func58 (by kernel_rfl) rfl #[.int .i64 t203,.string a1] (by rfl) rfl rfl Ya ?_
        with_reducible refine (spec_l13Put.calls kj18 t203 a1 t213 _ A31.out).mono ?_
        rintro e w44 ⟨v214,rfl,ho0,hb⟩
        refine ⟨_,rfl,?_⟩
        have HO215:=Aside0.mk (Kd.R_lower (Kd.R_new' (Kd.R_new' ho0 (Kd.R_lt (rR HO208))) (Kd.R_lt (rR HO211))) (below_size bH));replace HO208:=Aside0.mk (Kd.R_elder' (rR HO208) (Kd.R_base ho0) hb);replace HO211:=Aside0.mk (Kd.R_elder' (rR HO211) (Kd.R_base ho0) hb);replace BK196:=Aside0.mk (blk_below (bB BK196) hb);replace BK197:=Aside0.mk (blk_below (bB BK197) hb);replace BK212:=Aside0.mk (blk_below (bB BK212) hb);replace HB:=Aside0.mk (below_step bH hb)
        (try clear hb)
        (try clear hb2)
        (try clear hk)
        (try clear hi)
        (try clear ho0)
        obtain ⟨Ao46,co46,eo46⟩:=Kd.R_slice HO215.out
        (first|subst eo46|(injection eo46 with f1_ f2_ f3_;have f4_:=f1_.symm;have f5_:=f3_.symm;clear f1_ f2_ f3_;subst f4_;subst f5_))
        refine hK.out _ _ ⟨(blk_cell BK212.out 0).trans rfl,(blk_cell BK212.out 1).trans rfl⟩ (fun hHeld=>?_)
        clear hK K
        refine nM (N:=some 50) ?_
        refine one_ (i:=5) (N:=some 51) #[true,true,true,true,true,true,false,false] rfl rfl (one_of HT_.out (by kernel_rfl)) (by decide) (fun K hK=>?_)
        refine Kd.R_append_rows_step Kd.string (w0:=w) w.heap.size (by rfl) (.tmp 47) (.tmp 50) 24 9 (.string ⟨#[]⟩) 16 rfl Try.underlying24 info9 rfl (by decide) Yy (.slice Ao41 t209.length co41) t209 t213 _ _ _ (fun k_=>some k_ ≠ (.slice Ao37 t206.length co37:Value).ownBlock ∧ some k_ ≠ (.slice Ao46 t213.length co46:Value).ownBlock) (fun _=>False) rfl rfl ?aO ?aR (fun _ _ h=>h) (fun _ h=>h.elim) ?aF ?aB ?aS ?aL ?_
        (case aR=>repeat (first|exact (Kd.R_reads' HO215.out).2.2|(with_reducible refine Kd.C_alloc ?_ _)|(with_reducible refine Kd.C_drewN ?_ _)|(with_reducible refine Kd.C_drew ?_)))
        (case aB=>exact bH)
        (case aF=>exact (fun k_ hk=>⟨Kd.fresh' (Kd.R_lt (rR HO208)) k_ hk,Kd.fresh' (Kd.R_lt (rR HO215)) k_ hk⟩))
        (case aO=>exact (rR HO211))
        (case aS=>exact YB)
        (case aL=>have:=LMc32.out;omega)
        intro v217 w45 ho hb hg hat
        rw [← Ny216.out] at ho
        have n0_:=Aside0.mk (blk_grown (bB BK196) hg (Kd.R_ne HO211.out BK196.out (by decide)));have n1_:=Aside0.mk (blk_grown (bB BK197) hg (Kd.R_ne HO211.out BK197.out (by decide)));have n2_:=Aside0.mk (Kd.R_after (ok:=(fun k_=>some k_ ≠ (.slice Ao46 t213.length co46:Value).ownBlock)) (by (with_reducible repeat (first|apply Kd.R_alloc|apply Kd.R_drewN|apply Kd.R_drew));exact Kd.R_mono HO208.out (fun _ hk=>⟨hk.2,hk.1⟩)) hg hat);have n3_:=Aside0.mk (blk_grown (bB BK212) hg (Kd.R_ne HO211.out BK212.out (by decide)));have n4_:=Aside0.mk (Kd.R_after (ok:=(fun k_=>some k_ ≠ (.slice Ao37 t206.length co37:Value).ownBlock)) (by (with_reducible repeat (first|apply Kd.R_alloc|apply Kd.R_drewN|apply Kd.R_drew));exact Kd.R_mono HO215.out (fun _ hk=>⟨hk.1.2,hk.2⟩)) hg hat);have n5_:=Aside0.mk (hb);have n6_:=Aside0.mk (ho);clear BK196;clear BK197;clear HO208;clear BK212;clear HO215;clear HB;clear HO211;have BK196:=n0_;have BK197:=n1_;have HO208:=n2_;have BK212:=n3_;have HO215:=n4_;have HB:=n5_;have HO218:=n6_;clear n0_ n1_ n2_ n3_ n4_ n5_ n6_
        clear ho hb hg hat
        obtain ⟨Ao47,co47,eo47⟩:=Kd.R_slice HO218.out
        (first|subst eo47|(injection eo47 with f1_ f2_ f3_;have f4_:=f1_.symm;have f5_:=f3_.symm;clear f1_ f2_ f3_;subst f4_;subst f5_))
        refine hK.out _ _ ⟨(blk_cell BK212.out 0).trans rfl,(blk_cell BK212.out 1).trans rfl⟩ (fun hHeld=>?_)
        clear hK K
        refine nM (N:=some 51) ?_
        refine pU (i:=6) (N:=some 52) #[true,true,true,true,true,true,true,false] (any_of HT_.out (by kernel_rfl)) ?_
        refine last_ (i:=7) (N:=none) #[true,true,true,true,true,true,true,true] rfl rfl (one_of HT_.out (by kernel_rfl)) (by decide) (fun K hK=>?_)
        have hs48:w45.cell? ⟨gb212,1,none⟩ = some (.slice Ao41 t209.length co41):=(blk_cell BK212.out 1).trans rfl
        have hfs48:=blk_frozen BK212.out 1
        have hns48_0:=NB196_212.out
        have hns48_1:=NB197_212.out
        have hms48_0:=NB212_196.out
        have hms48_1:=NB212_197.out
        refine skip_ (w1:=?_) (by rfl) rfl ?_ ?_
        rotate_left
        ·go_simp
         rfl
        refine hK.out _ _ ?_
        clear hK K
        refine done_ (done_of HT_.out (by kernel_rfl)) ?_
        have hcz49_0:w45.cell? ⟨gb212,0,none⟩ = some (.slice Ao37 t206.length co37):=(blk_cell BK212.out 0).trans rfl
        have hcz49_1:w45.cell? ⟨gb212,1,none⟩ = some (.slice Ao41 t209.length co41):=(blk_cell BK212.out 1).trans rfl
        have hfz49_0:=blk_frozen BK212.out 0
        have hfz49_1:=blk_frozen BK212.out 1
        have hcz50_0:w45.cell? ⟨gb197,0,none⟩ = some (.slice none 0 0):=(blk_cell BK197.out 0).trans rfl
        have hcz50_1:w45.cell? ⟨gb197,1,none⟩ = some (.slice none 0 0):=(blk_cell BK197.out 1).trans rfl
        have hfz50_0:=blk_frozen BK197.out 0
        have hfz50_1:=blk_frozen BK197.out 1
        try go_wp2
        refine bodyPost_ret (results_ct rfl _ _ gb197 26 #[.slice Ao37 t206.length co37,.slice Ao47 y216.length co47] (0,0) _ rfl (by (with_reducible repeat (first|refine blk_drewN ?_ _|refine blk_drew ?_|refine blk_alloc ?_ _));refine blk_put (cs:=#[.slice Ao37 t206.length co37,.slice none 0 0]) ?_ 1 _ rfl;(with_reducible repeat (first|refine blk_drewN ?_ _|refine blk_drew ?_|refine blk_alloc ?_ _));refine blk_put (cs:=#[.slice none 0 0,.slice none 0 0]) ?_ 0 _ rfl;(with_reducible repeat (first|refine blk_drewN ?_ _|refine blk_drew ?_|refine blk_alloc ?_ _));refine blk_far ?_ NB197_212.out _;(with_reducible repeat (first|refine blk_drewN ?_ _|refine blk_drew ?_|refine blk_alloc ?_ _));exact BK197.out) Try.underlying26 rfl (by kernel_rfl)) rfl ?_
        exact ⟨_,_,Yb,by (with_reducible repeat (first|apply Kd.R_alloc|apply Kd.R_drewN|apply Kd.R_drew));exact Kd.R_mono (Kd.R_far (p:=⟨gb197,1,none⟩) (Kd.R_far (p:=⟨gb197,0,none⟩) (Kd.R_far (p:=⟨gb212,1,none⟩) (Kd.R_types (Kd.R_types HO208.out BK212.out (by decide)) BK197.out (by decide)) (fun _ hk=>hk.1.2) (.slice Ao47 y216.length co47)) (fun _ hk=>hk.2) (.slice Ao37 t206.length co37)) (fun _ hk=>hk.2) (.slice Ao47 y216.length co47)) (fun _ hk=>hk.1.1.2),by (with_reducible repeat (first|apply Kd.R_alloc|apply Kd.R_drewN|apply Kd.R_drew));exact Kd.R_mono (Kd.R_far (p:=⟨gb197,1,none⟩) (Kd.R_far (p:=⟨gb197,0,none⟩) (Kd.R_far (p:=⟨gb212,1,none⟩) (Kd.R_types (Kd.R_types HO218.out BK212.out (by decide)) BK197.out (by decide)) (fun _ hk=>hk.1.2) (.slice Ao47 y216.length co47)) (fun _ hk=>hk.2) (.slice Ao37 t206.length co37)) (fun _ hk=>hk.2) (.slice Ao47 y216.length co47)) (fun _ hk=>hk.1.1.1),bH⟩
       ·rw [if_neg c32] at H
        exact absurd H (by simp)

/-! ### spec_SyncDisk: function 25 -/
def spec_SyncDisk.f (k:Nat) (l0_0:List ByteArray) (l0_1:List ByteArray):Option (List ByteArray × List ByteArray × Bool):=(spec_GoodDisk.f k l0_0 l0_1).bind fun t221=>(if t221 = true then ((spec_l13All.f l0_0 l0_1).bind fun t222=>(some (t222,([]:List ByteArray),true))) else (some (([]:List ByteArray),([]:List ByteArray),false)))
theorem spec_SyncDisk.mono:∀ a0 a1 k,LeO (spec_SyncDisk.f k a0 a1) (spec_SyncDisk.f (k + 1) a0 a1):=by
 intro a0 a1 k
 unfold spec_SyncDisk.f
 have m0:=@spec_GoodDisk.mono
 exact mO
set_option maxHeartbeats 8000000 in
set_option maxRecDepth 100000 in
theorem spec_SyncDisk.calls (k:Nat) (A0_0:Option Addr) (c0_0:Nat) (l0_0:List ByteArray) (A0_1:Option Addr) (c0_1:Nat) (l0_1:List ByteArray) (r1:List ByteArray) (r2:List ByteArray) (r3:Bool) (w:World) (hr0_0:Kd.C Kd.string w A0_0 l0_0.length l0_0) (hc0_0:l0_0.length ≤ c0_0) (hr0_1:Kd.C Kd.string w A0_1 l0_1.length l0_1) (hc0_1:l0_1.length ≤ c0_1) (h:spec_SyncDisk.f k l0_0 l0_1 = some (r1,r2,r3)) :
  Calls Try.prog 25 #[.agg #[.slice A0_0 l0_0.length c0_0,.slice A0_1 l0_1.length c0_1]] w fun e w'=>∃ v0_ v1_:Value,e = .returned (.tuple #[.agg #[v0_,v1_],.bool r3]) ∧ Kd.R Kd.string 9 w' w.heap.size (fun k_=>some k_ ≠ (v1_:Value).ownBlock) v0_ r1 ∧ Kd.R Kd.string 9 w' w.heap.size (fun k_=>some k_ ≠ (v0_:Value).ownBlock) v1_ r2 ∧ Below w.heap.size w w':=by
 have hu26:=Try.underlying26
 have HR0_0:=Aside0.mk hr0_0
 have HC0_0:=Aside0.mk hc0_0
 clear hr0_0 hc0_0
 have HR0_1:=Aside0.mk hr0_1
 have HC0_1:=Aside0.mk hc0_1
 clear hr0_1 hc0_1
 have HB:=Aside0.mk (Below.refl w.heap.size w)
 have H:((spec_GoodDisk.f k l0_0 l0_1).bind fun t221=>(if t221 = true then ((spec_l13All.f l0_0 l0_1).bind fun t222=>(some (t222,([]:List ByteArray),true))) else (some (([]:List ByteArray),([]:List ByteArray),false)))) = some (r1,r2,r3):=h
 clear h
 replace H:=Option.bind_eq_some_iff.mp H
 obtain ⟨t221,A20,H⟩:=H
 replace H:(if t221 = true then ((spec_l13All.f l0_0 l0_1).bind fun t222=>(some (t222,([]:List ByteArray),true))) else (some (([]:List ByteArray),([]:List ByteArray),false))) = some (r1,r2,r3):=H
 have A2:=Aside0.mk A20
 clear A20
 by_cases c3:t221 = true
 ·subst c3
  have H1:((spec_l13All.f l0_0 l0_1).bind fun t222=>(some (t222,([]:List ByteArray),true))) = some (r1,r2,r3):=by rw [if_pos rfl] at H;exact H
  clear H
  have H:=H1
  clear H1
  replace H:=Option.bind_eq_some_iff.mp H
  obtain ⟨t222,A40,H⟩:=H
  replace H:(some (t222,([]:List ByteArray),true)) = some (r1,r2,r3):=H
  have A4:=Aside0.mk A40
  clear A40
  simp only [Option.some.injEq,Prod.mk.injEq] at H
  obtain ⟨rfl,rfl,rfl⟩:=H
  go_enter Try.func25,Try.ntmps25
  go_wp2_with (first|((with_reducible refine gate_dst (N:=1) rfl ?_);refine box_event ?hg (N:=1) ?hd (cs:=#[.slice A0_0 l0_0.length c0_0,.slice A0_1 l0_1.length c0_1]) (t:=26) ?hr ?_;(case hd=>rfl);(case hg=>rfl);(case hr=>exact Yg);intro gb219 hg w5 hbox hb;have BK219:=Aside0.mk (hbox);have GW219:=Aside0.mk ((hZ:w.heap.size ≤ gb219));have GE219:=Aside0.mk ((hZ:w.heap.size ≤ gb219));replace HB:=Aside0.mk (below_step bH hb);clear hb hbox hg)|((with_reducible refine gate_dst (N:=2) rfl ?_);refine box_event ?hg (N:=2) ?hd (cs:=#[.slice none 0 0,.slice none 0 0]) (t:=26) ?hr ?_;(case hd=>rfl);(case hg=>rfl);(case hr=>exact Yg);intro gb220 hg w6 hbox hb;have BK220:=Aside0.mk (hbox);have GW220:=Aside0.mk ((hZ:w.heap.size ≤ gb220));have GE220:=Aside0.mk ((hZ:w.heap.size ≤ gb220));replace HB:=Aside0.mk (below_step bH hb);have NB219_220:=Aside0.mk ((nL BK219:gb219 ≠ gb220));have NB220_219:=Aside0.mk ((nG BK219:gb220 ≠ gb219));replace BK219:=Aside0.mk (blk_below (bB BK219) hb);clear hb hbox hg;have hnb7:=NB219_220.out;have hnc7:=NB220_219.out;have hcz8_0:w6.cell? ⟨gb219,0,none⟩ = some (.slice A0_0 l0_0.length c0_0):=(blk_cell BK219.out 0).trans rfl;have hcz8_1:w6.cell? ⟨gb219,1,none⟩ = some (.slice A0_1 l0_1.length c0_1):=(blk_cell BK219.out 1).trans rfl;have hfz8_0:=blk_frozen BK219.out 0;have hfz8_1:=blk_frozen BK219.out 1)|((with_reducible refine gate_callee (f:=12) rfl ?_);refine goesL_ (some 5) rfl rfl Try.func12 (by kernel_rfl) rfl #[.agg #[.slice A0_0 l0_0.length c0_0,.slice A0_1 l0_1.length c0_1]] rfl Ya ?_;(with_reducible refine (spec_GoodDisk.calls k _ _ l0_0 _ _ l0_1 true _ ?side1 ?side2 ?side3 ?side4 A2.out).mono ?_);(case side1=>exact ZB);(case side2=>exact ZL);(case side3=>exact ZP);(case side4=>exact ZO);rintro e w9 ⟨rfl,hb⟩;refine ⟨_,rfl,?_⟩;replace BK219:=Aside0.mk (blk_below (bB BK219) hb);replace BK220:=Aside0.mk (blk_below (bB BK220) hb);replace HB:=Aside0.mk (below_step bH hb);(try clear hb);(try clear hb2);(try clear hk);(try clear hi);have hcz10_0:w9.cell? ⟨gb219,0,none⟩ = some (.slice A0_0 l0_0.length c0_0):=(blk_cell BK219.out 0).trans rfl;have hcz10_1:w9.cell? ⟨gb219,1,none⟩ = some (.slice A0_1 l0_1.length c0_1):=(blk_cell BK219.out 1).trans rfl;have hfz10_0:=blk_frozen BK219.out 0;have hfz10_1:=blk_frozen BK219.out 1)|((with_reducible refine gate_callee (f:=55) rfl ?_);refine goesL_ (some 9) rfl rfl Try.func55 (by kernel_rfl) rfl #[.agg #[.slice A0_0 l0_0.length c0_0,.slice A0_1 l0_1.length c0_1]] rfl Ya ?_;(with_reducible refine (spec_l13All.calls _ _ l0_0 _ _ l0_1 t222 _ ?side1 ?side2 ?side3 ?side4 A4.out).mono ?_);(case side1=>exact ZB);(case side2=>exact ZL);(case side3=>exact ZP);(case side4=>exact ZO);rintro e w11 ⟨v223,rfl,ho0,hb⟩;refine ⟨_,rfl,?_⟩;have HO224:=Aside0.mk (Kd.R_lower ho0 (below_size bH));replace BK219:=Aside0.mk (blk_below (bB BK219) hb);replace BK220:=Aside0.mk (blk_below (bB BK220) hb);replace HB:=Aside0.mk (below_step bH hb);(try clear hb);(try clear hb2);(try clear hk);(try clear hi);(try clear ho0);obtain ⟨Ao12,co12,eo12⟩:=Kd.R_slice HO224.out;subst eo12;have hcz13_0:w11.cell? ⟨gb220,0,none⟩ = some (.slice none 0 0):=(blk_cell BK220.out 0).trans rfl;have hcz13_1:w11.cell? ⟨gb220,1,none⟩ = some (.slice none 0 0):=(blk_cell BK220.out 1).trans rfl;have hfz13_0:=blk_frozen BK220.out 0;have hfz13_1:=blk_frozen BK220.out 1))
  refine bodyPost_ret (results_ct rfl _ _ gb220 26 #[.slice Ao12 t222.length co12,.slice none 0 0] (0,0) _ rfl (by (with_reducible repeat (first|refine blk_drewN ?_ _|refine blk_drew ?_|refine blk_alloc ?_ _));refine blk_put (cs:=#[.slice Ao12 t222.length co12,.slice none 0 0]) ?_ 1 _ rfl;(with_reducible repeat (first|refine blk_drewN ?_ _|refine blk_drew ?_|refine blk_alloc ?_ _));refine blk_put (cs:=#[.slice none 0 0,.slice none 0 0]) ?_ 0 _ rfl;(with_reducible repeat (first|refine blk_drewN ?_ _|refine blk_drew ?_|refine blk_alloc ?_ _));exact BK220.out) Try.underlying26 rfl (by kernel_rfl)) rfl ?_
  exact ⟨_,_,Yb,by (with_reducible repeat (first|apply Kd.R_alloc|apply Kd.R_drewN|apply Kd.R_drew));exact Kd.R_mono (Kd.R_far (p:=⟨gb220,1,none⟩) (Kd.R_far (p:=⟨gb220,0,none⟩) (Kd.R_types HO224.out BK220.out (by decide)) (fun _ hk=>hk.2) (.slice Ao12 t222.length co12)) (fun _ hk=>hk.2) (.slice none 0 0)) (fun _ hk=>ZR),Yd,bH⟩
 ·replace c3:=Bool.eq_false_iff.mpr c3
  subst c3
  have H1:(some (([]:List ByteArray),([]:List ByteArray),false)) = some (r1,r2,r3):=by rw [if_neg (show ¬ (false = true) by decide)] at H;exact H
  clear H
  have H:=H1
  clear H1
  simp only [Option.some.injEq,Prod.mk.injEq] at H
  obtain ⟨rfl,rfl,rfl⟩:=H
  go_enter Try.func25,Try.ntmps25
  go_wp2_with (first|((with_reducible refine gate_dst (N:=1) rfl ?_);refine box_event ?hg (N:=1) ?hd (cs:=#[.slice A0_0 l0_0.length c0_0,.slice A0_1 l0_1.length c0_1]) (t:=26) ?hr ?_;(case hd=>rfl);(case hg=>rfl);(case hr=>exact Yg);intro gb219 hg w14 hbox hb;have BK219:=Aside0.mk (hbox);have GW219:=Aside0.mk ((hZ:w.heap.size ≤ gb219));have GE219:=Aside0.mk ((hZ:w.heap.size ≤ gb219));replace HB:=Aside0.mk (below_step bH hb);clear hb hbox hg)|((with_reducible refine gate_dst (N:=2) rfl ?_);refine box_event ?hg (N:=2) ?hd (cs:=#[.slice none 0 0,.slice none 0 0]) (t:=26) ?hr ?_;(case hd=>rfl);(case hg=>rfl);(case hr=>exact Yg);intro gb220 hg w15 hbox hb;have BK220:=Aside0.mk (hbox);have GW220:=Aside0.mk ((hZ:w.heap.size ≤ gb220));have GE220:=Aside0.mk ((hZ:w.heap.size ≤ gb220));replace HB:=Aside0.mk (below_step bH hb);have NB219_220:=Aside0.mk ((nL BK219:gb219 ≠ gb220));have NB220_219:=Aside0.mk ((nG BK219:gb220 ≠ gb219));replace BK219:=Aside0.mk (blk_below (bB BK219) hb);clear hb hbox hg;have hnb16:=NB219_220.out;have hnc16:=NB220_219.out;have hcz17_0:w15.cell? ⟨gb219,0,none⟩ = some (.slice A0_0 l0_0.length c0_0):=(blk_cell BK219.out 0).trans rfl;have hcz17_1:w15.cell? ⟨gb219,1,none⟩ = some (.slice A0_1 l0_1.length c0_1):=(blk_cell BK219.out 1).trans rfl;have hfz17_0:=blk_frozen BK219.out 0;have hfz17_1:=blk_frozen BK219.out 1)|((with_reducible refine gate_callee (f:=12) rfl ?_);refine goesL_ (some 5) rfl rfl Try.func12 (by kernel_rfl) rfl #[.agg #[.slice A0_0 l0_0.length c0_0,.slice A0_1 l0_1.length c0_1]] rfl Ya ?_;(with_reducible refine (spec_GoodDisk.calls k _ _ l0_0 _ _ l0_1 false _ ?side1 ?side2 ?side3 ?side4 A2.out).mono ?_);(case side1=>exact ZB);(case side2=>exact ZL);(case side3=>exact ZP);(case side4=>exact ZO);rintro e w18 ⟨rfl,hb⟩;refine ⟨_,rfl,?_⟩;replace BK219:=Aside0.mk (blk_below (bB BK219) hb);replace BK220:=Aside0.mk (blk_below (bB BK220) hb);replace HB:=Aside0.mk (below_step bH hb);(try clear hb);(try clear hb2);(try clear hk);(try clear hi);have hcz19_0:w18.cell? ⟨gb220,0,none⟩ = some (.slice none 0 0):=(blk_cell BK220.out 0).trans rfl;have hcz19_1:w18.cell? ⟨gb220,1,none⟩ = some (.slice none 0 0):=(blk_cell BK220.out 1).trans rfl;have hfz19_0:=blk_frozen BK220.out 0;have hfz19_1:=blk_frozen BK220.out 1))
  refine bodyPost_ret (results_ct rfl _ _ gb220 26 #[.slice none 0 0,.slice none 0 0] (0,0) _ rfl (by (with_reducible repeat (first|refine blk_drewN ?_ _|refine blk_drew ?_|refine blk_alloc ?_ _));refine blk_put (cs:=#[.slice none 0 0,.slice none 0 0]) ?_ 1 _ rfl;(with_reducible repeat (first|refine blk_drewN ?_ _|refine blk_drew ?_|refine blk_alloc ?_ _));refine blk_put (cs:=#[.slice none 0 0,.slice none 0 0]) ?_ 0 _ rfl;(with_reducible repeat (first|refine blk_drewN ?_ _|refine blk_drew ?_|refine blk_alloc ?_ _));exact BK220.out) Try.underlying26 rfl (by kernel_rfl)) rfl ?_
  exact ⟨_,_,Yb,Yd,Yd,bH⟩

/-- A state of type 57 at block g of W; what its slices lead to came in by w0. -/
def IsS57 (w0 W:World) (g:Nat) (f0:List Int) (f1:Int) (f2:Int):Prop:=∃ A0 c0,W.heap[g]? = some (.cells #[.slice A0 f0.length c0,.int .i64 f1,.int .u64 f2] 57 (0,0)) ∧ w0.heap.size ≤ g ∧ Kd.C (Kd.int .u8) w0 A0 f0.length f0
theorem IsS57.grown {w0 W:World} {g:Nat} {f0:List Int} {f1:Int} {f2:Int} {W1:World} {row:Option Nat} (h:IsS57 w0 W g f0 f1 f2) (hw:W.grownBy W1 row) (hne:some g ≠ row):IsS57 w0 W1 g f0 f1 f2:=by
 obtain ⟨A0,c0,hb,hg,hr0⟩:=h
 exact ⟨A0,c0,blk_grown hb hw hne,hg,hr0⟩
theorem IsS57.own_neN {w0 W:World} {g:Nat} {f0:List Int} {f1:Int} {f2:Int} {α:Type} {d:Kd α} {e:Nat} {base:Nat} {ok:Nat → Prop} {v:Value} {xs:List α} (h:IsS57 w0 W g f0 f1 f2) (ho:Kd.N d e W base ok v xs) (ht:e ≠ 57):some g ≠ v.ownBlock:=by
 obtain ⟨A0,c0,hb,hg,hr0⟩:=h
 exact Kd.N_ne ho hb ht
theorem IsS57.fresh {w0 W:World} {g:Nat} {f0:List Int} {f1:Int} {f2:Int} (h:IsS57 w0 W g f0 f1 f2):∀ k,W.heap.size ≤ k → k ≠ g:=by
 obtain ⟨A0,c0,hb,hg,hr0⟩:=h
 exact Kd.freshB hb
theorem IsS57.kept {w0 W:World} {g:Nat} {f0:List Int} {f1:Int} {f2:Int} {W1:World} {S:Nat → Prop} (h:IsS57 w0 W g f0 f1 f2) (hk:Kept W W1 S) (hne:¬ S g):IsS57 w0 W1 g f0 f1 f2:=by
 obtain ⟨A0,c0,hb,hg,hr0⟩:=h
 exact ⟨A0,c0,blk_kept hb hk hne,hg,hr0⟩
theorem IsS57.below {w0 W:World} {g:Nat} {f0:List Int} {f1:Int} {f2:Int} {W1:World} (h:IsS57 w0 W g f0 f1 f2) (hw:Below W.heap.size W W1):IsS57 w0 W1 g f0 f1 f2:=h.grown (grown_of_below hw none) (by simp)
theorem IsS57.alloc {w0 W:World} {g:Nat} {f0:List Int} {f1:Int} {f2:Int} (h:IsS57 w0 W g f0 f1 f2) (o:Obj):IsS57 w0 (W.alloc o) g f0 f1 f2:=h.below (below_alloc (Below.refl _ _) o)
theorem IsS57.drewN {w0 W:World} {g:Nat} {f0:List Int} {f1:Int} {f2:Int} (h:IsS57 w0 W g f0 f1 f2) (m:Nat):IsS57 w0 (W.drewN m) g f0 f1 f2:=h
theorem IsS57.drew {w0 W:World} {g:Nat} {f0:List Int} {f1:Int} {f2:Int} (h:IsS57 w0 W g f0 f1 f2):IsS57 w0 W.drew g f0 f1 f2:=h
theorem IsS57.at_ {w0 W:World} {g:Nat} {f0:List Int} {f1:Int} {f2:Int} {w':World} {m:Nat} (hq:W.drewN m = w') (h:IsS57 w0 W g f0 f1 f2):IsS57 w0 w' g f0 f1 f2:=by subst hq;exact IsS57.drewN h m
theorem IsS57.apart {w0 W:World} {g:Nat} {f0:List Int} {f1:Int} {f2:Int} {α:Type} {d:Kd α} {e:Nat} {base:Nat} {ok:Nat → Prop} {v:Value} {xs:List α} (h:IsS57 w0 W g f0 f1 f2) (ho:d.R e W base ok v xs) (ht:∀ q,q ∈ e :: d.E → q ≠ 57):d.R e W base (fun k=>ok k ∧ k ≠ g) v xs:=by
 obtain ⟨A0,c0,hb,hg,hr0⟩:=h
 exact Kd.R_types ho hb ht
theorem IsS57.own_ne {w0 W:World} {g:Nat} {f0:List Int} {f1:Int} {f2:Int} {α:Type} {d:Kd α} {e:Nat} {base:Nat} {ok:Nat → Prop} {v:Value} {xs:List α} (h:IsS57 w0 W g f0 f1 f2) (ho:d.R e W base ok v xs) (ht:e ≠ 57):some g ≠ v.ownBlock:=by
 obtain ⟨A0,c0,hb,hg,hr0⟩:=h
 exact Kd.R_ne ho hb ht
theorem IsS57.apartQ {w0 W:World} {g:Nat} {f0:List Int} {f1:Int} {f2:Int} {α:Type} {d:Kd α} {e:Nat} {base:Nat} {ok:Nat → Prop} {v:Value} {xs:List α} (h:IsS57 w0 W g f0 f1 f2) (ho:d.Q e W base ok v xs) (ht:∀ q,q ∈ e :: d.E → q ≠ 57):d.Q e W base (fun k=>ok k ∧ k ≠ g) v xs:=by
 obtain ⟨A0,c0,hb,hg,hr0⟩:=h
 exact Kd.Q_types ho hb ht
theorem IsS57.own_neQ {w0 W:World} {g:Nat} {f0:List Int} {f1:Int} {f2:Int} {α:Type} {d:Kd α} {e:Nat} {base:Nat} {ok:Nat → Prop} {v:Value} {xs:List α} (h:IsS57 w0 W g f0 f1 f2) (ho:d.Q e W base ok v xs) (ht:e ≠ 57):some g ≠ v.ownBlock:=by
 obtain ⟨A0,c0,hb,hg,hr0⟩:=h
 exact Kd.Q_ne ho hb ht
theorem IsS57.apartS {w0 W:World} {g:Nat} {f0:List Int} {f1:Int} {f2:Int} {α:Type} {d:Kd α} {e:Nat} {base:Nat} {ok:Nat → Prop} {v:Value} {xs:List α} (h:IsS57 w0 W g f0 f1 f2) (ho:d.S e W base ok v xs) (ht:∀ q,q ∈ e :: d.E → q ≠ 57):d.S e W base (fun k=>ok k ∧ k ≠ g) v xs:=by
 obtain ⟨A0,c0,hb,hg,hr0⟩:=h
 exact Kd.S_types ho hb ht
theorem IsS57.own_neS {w0 W:World} {g:Nat} {f0:List Int} {f1:Int} {f2:Int} {α:Type} {d:Kd α} {e:Nat} {base:Nat} {ok:Nat → Prop} {v:Value} {xs:List α} (h:IsS57 w0 W g f0 f1 f2) (ho:d.S e W base ok v xs) (ht:e ≠ 57):some g ≠ v.ownBlock:=by
 obtain ⟨A0,c0,hb,hg,hr0⟩:=h
 exact Kd.S_ne ho hb ht
theorem IsS57.lt {w0 W:World} {g:Nat} {f0:List Int} {f1:Int} {f2:Int} (h:IsS57 w0 W g f0 f1 f2):g < W.heap.size:=by
 obtain ⟨A0,c0,hb,hg,hr0⟩:=h
 exact blk_lt hb
theorem IsS57.ge {w0 W:World} {g:Nat} {f0:List Int} {f1:Int} {f2:Int} (h:IsS57 w0 W g f0 f1 f2):w0.heap.size ≤ g:=by
 obtain ⟨A0,c0,hb,hg,hr0⟩:=h
 exact hg
theorem IsS57.ne_blk {w0 W:World} {g:Nat} {f0:List Int} {f1:Int} {f2:Int} {a:Nat} {cs:Array Value} {t:TypeId} {fr:Nat × Nat} (h:IsS57 w0 W g f0 f1 f2) (hb2:W.heap[a]? = some (.cells cs t fr)) (ht:t ≠ 57):g ≠ a:=by
 obtain ⟨A0,c0,hb,hg,hr0⟩:=h
 rintro rfl
 rw [hb] at hb2
 injection hb2 with hb2
 injection hb2 with _ ht2
 exact ht ht2.symm
theorem IsS57.far {w0 W:World} {g:Nat} {f0:List Int} {f1:Int} {f2:Int} {p:Addr} (h:IsS57 w0 W g f0 f1 f2) (hne:g ≠ p.block) (u:Value):IsS57 w0 (W.setCell p u) g f0 f1 f2:=by
 obtain ⟨A0,c0,hb,hg,hr0⟩:=h
 exact ⟨A0,c0,blk_far hb hne u,hg,hr0⟩
theorem cellS57_0 {W:World} {g:Nat} {A0:Option Addr} {c0:Nat} {f0:List Int} {f1:Int} {f2:Int} (h:W.heap[g]? = some (.cells #[.slice A0 f0.length c0,.int .i64 f1,.int .u64 f2] 57 (0,0))):W.cell? ⟨g,0,none⟩ = some (.slice A0 f0.length c0):=(blk_cell h 0).trans rfl
theorem cellS57_1 {W:World} {g:Nat} {A0:Option Addr} {c0:Nat} {f0:List Int} {f1:Int} {f2:Int} (h:W.heap[g]? = some (.cells #[.slice A0 f0.length c0,.int .i64 f1,.int .u64 f2] 57 (0,0))):W.cell? ⟨g,1,none⟩ = some (.int .i64 f1):=(blk_cell h 1).trans rfl
theorem IsS57.set_1 {w0 W:World} {g:Nat} {f0:List Int} {f1:Int} {f2:Int} (h:IsS57 w0 W g f0 f1 f2) (x:Int):IsS57 w0 (W.setCell ⟨g,1,none⟩ (.int .i64 x)) g f0 x f2:=by
 obtain ⟨A0,c0,hb,hg,hr0⟩:=h
 exact ⟨A0,c0,by simpa using blk_set hb 1 (.int .i64 x),hg,hr0⟩
theorem cellS57_2 {W:World} {g:Nat} {A0:Option Addr} {c0:Nat} {f0:List Int} {f1:Int} {f2:Int} (h:W.heap[g]? = some (.cells #[.slice A0 f0.length c0,.int .i64 f1,.int .u64 f2] 57 (0,0))):W.cell? ⟨g,2,none⟩ = some (.int .u64 f2):=(blk_cell h 2).trans rfl
theorem IsS57.set_2 {w0 W:World} {g:Nat} {f0:List Int} {f1:Int} {f2:Int} (h:IsS57 w0 W g f0 f1 f2) (x:Int):IsS57 w0 (W.setCell ⟨g,2,none⟩ (.int .u64 x)) g f0 f1 x:=by
 obtain ⟨A0,c0,hb,hg,hr0⟩:=h
 exact ⟨A0,c0,by simpa using blk_set hb 2 (.int .u64 x),hg,hr0⟩
theorem IsS57.new (w0 W:World) (A0:Option Addr) (c0:Nat) (f0:List Int) (f1:Int) (f2:Int) (hB:Below w0.heap.size w0 W) (hr0:Kd.C (Kd.int .u8) w0 A0 f0.length f0):IsS57 w0 (W.alloc (.cells #[.slice A0 f0.length c0,.int .i64 f1,.int .u64 f2] 57)) W.heap.size f0 f1 f2:=⟨A0,c0,by simpa using heap_alloc_new W _,hB.size,hr0⟩

/-! ### spec_l1Cur_next: function 76 -/
def spec_l1Cur_next.f (s0_0:List Int) (s0_1:Int) (s0_2:Int):Option (Int × Int × Int):=if s0_1 < (s0_0.length:Int) then (if 0 ≤ s0_1 then (if (wrap64 (s0_1 + 1)) ≤ (s0_0.length:Int) then (some (wrap64 (rd s0_0 s0_1),wrap64 (s0_1 + 1),IntKind.u64.wrap ((IntKind.u64.wrap ((IntKind.u64.wrap (s0_2 * 6364136223846793005)) + (IntKind.u64.wrap (wrap64 (rd s0_0 s0_1))))) + 1442695040888963407))) else (some (wrap64 (Go.bits .and .u64 ((IntKind.u64.wrap ((IntKind.u64.wrap ((IntKind.u64.wrap (s0_2 * 6364136223846793005)) + (IntKind.u64.wrap (wrap64 (rd s0_0 s0_1))))) + 1442695040888963407)) / 1099511627776) 255),wrap64 (s0_1 + 1),IntKind.u64.wrap ((IntKind.u64.wrap ((IntKind.u64.wrap (s0_2 * 6364136223846793005)) + (IntKind.u64.wrap (wrap64 (rd s0_0 s0_1))))) + 1442695040888963407)))) else (none)) else (if (wrap64 (s0_1 + 1)) ≤ (s0_0.length:Int) then (some (0,wrap64 (s0_1 + 1),IntKind.u64.wrap ((IntKind.u64.wrap (IntKind.u64.wrap (s0_2 * 6364136223846793005))) + 1442695040888963407))) else (some (wrap64 (Go.bits .and .u64 ((IntKind.u64.wrap ((IntKind.u64.wrap (IntKind.u64.wrap (s0_2 * 6364136223846793005))) + 1442695040888963407)) / 1099511627776) 255),wrap64 (s0_1 + 1),IntKind.u64.wrap ((IntKind.u64.wrap (IntKind.u64.wrap (s0_2 * 6364136223846793005))) + 1442695040888963407))))
set_option maxHeartbeats 8000000 in
set_option maxRecDepth 100000 in
theorem spec_l1Cur_next.calls (g:Nat) (s0_0:List Int) (s0_1:Int) (s0_2:Int) (r1:Int) (r2:Int) (r3:Int) (w0 w:World) (hI:IsS57 w0 w g s0_0 s0_1 s0_2) (hB:Below w0.heap.size w0 w) (h:spec_l1Cur_next.f s0_0 s0_1 s0_2 = some (r1,r2,r3)) :
  Calls Try.prog 76 #[.pointer (some ⟨g,0,none⟩)] w fun e w'=>e = .returned (.int .i64 r1) ∧ IsS57 w0 w' g s0_0 r2 r3 ∧ Below w0.heap.size w0 w' ∧ KeepBut w w' g none:=by
 have HI0:=Aside0.mk hI
 have HK:=Aside0.mk (KeepBut.refl w g none)
 have HL:=Aside0.mk hB.size
 clear hI
 have HW0:=Aside0.mk hB.size
 have HB:=Aside0.mk hB
 clear hB
 have H:(if s0_1 < (s0_0.length:Int) then (if 0 ≤ s0_1 then (if (wrap64 (s0_1 + 1)) ≤ (s0_0.length:Int) then (some (wrap64 (rd s0_0 s0_1),wrap64 (s0_1 + 1),IntKind.u64.wrap ((IntKind.u64.wrap ((IntKind.u64.wrap (s0_2 * 6364136223846793005)) + (IntKind.u64.wrap (wrap64 (rd s0_0 s0_1))))) + 1442695040888963407))) else (some (wrap64 (Go.bits .and .u64 ((IntKind.u64.wrap ((IntKind.u64.wrap ((IntKind.u64.wrap (s0_2 * 6364136223846793005)) + (IntKind.u64.wrap (wrap64 (rd s0_0 s0_1))))) + 1442695040888963407)) / 1099511627776) 255),wrap64 (s0_1 + 1),IntKind.u64.wrap ((IntKind.u64.wrap ((IntKind.u64.wrap (s0_2 * 6364136223846793005)) + (IntKind.u64.wrap (wrap64 (rd s0_0 s0_1))))) + 1442695040888963407)))) else (none)) else (if (wrap64 (s0_1 + 1)) ≤ (s0_0.length:Int) then (some (0,wrap64 (s0_1 + 1),IntKind.u64.wrap ((IntKind.u64.wrap (IntKind.u64.wrap (s0_2 * 6364136223846793005))) + 1442695040888963407))) else (some (wrap64 (Go.bits .and .u64 ((IntKind.u64.wrap ((IntKind.u64.wrap (IntKind.u64.wrap (s0_2 * 6364136223846793005))) + 1442695040888963407)) / 1099511627776) 255),wrap64 (s0_1 + 1),IntKind.u64.wrap ((IntKind.u64.wrap (IntKind.u64.wrap (s0_2 * 6364136223846793005))) + 1442695040888963407))))) = some (r1,r2,r3):=h
 clear h
 by_cases c2:s0_1 < (s0_0.length:Int)
 ·rw [if_pos c2] at H
  have c2b0:=decide_eq_true c2
  clear c2
  by_cases c3:0 ≤ s0_1
  ·rw [if_pos c3] at H
   have c3b0:=decide_eq_true c3
   clear c3
   by_cases c4:(wrap64 (s0_1 + 1)) ≤ (s0_0.length:Int)
   ·rw [if_pos c4] at H
    have c4b0:=decide_eq_true c4
    clear c4
    simp only [Option.some.injEq,Prod.mk.injEq] at H
    obtain ⟨rfl,rfl,rfl⟩:=H
    obtain ⟨ASz5_0,cSz5_0,HGz5,hgz5,HSz5_0⟩:=HI0.out
    have hcz5_0:=cellS57_0 HGz5
    have hcz5_1:=cellS57_1 HGz5
    have hcz5_2:=cellS57_2 HGz5
    have hfz5_1:=blk_frozen HGz5 1
    have hfz5_2:=blk_frozen HGz5 2
    clear HGz5 hgz5
    have p225:0 ≤ (s0_1:Int):=oD
    have q225:s0_1 < (s0_0.length:Int):=oD
    obtain ⟨ad225,e225,hx225_0⟩:=Kd.at_int HSz5_0 s0_1 p225 q225
    cases e225
    replace hx225_0:=pw_cell_below HB.out hx225_0
    replace p225:=eq_true p225
    replace q225:=eq_true q225
    go_enter Try.func76,Try.ntmps76
    go_wp2
    repeat (go_quiet (fail);try go_wp2)
    go_ret
    exact ⟨Yb,iIsS57,bH,kB⟩
   ·rw [if_neg c4] at H
    have c4b0:decide ((wrap64 (s0_1 + 1)) ≤ (s0_0.length:Int)) = false:=decide_eq_false c4
    clear c4
    simp only [Option.some.injEq,Prod.mk.injEq] at H
    obtain ⟨rfl,rfl,rfl⟩:=H
    obtain ⟨ASz6_0,cSz6_0,HGz6,hgz6,HSz6_0⟩:=HI0.out
    have hcz6_0:=cellS57_0 HGz6
    have hcz6_1:=cellS57_1 HGz6
    have hcz6_2:=cellS57_2 HGz6
    have hfz6_1:=blk_frozen HGz6 1
    have hfz6_2:=blk_frozen HGz6 2
    clear HGz6 hgz6
    have p225:0 ≤ (s0_1:Int):=oD
    have q225:s0_1 < (s0_0.length:Int):=oD
    obtain ⟨ad225,e225,hx225_0⟩:=Kd.at_int HSz6_0 s0_1 p225 q225
    cases e225
    replace hx225_0:=pw_cell_below HB.out hx225_0
    replace p225:=eq_true p225
    replace q225:=eq_true q225
    go_enter Try.func76,Try.ntmps76
    go_wp2
    repeat (go_quiet (fail);try go_wp2)
    go_ret
    exact ⟨Yb,iIsS57,bH,kB⟩
  ·rw [if_neg c3] at H
   exact absurd H (by simp)
 ·rw [if_neg c2] at H
  have c2b0:decide (s0_1 < (s0_0.length:Int)) = false:=decide_eq_false c2
  clear c2
  by_cases c7:(wrap64 (s0_1 + 1)) ≤ (s0_0.length:Int)
  ·rw [if_pos c7] at H
   have c7b0:=decide_eq_true c7
   clear c7
   simp only [Option.some.injEq,Prod.mk.injEq] at H
   obtain ⟨rfl,rfl,rfl⟩:=H
   obtain ⟨ASz8_0,cSz8_0,HGz8,hgz8,HSz8_0⟩:=HI0.out
   have hcz8_0:=cellS57_0 HGz8
   have hcz8_1:=cellS57_1 HGz8
   have hcz8_2:=cellS57_2 HGz8
   have hfz8_1:=blk_frozen HGz8 1
   have hfz8_2:=blk_frozen HGz8 2
   clear HGz8 hgz8
   go_enter Try.func76,Try.ntmps76
   go_wp2
   repeat (go_quiet (fail);try go_wp2)
   go_ret
   exact ⟨Yb,iIsS57,bH,kB⟩
  ·rw [if_neg c7] at H
   have c7b0:decide ((wrap64 (s0_1 + 1)) ≤ (s0_0.length:Int)) = false:=decide_eq_false c7
   clear c7
   simp only [Option.some.injEq,Prod.mk.injEq] at H
   obtain ⟨rfl,rfl,rfl⟩:=H
   obtain ⟨ASz9_0,cSz9_0,HGz9,hgz9,HSz9_0⟩:=HI0.out
   have hcz9_0:=cellS57_0 HGz9
   have hcz9_1:=cellS57_1 HGz9
   have hcz9_2:=cellS57_2 HGz9
   have hfz9_1:=blk_frozen HGz9 1
   have hfz9_2:=blk_frozen HGz9 2
   clear HGz9 hgz9
   go_enter Try.func76,Try.ntmps76
   go_wp2
   repeat (go_quiet (fail);try go_wp2)
   go_ret
   exact ⟨Yb,iIsS57,bH,kB⟩

end Go.Proofs.Ytmgkflkfoccgkab.QFnDisk
