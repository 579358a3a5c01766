-- Written by this session's own program (wip/x/xprint.py, over the kit's printer); Lean checks it.
import Derived.Test.YtmgkflkfoccgkabQFnDiskx0
import Derived.Test.YtmgkflkfoccgkabQFnDiskx2
import Derived.Test.YtmgkflkfoccgkabQFnDiskx6
import Derived.Test.YtmgkflkfoccgkabQFnDiskx7
namespace Go.Proofs.Ytmgkflkfoccgkab.QFnDisk
open Go.RowKit Go.Proofs.YtmgkflkfoccgkabW.PrintWords Go.Proofs.YtmgkflkfoccgkabW.PrintLast Go.Proofs.YtmgkflkfoccgkabW.PrintMore
attribute [local go_sem] max2_int min2_int max_two min_two max_three min_three max_four min_four   -- for this text's walks alone
set_option linter.unusedVariables false
set_option linter.unusedSimpArgs false

/-! ### spec_l1Cur_disk: function 42 -/
mutual
def spec_l1Cur_disk.l0:Nat → Int → List Int → Int → Int → List ByteArray → List ByteArray → Option (List ByteArray × List ByteArray × Int × Int)
 | 0,_,_,_,_,_,_=>none
 | k + 1,x4,x1000,x1001,x1002,x262000,x262001=>if x4 > 0 then ((spec_l1Cur_piece.f x1000 x1001 x1002).bind fun bt265=>((spec_PutText.f k x262000 x262001 bt265.1).bind fun bt268=>(if bt268.2.2 = true then (spec_l1Cur_disk.j1 k x4 x1000 bt265.2.1 bt265.2.2 bt268.1 bt268.2.1) else (spec_l1Cur_disk.j1 k x4 x1000 bt265.2.1 bt265.2.2 x262000 x262001)))) else ((spec_l1Cur_pick.f x1000 x1001 x1002 (wrap64 ((x262001.length:Int) + 1))).bind fun bt287=>((spec_l1Cur_pick.f x1000 bt287.2.1 bt287.2.2 17).bind fun bt290=>((spec_CrashDisk.f k x262000 x262001 bt287.1 bt290.1).bind fun bt293=>(if bt293.2.2 = true then ((spec_l1Cur_one.f x1000 bt290.2.1 bt290.2.2 4).bind fun bt301=>(spec_l1Cur_disk.j2 k bt301.1 x1000 bt301.2.1 bt301.2.2 x262000 x262001 bt293.1 bt293.2.1)) else (spec_l1Cur_disk.j2 k false x1000 bt290.2.1 bt290.2.2 x262000 x262001 bt293.1 bt293.2.1)))))
def spec_l1Cur_disk.j1:Nat → Int → List Int → Int → Int → List ByteArray → List ByteArray → Option (List ByteArray × List ByteArray × Int × Int)
 | 0,_,_,_,_,_,_=>none
 | k + 1,x4,x1000,x1001,x1002,x262000,x262001=>(spec_SyncDisk.f k x262000 x262001).bind fun bt276=>(if bt276.2.2 = true then ((spec_l1Cur_one.f x1000 x1001 x1002 3).bind fun bt284=>(if bt284.1 = true then (spec_l1Cur_disk.l0 k (wrap64 (x4 - 1)) x1000 bt284.2.1 bt284.2.2 bt276.1 bt276.2.1) else (spec_l1Cur_disk.l0 k (wrap64 (x4 - 1)) x1000 bt284.2.1 bt284.2.2 x262000 x262001))) else (spec_l1Cur_disk.l0 k (wrap64 (x4 - 1)) x1000 x1001 x1002 x262000 x262001))
def spec_l1Cur_disk.j2:Nat → Bool → List Int → Int → Int → List ByteArray → List ByteArray → List ByteArray → List ByteArray → Option (List ByteArray × List ByteArray × Int × Int)
 | 0,_,_,_,_,_,_,_,_=>none
 | k + 1,x54,x1000,x1001,x1002,x262000,x262001,x301000,x301001=>if x54 = true then (spec_l1Cur_disk.j3 k x1000 x1001 x1002 x301000 x301001) else (spec_l1Cur_disk.j3 k x1000 x1001 x1002 x262000 x262001)
def spec_l1Cur_disk.j3:Nat → List Int → Int → Int → List ByteArray → List ByteArray → Option (List ByteArray × List ByteArray × Int × Int)
 | 0,_,_,_,_,_=>none
 | k + 1,x1000,x1001,x1002,x262000,x262001=>if (x262000.length:Int) > 0 then ((spec_l1Cur_one.f x1000 x1001 x1002 6).bind fun bt304=>(if bt304.1 = true then (if 0 < (x262000.length:Int) then ((spec_l1Cur_spoilt.f k x1000 bt304.2.1 bt304.2.2 (rdOf ByteArray.empty x262000 0) (⟨#[97,0]⟩:ByteArray)).bind fun bt308=>(some ((x262000.set (0:Int).toNat bt308.1),x262001,bt308.2.1,bt308.2.2))) else (none)) else (some (x262000,x262001,bt304.2.1,bt304.2.2)))) else (some (x262000,x262001,x1001,x1002))
end
def spec_l1Cur_disk.f (k:Nat) (s0_0:List Int) (s0_1:Int) (s0_2:Int):Option (List ByteArray × List ByteArray × Int × Int):=(spec_l1Cur_pick.f s0_0 s0_1 s0_2 5).bind fun bt262=>(spec_l1Cur_disk.l0 k bt262.1 s0_0 bt262.2.1 bt262.2.2 ([]:List ByteArray) ([]:List ByteArray))
theorem spec_l1Cur_disk.mono_l:∀ k,(∀ y0 y1 y2 y3 y4 y5,LeO (spec_l1Cur_disk.l0 k y0 y1 y2 y3 y4 y5) (spec_l1Cur_disk.l0 (k + 1) y0 y1 y2 y3 y4 y5)) ∧ (∀ y0 y1 y2 y3 y4 y5,LeO (spec_l1Cur_disk.j1 k y0 y1 y2 y3 y4 y5) (spec_l1Cur_disk.j1 (k + 1) y0 y1 y2 y3 y4 y5)) ∧ (∀ y0 y1 y2 y3 y4 y5 y6 y7,LeO (spec_l1Cur_disk.j2 k y0 y1 y2 y3 y4 y5 y6 y7) (spec_l1Cur_disk.j2 (k + 1) y0 y1 y2 y3 y4 y5 y6 y7)) ∧ (∀ y0 y1 y2 y3 y4,LeO (spec_l1Cur_disk.j3 k y0 y1 y2 y3 y4) (spec_l1Cur_disk.j3 (k + 1) y0 y1 y2 y3 y4))
 | 0=>⟨fun _ _ _ _ _ _ r h=>by simp [spec_l1Cur_disk.l0] at h,fun _ _ _ _ _ _ r h=>by simp [spec_l1Cur_disk.j1] at h,fun _ _ _ _ _ _ _ _ r h=>by simp [spec_l1Cur_disk.j2] at h,fun _ _ _ _ _ r h=>by simp [spec_l1Cur_disk.j3] at h⟩
 | k + 1=>by
  obtain ⟨ih0,ih1,ih2,ih3⟩:=spec_l1Cur_disk.mono_l k
  refine ⟨?_,?_,?_,?_⟩
  ·intro y0 y1 y2 y3 y4 y5
   unfold spec_l1Cur_disk.l0
   have m0:=@spec_CrashDisk.mono
   have m1:=@spec_PutText.mono
   have m2:=@spec_SyncDisk.mono
   have m3:=@spec_l1Cur_spoilt.mono
   exact mO
  ·intro y0 y1 y2 y3 y4 y5
   unfold spec_l1Cur_disk.j1
   have m0:=@spec_CrashDisk.mono
   have m1:=@spec_PutText.mono
   have m2:=@spec_SyncDisk.mono
   have m3:=@spec_l1Cur_spoilt.mono
   exact mO
  ·intro y0 y1 y2 y3 y4 y5 y6 y7
   unfold spec_l1Cur_disk.j2
   have m0:=@spec_CrashDisk.mono
   have m1:=@spec_PutText.mono
   have m2:=@spec_SyncDisk.mono
   have m3:=@spec_l1Cur_spoilt.mono
   exact mO
  ·intro y0 y1 y2 y3 y4
   unfold spec_l1Cur_disk.j3
   have m0:=@spec_CrashDisk.mono
   have m1:=@spec_PutText.mono
   have m2:=@spec_SyncDisk.mono
   have m3:=@spec_l1Cur_spoilt.mono
   exact mO
theorem spec_l1Cur_disk.mono:∀ a0 a1 a2 k,LeO (spec_l1Cur_disk.f k a0 a1 a2) (spec_l1Cur_disk.f (k + 1) a0 a1 a2):=by
 intro a0 a1 a2 k
 obtain ⟨ih0,ih1,ih2,ih3⟩:=spec_l1Cur_disk.mono_l k
 unfold spec_l1Cur_disk.f
 have m0:=@spec_CrashDisk.mono
 have m1:=@spec_PutText.mono
 have m2:=@spec_SyncDisk.mono
 have m3:=@spec_l1Cur_spoilt.mono
 exact mO
def spec_l1Cur_disk.T5:Bool × List (List Nat × List Nat):=(true,[([],[]),([],[]),([1],[1]),([0,2,2],[0,2]),([3],[3]),([4],[4]),([4],[4]),([],[]),([7,5,3,0,1,2,3,4,5,7],[5,7]),([6,8,0,1,2,3,4,5,6,7,8],[6])])
def spec_l1Cur_disk.B5:List Nat:=[0,0,2,7,15,31,31,0,191,511]
theorem spec_l1Cur_disk.tab5:rtab .any (opsOf Try.f42 5) = spec_l1Cur_disk.T5:=by kernel_rfl
theorem spec_l1Cur_disk.bits5:waitsOk spec_l1Cur_disk.T5.2 spec_l1Cur_disk.B5 = true:=by kernel_rfl
def spec_l1Cur_disk.T11:Bool × List (List Nat × List Nat):=(true,[([],[]),([],[]),([],[]),([2],[2]),([3],[3]),([4],[4]),([1,5],[1,5]),([],[]),([7,6],[7]),([0,6,8,8],[0,6,8]),([9],[9]),([10],[10]),([10],[10]),([],[]),([13,11,9,0,1,2,3,4,5,6,7,8,9,10,11,13],[11,13]),([12,14,0,1,2,3,4,5,6,7,8,9,10,11,12,13,14],[12])])
def spec_l1Cur_disk.B11:List Nat:=[0,0,0,4,12,28,62,0,254,511,1023,2047,2047,0,12287,32767]
theorem spec_l1Cur_disk.tab11:rtab .any (opsOf Try.f42 11) = spec_l1Cur_disk.T11:=by kernel_rfl
theorem spec_l1Cur_disk.bits11:waitsOk spec_l1Cur_disk.T11.2 spec_l1Cur_disk.B11 = true:=by kernel_rfl
def spec_l1Cur_disk.T15:Bool × List (List Nat × List Nat):=(true,[([],[]),([0],[0]),([],[]),([],[]),([3],[3]),([4],[4]),([5],[5]),([2,6],[2,6]),([1,0,1,2,3,4,5,6,7],[1]),([8,7,7,0,1,2,3,4,5,6,7],[7,8])])
def spec_l1Cur_disk.B15:List Nat:=[0,1,0,0,8,24,56,124,255,511]
theorem spec_l1Cur_disk.tab15:rtab .any (opsOf Try.f42 15) = spec_l1Cur_disk.T15:=by kernel_rfl
theorem spec_l1Cur_disk.bits15:waitsOk spec_l1Cur_disk.T15.2 spec_l1Cur_disk.B15 = true:=by kernel_rfl
set_option maxHeartbeats 8000000 in
set_option maxRecDepth 100000 in
theorem spec_l1Cur_disk.calls (k:Nat) (g:Nat) (s0_0:List Int) (s0_1:Int) (s0_2:Int) (r1:List ByteArray) (r2:List ByteArray) (r3:Int) (r4:Int) (w0 w:World) (hI:IsS57 w0 w g s0_0 s0_1 s0_2) (hB:Below w0.heap.size w0 w) (h:spec_l1Cur_disk.f k s0_0 s0_1 s0_2 = some (r1,r2,r3,r4)) :
  Calls Try.prog 42 #[.pointer (some ⟨g,0,none⟩)] w fun e w'=>∃ v0_ v1_:Value,e = .returned (.agg #[v0_,v1_]) ∧ Kd.R Kd.string 9 w' w.heap.size (fun k_=>some k_ ≠ (v1_:Value).ownBlock) v0_ r1 ∧ Kd.R Kd.string 9 w' w.heap.size (fun k_=>some k_ ≠ (v0_:Value).ownBlock) v1_ r2 ∧ IsS57 w0 w' g s0_0 r3 r4 ∧ Below w0.heap.size w0 w' ∧ KeepBut w w' g none:=by
 have hu26:=Try.underlying26
 have HI0:=Aside0.mk hI
 have HK:=Aside0.mk (KeepBut.refl w g none)
 have HL:=Aside0.mk hB.size
 clear hI
 have HW0:=Aside0.mk hB.size
 have HB:=Aside0.mk hB
 clear hB
 have H:((spec_l1Cur_pick.f s0_0 s0_1 s0_2 5).bind fun bt262=>(spec_l1Cur_disk.l0 k bt262.1 s0_0 bt262.2.1 bt262.2.2 ([]:List ByteArray) ([]:List ByteArray))) = some (r1,r2,r3,r4):=h
 clear h
 replace H:=Option.bind_eq_some_iff.mp H
 obtain ⟨⟨t262,t263,t264⟩,A20,H⟩:=H
 replace H:(spec_l1Cur_disk.l0 k t262 s0_0 t263 t264 ([]:List ByteArray) ([]:List ByteArray)) = some (r1,r2,r3,r4):=H
 have A2:=Aside0.mk A20
 clear A20
 have H':=Aside0.mk H
 clear H
 go_enter Try.func42,Try.ntmps42
 go_wp2_with (first|((with_reducible refine gate_dst (N:=2) rfl ?_);refine box_event ?hg (N:=2) ?hd (cs:=#[.slice none 0 0,.slice none 0 0]) (t:=26) ?hr ?_;(case hd=>rfl);(case hg=>rfl);(case hr=>exact Yg);intro gb260 hg w3 hbox hb;replace HB:=Aside0.mk (below_step bH hb);have BK260:=Aside0.mk (hbox);have GW260:=Aside0.mk ((by rw [hg];exact (keep_size (w:=w) (g:=g) (row:=none) kB):w.heap.size ≤ gb260));have GE260:=Aside0.mk ((Nat.le_trans HW0.out (by rw [hg];exact (keep_size (w:=w) (g:=g) (row:=none) kB):w.heap.size ≤ gb260):w0.heap.size ≤ gb260));replace HK:=Aside0.mk (KeepBut.trans kB (KeepBut.of_below hb g none) (.inl rfl));have NB0_260:=Aside0.mk ((by rw [hg];exact Nat.ne_of_lt (IsS57.lt (show IsS57 w0 _ g s0_0 s0_1 s0_2 from iIsS57)):g ≠ gb260));have NB260_0:=Aside0.mk ((by rw [hg];exact Nat.ne_of_gt (IsS57.lt (show IsS57 w0 _ g s0_0 s0_1 s0_2 from iIsS57)):gb260 ≠ g));replace HI0:=Aside0.mk (IsS57.below iIsS57 hb);clear hb hbox hg)|((with_reducible refine gate_dst (N:=3) rfl ?_);refine box_event ?hg (N:=3) ?hd (cs:=#[.slice none 0 0,.slice none 0 0]) (t:=26) ?hr ?_;(case hd=>rfl);(case hg=>rfl);(case hr=>exact Yg);intro gb261 hg w4 hbox hb;replace HB:=Aside0.mk (below_step bH hb);have BK261:=Aside0.mk (hbox);have GW261:=Aside0.mk ((by rw [hg];exact (keep_size (w:=w) (g:=g) (row:=none) kB):w.heap.size ≤ gb261));have GE261:=Aside0.mk ((Nat.le_trans HW0.out (by rw [hg];exact (keep_size (w:=w) (g:=g) (row:=none) kB):w.heap.size ≤ gb261):w0.heap.size ≤ gb261));replace HK:=Aside0.mk (KeepBut.trans kB (KeepBut.of_below hb g none) (.inl rfl));have NB260_261:=Aside0.mk ((nL BK260:gb260 ≠ gb261));have NB261_260:=Aside0.mk ((nG BK260:gb261 ≠ gb260));replace BK260:=Aside0.mk (blk_below (bB BK260) hb);have NB0_261:=Aside0.mk ((by rw [hg];exact Nat.ne_of_lt (IsS57.lt (show IsS57 w0 _ g s0_0 s0_1 s0_2 from iIsS57)):g ≠ gb261));have NB261_0:=Aside0.mk ((by rw [hg];exact Nat.ne_of_gt (IsS57.lt (show IsS57 w0 _ g s0_0 s0_1 s0_2 from iIsS57)):gb261 ≠ g));replace HI0:=Aside0.mk (IsS57.below iIsS57 hb);clear hb hbox hg)|((with_reducible refine gate_callee (f:=43) rfl ?_);refine goesL_ (some 12) rfl rfl Try.func43 (by kernel_rfl) rfl #[.pointer (some ⟨g,0,none⟩),.int .i64 5] rfl Ya ?_;(with_reducible refine (spec_l1Cur_pick.calls g s0_0 s0_1 s0_2 5 t262 t263 t264 w0 _ ?side1 ?side2 A2.out).mono ?_);(case side1=>exact iIsS57);(case side2=>exact bH);rintro e w5 ⟨rfl,hi,hb,hk⟩;refine ⟨_,rfl,?_⟩;replace BK260:=Aside0.mk (KeepBut.blk hk (g':=gb260) (o:=.cells #[.slice none 0 0,.slice none 0 0] 26 (0,0)) (bB BK260) NB260_0.out (by simp));replace BK261:=Aside0.mk (KeepBut.blk hk (g':=gb261) (o:=.cells #[.slice none 0 0,.slice none 0 0] 26 (0,0)) (bB BK261) NB261_0.out (by simp));replace HK:=Aside0.mk (KeepBut.trans kB hk (.inl rfl));replace HB:=Aside0.mk (hb);replace HI0:=Aside0.mk (hi);(try clear hb);(try clear hb2);(try clear hk);(try clear hi)))
 go_loopg [4] k (fun kq v4 w'=>∃ (x4_1:Int) (x1001_1:Int) (x1002_1:Int) (x262000_1:List ByteArray) (x262001_1:List ByteArray) (u262000:Value) (u262001:Value),v4 = .int .i64 x4_1 ∧ Aside0 (spec_l1Cur_disk.l0 kq x4_1 s0_0 x1001_1 x1002_1 x262000_1 x262001_1 = some (r1,r2,r3,r4)) ∧ Aside0 (kq ≤ k) ∧ Aside0 (Kd.R Kd.string 9 w' w.heap.size (fun k_=>some k_ ≠ (u262001:Value).ownBlock) u262000 x262000_1) ∧ Aside0 (Kd.R Kd.string 9 w' w.heap.size (fun k_=>some k_ ≠ (u262000:Value).ownBlock) u262001 x262001_1) ∧ Aside0 (w'.heap[gb260]? = some (.cells #[(.slice none 0 0),(.slice none 0 0)] 26 (0,0))) ∧ Aside0 (w'.heap[gb261]? = some (.cells #[u262000,u262001] 26 (0,0))) ∧ Aside0 (IsS57 w0 w' g s0_0 x1001_1 x1002_1) ∧ Aside0 (KeepBut w w' g none) ∧ Aside0 (Below w0.heap.size w0 w'))
 case atStart=>exact ⟨(t262),(t263),(t264),(([]:List ByteArray)),(([]:List ByteArray)),(.slice none 0 0),(.slice none 0 0),Yh,H',⟨Nat.le_refl _⟩,⟨Yd⟩,⟨Yd⟩,⟨ZA⟩,⟨Zz⟩,⟨iIsS57⟩,⟨kB⟩,⟨bH⟩⟩
 case round =>
  clear H'
  try clear p2
  try clear c4
  obtain ⟨x4_1,x1001_1,x1002_1,x262000_1,x262001_1,u262000,u262001,rfl,HA,HK1,HO_262000,HO_262001,BK260,BK261,HI0,HK,HB⟩:=hrel
  cases gk with
  | zero=>exact absurd HA.out (by simp [spec_l1Cur_disk.l0])
  | succ k1 =>
   have H:=HA.out
   clear HA
   simp only [spec_l1Cur_disk.l0] at H
   by_cases c6:x4_1 > 0
   ·rw [if_pos c6] at H
    have c6b0:decide (0 < x4_1) = true:=decide_eq_true c6
    clear c6
    replace H:=Option.bind_eq_some_iff.mp H
    obtain ⟨⟨t265,t266,t267⟩,A70,H⟩:=H
    replace H:((spec_PutText.f k1 x262000_1 x262001_1 t265).bind fun bt268=>(if bt268.2.2 = true then (spec_l1Cur_disk.j1 k1 x4_1 s0_0 t266 t267 bt268.1 bt268.2.1) else (spec_l1Cur_disk.j1 k1 x4_1 s0_0 t266 t267 x262000_1 x262001_1))) = some (r1,r2,r3,r4):=H
    have A7:=Aside0.mk A70
    clear A70
    replace H:=Option.bind_eq_some_iff.mp H
    obtain ⟨⟨t268,t271,t274⟩,A80,H⟩:=H
    replace H:(if t274 = true then (spec_l1Cur_disk.j1 k1 x4_1 s0_0 t266 t267 t268 t271) else (spec_l1Cur_disk.j1 k1 x4_1 s0_0 t266 t267 x262000_1 x262001_1)) = some (r1,r2,r3,r4):=H
    have A8:=Aside0.mk A80
    clear A80
    have HC9:=Aside0.mk H
    clear H
    obtain ⟨Ao10,co10,eo10⟩:=Kd.R_slice HO_262000.out
    subst eo10
    obtain ⟨Ao11,co11,eo11⟩:=Kd.R_slice HO_262001.out
    subst eo11
    try go_wp2
    replace HO_262000:=Aside0.mk (Kd.R_drew HO_262000.out);replace HO_262001:=Aside0.mk (Kd.R_drew HO_262001.out);replace BK260:=Aside0.mk (blk_drew BK260.out);replace BK261:=Aside0.mk (blk_drew BK261.out);replace HI0:=Aside0.mk (IsS57.drew HI0.out);replace HK:=Aside0.mk (keep_drew HK.out);replace HB:=Aside0.mk (below_drew1 HB.out)
    refine start_ (n:=10) (S:=fun w'=>w'.cell? ⟨gb261,0,none⟩ = some (.slice Ao10 x262000_1.length co10) ∧ w'.cell? ⟨gb261,1,none⟩ = some (.slice Ao11 x262001_1.length co11)) (ds:=[]) #[false,false,false,false,false,false,false,false,false,false] (by kernel_rfl) rfl rfl ⟨(blk_cell BK261.out 0).trans rfl,(blk_cell BK261.out 1).trans rfl⟩ (fun hHeld=>?_);refine with_tabW spec_l1Cur_disk.tab5 spec_l1Cur_disk.bits5 (fun HT_ HW_=>?_)
    generalize wr.drew = w12 at HO_262000 HO_262001 BK260 BK261 HI0 HK HB hHeld ⊢
    refine pU (i:=1) (N:=some 19) #[false,true,false,false,false,false,false,false,false,false] (any_of HT_.out (by kernel_rfl)) ?_
    refine take_ (i:=0) (N:=some 18) (v:=?_) (a':=?_) #[true,true,false,false,false,false,false,false,false,false] rfl rfl (take_ofW HT_.out HW_.out (by kernel_rfl)) (fun _ _ _ h=>h) (Or.inl ⟨by rfl,?_⟩) hHeld ?_ ?_
    rotate_left
    ·rintro w' ⟨s0,s1⟩
     go_simp
     with_reducible rfl
    rotate_left
    ·simp only [Act.put,List.setIfInBounds_toArray,List.set_cons_zero,List.set_cons_succ,i64_w,i32_w]
     rfl
    refine join_ (σ:=Value × Value × Nat) 2 #[true,true,true,true,true,true,true,true,false,false] (fun s_=>[(20,.string t265),(21,.tuple #[.agg #[s_.1,s_.2.1],.bool t274]),(5,.pointer (some ⟨s_.2.2,0,none⟩)),(17,.tuple #[.agg #[s_.1,s_.2.1],.bool t274]),(22,.agg #[s_.1,s_.2.1]),(23,.bool t274)]) (fun s_ w'=>(w'.cell? ⟨gb261,0,none⟩ = some (.slice Ao10 x262000_1.length co10) ∧ w'.cell? ⟨gb261,1,none⟩ = some (.slice Ao11 x262001_1.length co11)) ∧ (Kd.R Kd.string 9 w' w.heap.size (fun k_=>some k_ ≠ (s_.2.1:Value).ownBlock ∧ some k_ ≠ (.slice Ao10 x262000_1.length co10:Value).ownBlock ∧ some k_ ≠ (.slice Ao11 x262001_1.length co11:Value).ownBlock) s_.1 t268) ∧ (Kd.R Kd.string 9 w' w.heap.size (fun k_=>some k_ ≠ (s_.1:Value).ownBlock ∧ some k_ ≠ (.slice Ao10 x262000_1.length co10:Value).ownBlock ∧ some k_ ≠ (.slice Ao11 x262001_1.length co11:Value).ownBlock) s_.2.1 t271) ∧ (Kd.R Kd.string 9 w' w.heap.size (fun k_=>some k_ ≠ (s_.1:Value).ownBlock ∧ some k_ ≠ (s_.2.1:Value).ownBlock ∧ some k_ ≠ (.slice Ao11 x262001_1.length co11:Value).ownBlock) (.slice Ao10 x262000_1.length co10) x262000_1) ∧ (Kd.R Kd.string 9 w' w.heap.size (fun k_=>some k_ ≠ (s_.1:Value).ownBlock ∧ some k_ ≠ (s_.2.1:Value).ownBlock ∧ some k_ ≠ (.slice Ao10 x262000_1.length co10:Value).ownBlock) (.slice Ao11 x262001_1.length co11) x262001_1) ∧ (w'.heap[gb260]? = some (.cells #[.slice none 0 0,.slice none 0 0] 26 (0,0))) ∧ (w'.heap[gb261]? = some (.cells #[.slice Ao10 x262000_1.length co10,.slice Ao11 x262001_1.length co11] 26 (0,0))) ∧ (w'.heap[s_.2.2]? = some (.cells #[.slice none 0 0,.slice none 0 0] 26 (0,0))) ∧ (w.heap.size ≤ s_.2.2) ∧ (w0.heap.size ≤ s_.2.2) ∧ (g ≠ s_.2.2) ∧ (s_.2.2 ≠ g) ∧ (gb260 ≠ s_.2.2) ∧ (s_.2.2 ≠ gb260) ∧ (gb261 ≠ s_.2.2) ∧ (s_.2.2 ≠ gb261) ∧ (IsS57 w0 w' g s0_0 t266 t267) ∧ (KeepBut w w' g none) ∧ (Below w0.heap.size w0 w')) ?_ ?_
    rotate_left
    ·intro hCont
     refine two_ (i:=2) (j:=7) (Ni:=some 20) (Nj:=some 5) #[true,true,true,false,false,false,false,false,false,false] #[true,true,false,false,false,false,false,true,false,false] rfl rfl rfl rfl (two_of HT_.out (by kernel_rfl)) (by decide) (by decide) (fun K hK=>?_) (fun K hK=>?_)
     ·skip
      refine goes_ Try.func54 (by kernel_rfl) rfl #[.pointer (some ⟨g,0,none⟩)] (by rfl) rfl rfl Ya ?_
      with_reducible refine (spec_l1Cur_piece.calls g s0_0 x1001_1 x1002_1 t265 t266 t267 w0 _ ?side1 ?side2 A7.out).mono ?_
      (case side1=>exact iIsS57)
      (case side2=>exact bH)
      rintro e w13 ⟨rfl,hi,hb,hk⟩
      refine ⟨_,rfl,?_⟩
      replace HO_262000:=Aside0.mk (Kd.R_mono (Kd.R_keep (IsS57.apart (show IsS57 w0 _ g s0_0 x1001_1 x1002_1 from iIsS57) (rR HO_262000) (by decide)) hk (fun _ h=>h.2)) (fun _ h=>h.1));replace HO_262001:=Aside0.mk (Kd.R_mono (Kd.R_keep (IsS57.apart (show IsS57 w0 _ g s0_0 x1001_1 x1002_1 from iIsS57) (rR HO_262001) (by decide)) hk (fun _ h=>h.2)) (fun _ h=>h.1));replace BK260:=Aside0.mk (KeepBut.blk hk (g':=gb260) (o:=.cells #[.slice none 0 0,.slice none 0 0] 26 (0,0)) (bB BK260) NB260_0.out (by simp));replace BK261:=Aside0.mk (KeepBut.blk hk (g':=gb261) (o:=.cells #[.slice Ao10 x262000_1.length co10,.slice Ao11 x262001_1.length co11] 26 (0,0)) (bB BK261) NB261_0.out (by simp));replace HK:=Aside0.mk (KeepBut.trans kB hk (.inl rfl));replace HB:=Aside0.mk (hb);replace HI0:=Aside0.mk (hi)
      (try clear hb)
      (try clear hb2)
      (try clear hk)
      (try clear hi)
      refine hK.out _ _ ⟨(blk_cell BK261.out 0).trans rfl,(blk_cell BK261.out 1).trans rfl⟩ (fun hHeld=>?_)
      clear hK K
      refine nM (N:=some 20) ?_
      refine two_ (i:=3) (j:=7) (Ni:=some 21) (Nj:=some 5) #[true,true,true,true,false,false,false,false,false,false] #[true,true,true,false,false,false,false,true,false,false] rfl rfl rfl rfl (two_of HT_.out (by kernel_rfl)) (by decide) (by decide) (fun K hK=>?_) (fun K hK=>?_)
      ·skip
       refine goes_ Try.func18 (by kernel_rfl) rfl #[.agg #[.slice Ao10 x262000_1.length co10,.slice Ao11 x262001_1.length co11],.string t265] (by rfl) rfl rfl Ya ?_
       with_reducible refine (spec_PutText.calls k1 _ _ x262000_1 _ _ x262001_1 t265 t268 t271 t274 _ ?side1 ?side2 ?side3 ?side4 A8.out).mono ?_
       (case side1=>repeat (first|exact (Kd.R_reads' HO_262000.out).2.2|(with_reducible refine Kd.C_alloc ?_ _)|(with_reducible refine Kd.C_drewN ?_ _)|(with_reducible refine Kd.C_drew ?_)))
       (case side2=>exact ZF)
       (case side3=>repeat (first|exact (Kd.R_reads' HO_262001.out).2.2|(with_reducible refine Kd.C_alloc ?_ _)|(with_reducible refine Kd.C_drewN ?_ _)|(with_reducible refine Kd.C_drew ?_)))
       (case side4=>exact ZE)
       rintro e w14 ⟨v269,v272,rfl,ho0,ho1,hb⟩
       refine ⟨_,rfl,?_⟩
       have HO270:=Aside0.mk (Kd.R_lower (Kd.R_new' (Kd.R_new' ho0 (Kd.R_lt (rR HO_262000))) (Kd.R_lt (rR HO_262001))) (keep_size (w:=w) (g:=g) (row:=none) kB));have HO273:=Aside0.mk (Kd.R_lower (Kd.R_new' (Kd.R_new' ho1 (Kd.R_lt (rR HO_262000))) (Kd.R_lt (rR HO_262001))) (keep_size (w:=w) (g:=g) (row:=none) kB));replace HO_262000:=Aside0.mk (Kd.R_mono (Kd.R_told (Kd.R_told (Kd.R_old (rR HO_262000) hb) (Kd.R_base ho0)) (Kd.R_base ho1)) (fun _ h_=>h_.1));replace HO_262001:=Aside0.mk (Kd.R_mono (Kd.R_told (Kd.R_told (Kd.R_old (rR HO_262001) hb) (Kd.R_base ho0)) (Kd.R_base ho1)) (fun _ h_=>h_.1));replace BK260:=Aside0.mk (blk_below (bB BK260) hb);replace BK261:=Aside0.mk (blk_below (bB BK261) hb);replace HK:=Aside0.mk (KeepBut.trans kB (KeepBut.of_below hb g none) (.inl rfl));replace HB:=Aside0.mk (below_step bH hb);replace HI0:=Aside0.mk (IsS57.below iIsS57 hb)
       (try clear hb)
       (try clear hb2)
       (try clear hk)
       (try clear hi)
       (try clear ho0)
       (try clear ho1)
       refine hK.out _ _ ⟨(blk_cell BK261.out 0).trans rfl,(blk_cell BK261.out 1).trans rfl⟩ (fun hHeld=>?_)
       clear hK K
       refine nM (N:=some 21) ?_
       refine pU (i:=4) (N:=some 17) #[true,true,true,true,true,false,false,false,false,false] (any_of HT_.out (by kernel_rfl)) ?_
       refine pU (i:=5) (N:=some 22) #[true,true,true,true,true,true,false,false,false,false] (any_of HT_.out (by kernel_rfl)) ?_
       refine pU (i:=6) (N:=some 23) #[true,true,true,true,true,true,true,false,false,false] (any_of HT_.out (by kernel_rfl)) ?_
       refine one_ (i:=7) (N:=some 5) #[true,true,true,true,true,true,true,true,false,false] rfl rfl (one_of HT_.out (by kernel_rfl)) (by decide) (fun K hK=>?_)
       refine box_step ?hg (N:=5) ?hd (cs:=#[.slice none 0 0,.slice none 0 0]) (t:=26) ?hr ?_;(case hd=>rfl);(case hg=>rfl);(case hr=>exact Yg)
       intro gb275 hg w15 hbox hb
       replace HO_262000:=Aside0.mk (Kd.R_below (rR HO_262000) hb);replace HO_262001:=Aside0.mk (Kd.R_below (rR HO_262001) hb);replace HO270:=Aside0.mk (Kd.R_below (rR HO270) hb);replace HO273:=Aside0.mk (Kd.R_below (rR HO273) hb);replace HB:=Aside0.mk (below_step bH hb);have BK275:=Aside0.mk (hbox);have GW275:=Aside0.mk ((by rw [hg];exact (keep_size (w:=w) (g:=g) (row:=none) kB):w.heap.size ≤ gb275));have GE275:=Aside0.mk ((Nat.le_trans HW0.out (by rw [hg];exact (keep_size (w:=w) (g:=g) (row:=none) kB):w.heap.size ≤ gb275):w0.heap.size ≤ gb275));replace HK:=Aside0.mk (KeepBut.trans kB (KeepBut.of_below hb g none) (.inl rfl));have NB260_275:=Aside0.mk ((nL BK260:gb260 ≠ gb275));have NB275_260:=Aside0.mk ((nG BK260:gb275 ≠ gb260));replace BK260:=Aside0.mk (blk_below (bB BK260) hb);have NB261_275:=Aside0.mk ((nL BK261:gb261 ≠ gb275));have NB275_261:=Aside0.mk ((nG BK261:gb275 ≠ gb261));replace BK261:=Aside0.mk (blk_below (bB BK261) hb);have NB0_275:=Aside0.mk ((by rw [hg];exact Nat.ne_of_lt (IsS57.lt (show IsS57 w0 _ g s0_0 t266 t267 from iIsS57)):g ≠ gb275));have NB275_0:=Aside0.mk ((by rw [hg];exact Nat.ne_of_gt (IsS57.lt (show IsS57 w0 _ g s0_0 t266 t267 from iIsS57)):gb275 ≠ g));replace HI0:=Aside0.mk (IsS57.below iIsS57 hb)
       clear hb hbox hg
       refine hK.out _ _ ⟨(blk_cell BK261.out 0).trans rfl,(blk_cell BK261.out 1).trans rfl⟩ (fun hHeld=>?_)
       clear hK K
       refine nM (N:=some 5) ?_
       exact norm_ Yi (hCont (v269,v272,gb275) _ ⟨hHeld,ZD,ZC,Ys,Yr,(bB BK260),(bB BK261),(bB BK275),GW275.out,GE275.out,NB0_275.out,NB275_0.out,NB260_275.out,NB275_260.out,NB261_275.out,NB275_261.out,iIsS57,kB,bH⟩)
      ·skip
       refine box_step ?hg (N:=5) ?hd (cs:=#[.slice none 0 0,.slice none 0 0]) (t:=26) ?hr ?_;(case hd=>rfl);(case hg=>rfl);(case hr=>exact Yg)
       intro gb275 hg w14 hbox hb
       replace HO_262000:=Aside0.mk (Kd.R_below (rR HO_262000) hb);replace HO_262001:=Aside0.mk (Kd.R_below (rR HO_262001) hb);replace HB:=Aside0.mk (below_step bH hb);have BK275:=Aside0.mk (hbox);have GW275:=Aside0.mk ((by rw [hg];exact (keep_size (w:=w) (g:=g) (row:=none) kB):w.heap.size ≤ gb275));have GE275:=Aside0.mk ((Nat.le_trans HW0.out (by rw [hg];exact (keep_size (w:=w) (g:=g) (row:=none) kB):w.heap.size ≤ gb275):w0.heap.size ≤ gb275));replace HK:=Aside0.mk (KeepBut.trans kB (KeepBut.of_below hb g none) (.inl rfl));have NB260_275:=Aside0.mk ((nL BK260:gb260 ≠ gb275));have NB275_260:=Aside0.mk ((nG BK260:gb275 ≠ gb260));replace BK260:=Aside0.mk (blk_below (bB BK260) hb);have NB261_275:=Aside0.mk ((nL BK261:gb261 ≠ gb275));have NB275_261:=Aside0.mk ((nG BK261:gb275 ≠ gb261));replace BK261:=Aside0.mk (blk_below (bB BK261) hb);have NB0_275:=Aside0.mk ((by rw [hg];exact Nat.ne_of_lt (IsS57.lt (show IsS57 w0 _ g s0_0 t266 t267 from iIsS57)):g ≠ gb275));have NB275_0:=Aside0.mk ((by rw [hg];exact Nat.ne_of_gt (IsS57.lt (show IsS57 w0 _ g s0_0 t266 t267 from iIsS57)):gb275 ≠ g));replace HI0:=Aside0.mk (IsS57.below iIsS57 hb)
       clear hb hbox hg
       refine hK.out _ _ ⟨(blk_cell BK261.out 0).trans rfl,(blk_cell BK261.out 1).trans rfl⟩ (fun hHeld=>?_)
       clear hK K
       refine nM (N:=some 5) ?_
       refine one_ (i:=3) (N:=some 21) #[true,true,true,true,false,false,false,true,false,false] rfl rfl (one_of HT_.out (by kernel_rfl)) (by decide) (fun K hK=>?_)
       refine goes_ Try.func18 (by kernel_rfl) rfl #[.agg #[.slice Ao10 x262000_1.length co10,.slice Ao11 x262001_1.length co11],.string t265] (by rfl) rfl rfl Ya ?_
       with_reducible refine (spec_PutText.calls k1 _ _ x262000_1 _ _ x262001_1 t265 t268 t271 t274 _ ?side1 ?side2 ?side3 ?side4 A8.out).mono ?_
       (case side1=>repeat (first|exact (Kd.R_reads' HO_262000.out).2.2|(with_reducible refine Kd.C_alloc ?_ _)|(with_reducible refine Kd.C_drewN ?_ _)|(with_reducible refine Kd.C_drew ?_)))
       (case side2=>exact ZF)
       (case side3=>repeat (first|exact (Kd.R_reads' HO_262001.out).2.2|(with_reducible refine Kd.C_alloc ?_ _)|(with_reducible refine Kd.C_drewN ?_ _)|(with_reducible refine Kd.C_drew ?_)))
       (case side4=>exact ZE)
       rintro e w15 ⟨v269,v272,rfl,ho0,ho1,hb⟩
       refine ⟨_,rfl,?_⟩
       have HO270:=Aside0.mk (Kd.R_lower (Kd.R_new' (Kd.R_new' ho0 (Kd.R_lt (rR HO_262000))) (Kd.R_lt (rR HO_262001))) (keep_size (w:=w) (g:=g) (row:=none) kB));have HO273:=Aside0.mk (Kd.R_lower (Kd.R_new' (Kd.R_new' ho1 (Kd.R_lt (rR HO_262000))) (Kd.R_lt (rR HO_262001))) (keep_size (w:=w) (g:=g) (row:=none) kB));replace HO_262000:=Aside0.mk (Kd.R_mono (Kd.R_told (Kd.R_told (Kd.R_old (rR HO_262000) hb) (Kd.R_base ho0)) (Kd.R_base ho1)) (fun _ h_=>h_.1));replace HO_262001:=Aside0.mk (Kd.R_mono (Kd.R_told (Kd.R_told (Kd.R_old (rR HO_262001) hb) (Kd.R_base ho0)) (Kd.R_base ho1)) (fun _ h_=>h_.1));replace BK260:=Aside0.mk (blk_below (bB BK260) hb);replace BK261:=Aside0.mk (blk_below (bB BK261) hb);replace BK275:=Aside0.mk (blk_below (bB BK275) hb);replace HK:=Aside0.mk (KeepBut.trans kB (KeepBut.of_below hb g none) (.inl rfl));replace HB:=Aside0.mk (below_step bH hb);replace HI0:=Aside0.mk (IsS57.below iIsS57 hb)
       (try clear hb)
       (try clear hb2)
       (try clear hk)
       (try clear hi)
       (try clear ho0)
       (try clear ho1)
       refine hK.out _ _ ⟨(blk_cell BK261.out 0).trans rfl,(blk_cell BK261.out 1).trans rfl⟩ (fun hHeld=>?_)
       clear hK K
       refine nM (N:=some 21) ?_
       refine pU (i:=4) (N:=some 17) #[true,true,true,true,true,false,false,true,false,false] (any_of HT_.out (by kernel_rfl)) ?_
       refine pU (i:=5) (N:=some 22) #[true,true,true,true,true,true,false,true,false,false] (any_of HT_.out (by kernel_rfl)) ?_
       refine pU (i:=6) (N:=some 23) #[true,true,true,true,true,true,true,true,false,false] (any_of HT_.out (by kernel_rfl)) ?_
       exact norm_ Yi (hCont (v269,v272,gb275) _ ⟨hHeld,ZD,ZC,Ys,Yr,(bB BK260),(bB BK261),(bB BK275),GW275.out,GE275.out,NB0_275.out,NB275_0.out,NB260_275.out,NB275_260.out,NB261_275.out,NB275_261.out,iIsS57,kB,bH⟩)
     ·skip
      refine box_step ?hg (N:=5) ?hd (cs:=#[.slice none 0 0,.slice none 0 0]) (t:=26) ?hr ?_;(case hd=>rfl);(case hg=>rfl);(case hr=>exact Yg)
      intro gb275 hg w13 hbox hb
      replace HO_262000:=Aside0.mk (Kd.R_below (rR HO_262000) hb);replace HO_262001:=Aside0.mk (Kd.R_below (rR HO_262001) hb);replace HB:=Aside0.mk (below_step bH hb);have BK275:=Aside0.mk (hbox);have GW275:=Aside0.mk ((by rw [hg];exact (keep_size (w:=w) (g:=g) (row:=none) kB):w.heap.size ≤ gb275));have GE275:=Aside0.mk ((Nat.le_trans HW0.out (by rw [hg];exact (keep_size (w:=w) (g:=g) (row:=none) kB):w.heap.size ≤ gb275):w0.heap.size ≤ gb275));replace HK:=Aside0.mk (KeepBut.trans kB (KeepBut.of_below hb g none) (.inl rfl));have NB260_275:=Aside0.mk ((nL BK260:gb260 ≠ gb275));have NB275_260:=Aside0.mk ((nG BK260:gb275 ≠ gb260));replace BK260:=Aside0.mk (blk_below (bB BK260) hb);have NB261_275:=Aside0.mk ((nL BK261:gb261 ≠ gb275));have NB275_261:=Aside0.mk ((nG BK261:gb275 ≠ gb261));replace BK261:=Aside0.mk (blk_below (bB BK261) hb);have NB0_275:=Aside0.mk ((by rw [hg];exact Nat.ne_of_lt (IsS57.lt (show IsS57 w0 _ g s0_0 x1001_1 x1002_1 from iIsS57)):g ≠ gb275));have NB275_0:=Aside0.mk ((by rw [hg];exact Nat.ne_of_gt (IsS57.lt (show IsS57 w0 _ g s0_0 x1001_1 x1002_1 from iIsS57)):gb275 ≠ g));replace HI0:=Aside0.mk (IsS57.below iIsS57 hb)
      clear hb hbox hg
      refine hK.out _ _ ⟨(blk_cell BK261.out 0).trans rfl,(blk_cell BK261.out 1).trans rfl⟩ (fun hHeld=>?_)
      clear hK K
      refine nM (N:=some 5) ?_
      refine one_ (i:=2) (N:=some 20) #[true,true,true,false,false,false,false,true,false,false] rfl rfl (one_of HT_.out (by kernel_rfl)) (by decide) (fun K hK=>?_)
      refine goes_ Try.func54 (by kernel_rfl) rfl #[.pointer (some ⟨g,0,none⟩)] (by rfl) rfl rfl Ya ?_
      with_reducible refine (spec_l1Cur_piece.calls g s0_0 x1001_1 x1002_1 t265 t266 t267 w0 _ ?side1 ?side2 A7.out).mono ?_
      (case side1=>exact iIsS57)
      (case side2=>exact bH)
      rintro e w14 ⟨rfl,hi,hb,hk⟩
      refine ⟨_,rfl,?_⟩
      replace HO_262000:=Aside0.mk (Kd.R_mono (Kd.R_keep (IsS57.apart (show IsS57 w0 _ g s0_0 x1001_1 x1002_1 from iIsS57) (rR HO_262000) (by decide)) hk (fun _ h=>h.2)) (fun _ h=>h.1));replace HO_262001:=Aside0.mk (Kd.R_mono (Kd.R_keep (IsS57.apart (show IsS57 w0 _ g s0_0 x1001_1 x1002_1 from iIsS57) (rR HO_262001) (by decide)) hk (fun _ h=>h.2)) (fun _ h=>h.1));replace BK260:=Aside0.mk (KeepBut.blk hk (g':=gb260) (o:=.cells #[.slice none 0 0,.slice none 0 0] 26 (0,0)) (bB BK260) NB260_0.out (by simp));replace BK261:=Aside0.mk (KeepBut.blk hk (g':=gb261) (o:=.cells #[.slice Ao10 x262000_1.length co10,.slice Ao11 x262001_1.length co11] 26 (0,0)) (bB BK261) NB261_0.out (by simp));replace BK275:=Aside0.mk (KeepBut.blk hk (g':=gb275) (o:=.cells #[.slice none 0 0,.slice none 0 0] 26 (0,0)) (bB BK275) NB275_0.out (by simp));replace HK:=Aside0.mk (KeepBut.trans kB hk (.inl rfl));replace HB:=Aside0.mk (hb);replace HI0:=Aside0.mk (hi)
      (try clear hb)
      (try clear hb2)
      (try clear hk)
      (try clear hi)
      refine hK.out _ _ ⟨(blk_cell BK261.out 0).trans rfl,(blk_cell BK261.out 1).trans rfl⟩ (fun hHeld=>?_)
      clear hK K
      refine nM (N:=some 20) ?_
      refine one_ (i:=3) (N:=some 21) #[true,true,true,true,false,false,false,true,false,false] rfl rfl (one_of HT_.out (by kernel_rfl)) (by decide) (fun K hK=>?_)
      refine goes_ Try.func18 (by kernel_rfl) rfl #[.agg #[.slice Ao10 x262000_1.length co10,.slice Ao11 x262001_1.length co11],.string t265] (by rfl) rfl rfl Ya ?_
      with_reducible refine (spec_PutText.calls k1 _ _ x262000_1 _ _ x262001_1 t265 t268 t271 t274 _ ?side1 ?side2 ?side3 ?side4 A8.out).mono ?_
      (case side1=>repeat (first|exact (Kd.R_reads' HO_262000.out).2.2|(with_reducible refine Kd.C_alloc ?_ _)|(with_reducible refine Kd.C_drewN ?_ _)|(with_reducible refine Kd.C_drew ?_)))
      (case side2=>exact ZF)
      (case side3=>repeat (first|exact (Kd.R_reads' HO_262001.out).2.2|(with_reducible refine Kd.C_alloc ?_ _)|(with_reducible refine Kd.C_drewN ?_ _)|(with_reducible refine Kd.C_drew ?_)))
      (case side4=>exact ZE)
      rintro e w15 ⟨v269,v272,rfl,ho0,ho1,hb⟩
      refine ⟨_,rfl,?_⟩
      have HO270:=Aside0.mk (Kd.R_lower (Kd.R_new' (Kd.R_new' ho0 (Kd.R_lt (rR HO_262000))) (Kd.R_lt (rR HO_262001))) (keep_size (w:=w) (g:=g) (row:=none) kB));have HO273:=Aside0.mk (Kd.R_lower (Kd.R_new' (Kd.R_new' ho1 (Kd.R_lt (rR HO_262000))) (Kd.R_lt (rR HO_262001))) (keep_size (w:=w) (g:=g) (row:=none) kB));replace HO_262000:=Aside0.mk (Kd.R_mono (Kd.R_told (Kd.R_told (Kd.R_old (rR HO_262000) hb) (Kd.R_base ho0)) (Kd.R_base ho1)) (fun _ h_=>h_.1));replace HO_262001:=Aside0.mk (Kd.R_mono (Kd.R_told (Kd.R_told (Kd.R_old (rR HO_262001) hb) (Kd.R_base ho0)) (Kd.R_base ho1)) (fun _ h_=>h_.1));replace BK260:=Aside0.mk (blk_below (bB BK260) hb);replace BK261:=Aside0.mk (blk_below (bB BK261) hb);replace BK275:=Aside0.mk (blk_below (bB BK275) hb);replace HK:=Aside0.mk (KeepBut.trans kB (KeepBut.of_below hb g none) (.inl rfl));replace HB:=Aside0.mk (below_step bH hb);replace HI0:=Aside0.mk (IsS57.below iIsS57 hb)
      (try clear hb)
      (try clear hb2)
      (try clear hk)
      (try clear hi)
      (try clear ho0)
      (try clear ho1)
      refine hK.out _ _ ⟨(blk_cell BK261.out 0).trans rfl,(blk_cell BK261.out 1).trans rfl⟩ (fun hHeld=>?_)
      clear hK K
      refine nM (N:=some 21) ?_
      refine pU (i:=4) (N:=some 17) #[true,true,true,true,true,false,false,true,false,false] (any_of HT_.out (by kernel_rfl)) ?_
      refine pU (i:=5) (N:=some 22) #[true,true,true,true,true,true,false,true,false,false] (any_of HT_.out (by kernel_rfl)) ?_
      refine pU (i:=6) (N:=some 23) #[true,true,true,true,true,true,true,true,false,false] (any_of HT_.out (by kernel_rfl)) ?_
      exact norm_ Yi (hCont (v269,v272,gb275) _ ⟨hHeld,ZD,ZC,Ys,Yr,(bB BK260),(bB BK261),(bB BK275),GW275.out,GE275.out,NB0_275.out,NB275_0.out,NB260_275.out,NB275_260.out,NB261_275.out,NB275_261.out,iIsS57,kB,bH⟩)
    rintro ⟨v269,v272,gb275⟩ w16 ⟨hS_,h0_,h1_,h2_,h3_,h4_,h5_,h6_,h7_,h8_,h9_,h10_,h11_,h12_,h13_,h14_,h15_,h16_,h17_⟩
    have n0_:Aside0 (Kd.R Kd.string 9 w16 w.heap.size (fun k_=>some k_ ≠ (v272:Value).ownBlock ∧ some k_ ≠ (.slice Ao10 x262000_1.length co10:Value).ownBlock ∧ some k_ ≠ (.slice Ao11 x262001_1.length co11:Value).ownBlock) v269 t268):=⟨h0_⟩
    have n1_:Aside0 (Kd.R Kd.string 9 w16 w.heap.size (fun k_=>some k_ ≠ (v269:Value).ownBlock ∧ some k_ ≠ (.slice Ao10 x262000_1.length co10:Value).ownBlock ∧ some k_ ≠ (.slice Ao11 x262001_1.length co11:Value).ownBlock) v272 t271):=⟨h1_⟩
    have n2_:Aside0 (Kd.R Kd.string 9 w16 w.heap.size (fun k_=>some k_ ≠ (v269:Value).ownBlock ∧ some k_ ≠ (v272:Value).ownBlock ∧ some k_ ≠ (.slice Ao11 x262001_1.length co11:Value).ownBlock) (.slice Ao10 x262000_1.length co10) x262000_1):=⟨h2_⟩
    have n3_:Aside0 (Kd.R Kd.string 9 w16 w.heap.size (fun k_=>some k_ ≠ (v269:Value).ownBlock ∧ some k_ ≠ (v272:Value).ownBlock ∧ some k_ ≠ (.slice Ao10 x262000_1.length co10:Value).ownBlock) (.slice Ao11 x262001_1.length co11) x262001_1):=⟨h3_⟩
    have n4_:Aside0 (w16.heap[gb260]? = some (.cells #[.slice none 0 0,.slice none 0 0] 26 (0,0))):=⟨h4_⟩
    have n5_:Aside0 (w16.heap[gb261]? = some (.cells #[.slice Ao10 x262000_1.length co10,.slice Ao11 x262001_1.length co11] 26 (0,0))):=⟨h5_⟩
    have n6_:Aside0 (w16.heap[gb275]? = some (.cells #[.slice none 0 0,.slice none 0 0] 26 (0,0))):=⟨h6_⟩
    have n7_:Aside0 (w.heap.size ≤ gb275):=⟨h7_⟩
    have n8_:Aside0 (w0.heap.size ≤ gb275):=⟨h8_⟩
    have n9_:Aside0 (g ≠ gb275):=⟨h9_⟩
    have n10_:Aside0 (gb275 ≠ g):=⟨h10_⟩
    have n11_:Aside0 (gb260 ≠ gb275):=⟨h11_⟩
    have n12_:Aside0 (gb275 ≠ gb260):=⟨h12_⟩
    have n13_:Aside0 (gb261 ≠ gb275):=⟨h13_⟩
    have n14_:Aside0 (gb275 ≠ gb261):=⟨h14_⟩
    have n15_:Aside0 (IsS57 w0 w16 g s0_0 t266 t267):=⟨h15_⟩
    have n16_:Aside0 (KeepBut w w16 g none):=⟨h16_⟩
    have n17_:Aside0 (Below w0.heap.size w0 w16):=⟨h17_⟩
    clear HO_262000
    clear HO_262001
    clear BK260
    clear BK261
    clear HI0
    clear HK
    clear HB
    clear h0_ h1_ h2_ h3_ h4_ h5_ h6_ h7_ h8_ h9_ h10_ h11_ h12_ h13_ h14_ h15_ h16_ h17_
    have HO270:=n0_
    have HO273:=n1_
    have HO_262000:=n2_
    have HO_262001:=n3_
    have BK260:=n4_
    have BK261:=n5_
    have BK275:=n6_
    have GW275:=n7_
    have GE275:=n8_
    have NB0_275:=n9_
    have NB275_0:=n10_
    have NB260_275:=n11_
    have NB275_260:=n12_
    have NB261_275:=n13_
    have NB275_261:=n14_
    have HI0:=n15_
    have HK:=n16_
    have HB:=n17_
    clear n0_ n1_ n2_ n3_ n4_ n5_ n6_ n7_ n8_ n9_ n10_ n11_ n12_ n13_ n14_ n15_ n16_ n17_
    have hHeld:w16.cell? ⟨gb261,0,none⟩ = some (.slice Ao10 x262000_1.length co10) ∧ w16.cell? ⟨gb261,1,none⟩ = some (.slice Ao11 x262001_1.length co11):=hS_
    obtain ⟨Ao17,co17,eo17⟩:=Kd.R_slice HO270.out
    (first|subst eo17|(injection eo17 with f1_ f2_ f3_;have f4_:=f1_.symm;have f5_:=f3_.symm;clear f1_ f2_ f3_;subst f4_;subst f5_))
    obtain ⟨Ao19,co19,eo19⟩:=Kd.R_slice HO273.out
    (first|subst eo19|(injection eo19 with f1_ f2_ f3_;have f4_:=f1_.symm;have f5_:=f3_.symm;clear f1_ f2_ f3_;subst f4_;subst f5_))
    refine norm_ (a':=?_) ?_ ?_
    rotate_left
    ·simp only [putAll,Act.put,List.setIfInBounds_toArray,List.set_cons_zero,List.set_cons_succ]
     rfl
    refine one_ (i:=8) (N:=none) #[true,true,true,true,true,true,true,true,true,false] rfl rfl (one_of HT_.out (by kernel_rfl)) (by decide) (fun K hK=>?_)
    have hs18:w16.cell? ⟨gb275,0,none⟩ = some (.slice none 0 0):=(blk_cell BK275.out 0).trans rfl
    have hfs18:=blk_frozen BK275.out 0
    have hns18_0:=NB260_275.out
    have hns18_1:=NB261_275.out
    have hms18_0:=NB275_260.out
    have hms18_1:=NB275_261.out
    have hs20:w16.cell? ⟨gb275,1,none⟩ = some (.slice none 0 0):=(blk_cell BK275.out 1).trans rfl
    have hfs20:=blk_frozen BK275.out 1
    have hns20_0:=NB260_275.out
    have hns20_1:=NB261_275.out
    have hms20_0:=NB275_260.out
    have hms20_1:=NB275_261.out
    refine skip_ (w1:=?_) (by rfl) rfl ?_ ?_
    rotate_left
    ·go_simp
     rfl
    refine hK.out _ _ ⟨((cell_far (p:=⟨gb275,_,none⟩) NB261_275.out _).trans (((cell_far (p:=⟨gb275,_,none⟩) NB261_275.out _).trans (hHeld.1)))),((cell_far (p:=⟨gb275,_,none⟩) NB261_275.out _).trans (((cell_far (p:=⟨gb275,_,none⟩) NB261_275.out _).trans (hHeld.2))))⟩ (fun hHeld=>?_)
    clear hK K
    refine pU (i:=9) (N:=some 6) #[true,true,true,true,true,true,true,true,true,true] (any_of HT_.out (by kernel_rfl)) ?_
    refine done_ (done_of HT_.out (by kernel_rfl)) ?_
    go_upto_if 24 with (fail)
    go_cut [] (fun wc=>∃ (kq:Nat) (x262000_8:List ByteArray) (x262001_8:List ByteArray) (u262000:Value) (u262001:Value),Aside0 (spec_l1Cur_disk.j1 kq x4_1 s0_0 t266 t267 x262000_8 x262001_8 = some (r1,r2,r3,r4)) ∧ Aside0 (kq ≤ k1) ∧ Aside0 (Kd.R Kd.string 9 wc w.heap.size (fun k_=>some k_ ≠ (u262001:Value).ownBlock) u262000 x262000_8) ∧ Aside0 (Kd.R Kd.string 9 wc w.heap.size (fun k_=>some k_ ≠ (u262000:Value).ownBlock) u262001 x262001_8) ∧ Aside0 (wc.heap[gb260]? = some (.cells #[(.slice none 0 0),(.slice none 0 0)] 26 (0,0))) ∧ Aside0 (wc.heap[gb261]? = some (.cells #[u262000,u262001] 26 (0,0))) ∧ Aside0 (IsS57 w0 wc g s0_0 t266 t267) ∧ Aside0 (KeepBut w wc g none) ∧ Aside0 (Below w0.heap.size w0 wc))
    case first =>
     have H:=HC9.out
     clear HC9
     by_cases c21:t274 = true
     ·subst c21
      have H1:(spec_l1Cur_disk.j1 k1 x4_1 s0_0 t266 t267 t268 t271) = some (r1,r2,r3,r4):=by rw [if_pos rfl] at H;exact H
      clear H
      have H:=H1
      clear H1
      have H':=Aside0.mk H
      clear H
      have hnb22:=NB275_260.out
      have hnc22:=NB260_275.out
      have hnb23:=NB275_261.out
      have hnc23:=NB261_275.out
      have hnb24:=NB275_0.out
      have hnc24:=NB0_275.out
      have hcz25_0:w16.cell? ⟨gb275,0,none⟩ = some (.slice none 0 0):=(blk_cell BK275.out 0).trans rfl
      have hcz25_1:w16.cell? ⟨gb275,1,none⟩ = some (.slice none 0 0):=(blk_cell BK275.out 1).trans rfl
      have hfz25_0:=blk_frozen BK275.out 0
      have hfz25_1:=blk_frozen BK275.out 1
      have hnb26:=NB261_260.out
      have hnc26:=NB260_261.out
      have hnb27:=NB261_0.out
      have hnc27:=NB0_261.out
      have hcz28_0:w16.cell? ⟨gb261,0,none⟩ = some (.slice Ao10 x262000_1.length co10):=(blk_cell BK261.out 0).trans rfl
      have hcz28_1:w16.cell? ⟨gb261,1,none⟩ = some (.slice Ao11 x262001_1.length co11):=(blk_cell BK261.out 1).trans rfl
      have hfz28_0:=blk_frozen BK261.out 0
      have hfz28_1:=blk_frozen BK261.out 1
      go_wp2
      go_meet
      case rel=>exact ⟨_,(t268),(t271),(.slice Ao17 t268.length co17),(.slice Ao19 t271.length co19),H',⟨ZM⟩,⟨by (with_reducible repeat (first|apply Kd.R_alloc|apply Kd.R_drewN|apply Kd.R_drew));exact Kd.R_mono (Kd.R_far (p:=⟨gb261,1,none⟩) (Kd.R_far (p:=⟨gb261,0,none⟩) (Kd.R_far (p:=⟨gb275,1,none⟩) (Kd.R_far (p:=⟨gb275,0,none⟩) (Kd.R_types (Kd.R_types HO270.out BK275.out (by decide)) BK261.out (by decide)) (fun _ hk=>hk.1.2) (.slice Ao17 t268.length co17)) (fun _ hk=>hk.1.2) (.slice Ao19 t271.length co19)) (fun _ hk=>hk.2) (.slice Ao17 t268.length co17)) (fun _ hk=>hk.2) (.slice Ao19 t271.length co19)) (fun _ hk=>hk.1.1.1)⟩,⟨by (with_reducible repeat (first|apply Kd.R_alloc|apply Kd.R_drewN|apply Kd.R_drew));exact Kd.R_mono (Kd.R_far (p:=⟨gb261,1,none⟩) (Kd.R_far (p:=⟨gb261,0,none⟩) (Kd.R_far (p:=⟨gb275,1,none⟩) (Kd.R_far (p:=⟨gb275,0,none⟩) (Kd.R_types (Kd.R_types HO273.out BK275.out (by decide)) BK261.out (by decide)) (fun _ hk=>hk.1.2) (.slice Ao17 t268.length co17)) (fun _ hk=>hk.1.2) (.slice Ao19 t271.length co19)) (fun _ hk=>hk.2) (.slice Ao17 t268.length co17)) (fun _ hk=>hk.2) (.slice Ao19 t271.length co19)) (fun _ hk=>hk.1.1.1)⟩,⟨by (with_reducible repeat (first|refine blk_drewN ?_ _|refine blk_drew ?_|refine blk_alloc ?_ _));refine blk_far ?_ NB260_261.out _;(with_reducible repeat (first|refine blk_drewN ?_ _|refine blk_drew ?_|refine blk_alloc ?_ _));refine blk_far ?_ NB260_261.out _;(with_reducible repeat (first|refine blk_drewN ?_ _|refine blk_drew ?_|refine blk_alloc ?_ _));refine blk_far ?_ NB260_275.out _;(with_reducible repeat (first|refine blk_drewN ?_ _|refine blk_drew ?_|refine blk_alloc ?_ _));refine blk_far ?_ NB260_275.out _;(with_reducible repeat (first|refine blk_drewN ?_ _|refine blk_drew ?_|refine blk_alloc ?_ _));exact BK260.out⟩,⟨by (with_reducible repeat (first|refine blk_drewN ?_ _|refine blk_drew ?_|refine blk_alloc ?_ _));refine blk_put (cs:=#[.slice Ao17 t268.length co17,.slice Ao11 x262001_1.length co11]) ?_ 1 _ rfl;(with_reducible repeat (first|refine blk_drewN ?_ _|refine blk_drew ?_|refine blk_alloc ?_ _));refine blk_put (cs:=#[.slice Ao10 x262000_1.length co10,.slice Ao11 x262001_1.length co11]) ?_ 0 _ rfl;(with_reducible repeat (first|refine blk_drewN ?_ _|refine blk_drew ?_|refine blk_alloc ?_ _));refine blk_far ?_ NB261_275.out _;(with_reducible repeat (first|refine blk_drewN ?_ _|refine blk_drew ?_|refine blk_alloc ?_ _));refine blk_far ?_ NB261_275.out _;(with_reducible repeat (first|refine blk_drewN ?_ _|refine blk_drew ?_|refine blk_alloc ?_ _));exact BK261.out⟩,⟨iIsS57⟩,⟨kB⟩,⟨bH⟩⟩
     ·replace c21:=Bool.eq_false_iff.mpr c21
      subst c21
      have H1:(spec_l1Cur_disk.j1 k1 x4_1 s0_0 t266 t267 x262000_1 x262001_1) = some (r1,r2,r3,r4):=by rw [if_neg (show ¬ (false = true) by decide)] at H;exact H
      clear H
      have H:=H1
      clear H1
      have H':=Aside0.mk H
      clear H
      go_wp2
      go_meet
      case rel=>exact ⟨_,(x262000_1),(x262001_1),(.slice Ao10 x262000_1.length co10),(.slice Ao11 x262001_1.length co11),H',⟨ZM⟩,⟨by (with_reducible repeat (first|apply Kd.R_alloc|apply Kd.R_drewN|apply Kd.R_drew));exact Kd.R_mono (Kd.R_far (p:=⟨gb275,1,none⟩) (Kd.R_far (p:=⟨gb275,0,none⟩) (Kd.R_types HO_262000.out BK275.out (by decide)) (fun _ hk=>hk.2) (.slice Ao17 t268.length co17)) (fun _ hk=>hk.2) (.slice Ao19 t271.length co19)) (fun _ hk=>hk.1.2.2)⟩,⟨by (with_reducible repeat (first|apply Kd.R_alloc|apply Kd.R_drewN|apply Kd.R_drew));exact Kd.R_mono (Kd.R_far (p:=⟨gb275,1,none⟩) (Kd.R_far (p:=⟨gb275,0,none⟩) (Kd.R_types HO_262001.out BK275.out (by decide)) (fun _ hk=>hk.2) (.slice Ao17 t268.length co17)) (fun _ hk=>hk.2) (.slice Ao19 t271.length co19)) (fun _ hk=>hk.1.2.2)⟩,⟨by (with_reducible repeat (first|refine blk_drewN ?_ _|refine blk_drew ?_|refine blk_alloc ?_ _));refine blk_far ?_ NB260_275.out _;(with_reducible repeat (first|refine blk_drewN ?_ _|refine blk_drew ?_|refine blk_alloc ?_ _));refine blk_far ?_ NB260_275.out _;(with_reducible repeat (first|refine blk_drewN ?_ _|refine blk_drew ?_|refine blk_alloc ?_ _));exact BK260.out⟩,⟨by (with_reducible repeat (first|refine blk_drewN ?_ _|refine blk_drew ?_|refine blk_alloc ?_ _));refine blk_far ?_ NB261_275.out _;(with_reducible repeat (first|refine blk_drewN ?_ _|refine blk_drew ?_|refine blk_alloc ?_ _));refine blk_far ?_ NB261_275.out _;(with_reducible repeat (first|refine blk_drewN ?_ _|refine blk_drew ?_|refine blk_alloc ?_ _));exact BK261.out⟩,⟨iIsS57⟩,⟨kB⟩,⟨bH⟩⟩
    case rest =>
     clear HC9
     try clear c1
     try clear c2
     try clear p2
     try clear c5
     try clear c18
     try clear c21
     try clear c22
     try clear c23
     try clear c24
     try clear c26
     try clear c27
     try clear hcz25_0
     try clear hcz25_1
     try clear hcz28_0
     try clear hcz28_1
     try clear hfz25_0
     try clear hfz25_1
     try clear hfz28_0
     try clear hfz28_1
     obtain ⟨kq,x262000_8,x262001_8,u262000,u262001,HA,HJ8,HO_262000,HO_262001,BK260,BK261,HI0,HK,HB⟩:=hcut
     cases kq with
     | zero=>exact absurd HA.out (by simp [spec_l1Cur_disk.j1])
     | succ kj8 =>
      have H:=HA.out
      clear HA
      simp only [spec_l1Cur_disk.j1] at H
      replace H:=Option.bind_eq_some_iff.mp H
      obtain ⟨⟨t276,t279,t282⟩,A290,H⟩:=H
      replace H:(if t282 = true then ((spec_l1Cur_one.f s0_0 t266 t267 3).bind fun bt284=>(if bt284.1 = true then (spec_l1Cur_disk.l0 kj8 (wrap64 (x4_1 - 1)) s0_0 bt284.2.1 bt284.2.2 t276 t279) else (spec_l1Cur_disk.l0 kj8 (wrap64 (x4_1 - 1)) s0_0 bt284.2.1 bt284.2.2 x262000_8 x262001_8))) else (spec_l1Cur_disk.l0 kj8 (wrap64 (x4_1 - 1)) s0_0 t266 t267 x262000_8 x262001_8)) = some (r1,r2,r3,r4):=H
      have A29:=Aside0.mk A290
      clear A290
      by_cases c30:t282 = true
      ·subst c30
       have H1:((spec_l1Cur_one.f s0_0 t266 t267 3).bind fun bt284=>(if bt284.1 = true then (spec_l1Cur_disk.l0 kj8 (wrap64 (x4_1 - 1)) s0_0 bt284.2.1 bt284.2.2 t276 t279) else (spec_l1Cur_disk.l0 kj8 (wrap64 (x4_1 - 1)) s0_0 bt284.2.1 bt284.2.2 x262000_8 x262001_8))) = some (r1,r2,r3,r4):=by rw [if_pos rfl] at H;exact H
       clear H
       have H:=H1
       clear H1
       replace H:=Option.bind_eq_some_iff.mp H
       obtain ⟨⟨t284,t285,t286⟩,A310,H⟩:=H
       replace H:(if t284 = true then (spec_l1Cur_disk.l0 kj8 (wrap64 (x4_1 - 1)) s0_0 t285 t286 t276 t279) else (spec_l1Cur_disk.l0 kj8 (wrap64 (x4_1 - 1)) s0_0 t285 t286 x262000_8 x262001_8)) = some (r1,r2,r3,r4):=H
       have A31:=Aside0.mk A310
       clear A310
       by_cases c32:t284 = true
       ·subst c32
        have H1:(spec_l1Cur_disk.l0 kj8 (wrap64 (x4_1 - 1)) s0_0 t285 t286 t276 t279) = some (r1,r2,r3,r4):=by rw [if_pos rfl] at H;exact H
        clear H
        have H:=H1
        clear H1
        have H':=Aside0.mk H
        clear H
        have hnb33:=NB261_260.out
        have hnc33:=NB260_261.out
        have hnb34:=NB261_0.out
        have hnc34:=NB0_261.out
        have hcz35_0:wc.cell? ⟨gb261,0,none⟩ = some (u262000):=(blk_cell BK261.out 0).trans rfl
        have hcz35_1:wc.cell? ⟨gb261,1,none⟩ = some (u262001):=(blk_cell BK261.out 1).trans rfl
        have hfz35_0:=blk_frozen BK261.out 0
        have hfz35_1:=blk_frozen BK261.out 1
        obtain ⟨Ao36,co36,eo36⟩:=Kd.R_slice HO_262000.out
        subst eo36
        obtain ⟨Ao37,co37,eo37⟩:=Kd.R_slice HO_262001.out
        subst eo37
        go_wp2_with (first|((with_reducible refine gate_callee (f:=25) rfl ?_);refine goesL_ (some 28) rfl rfl Try.func25 (by kernel_rfl) rfl #[.agg #[.slice Ao36 x262000_8.length co36,.slice Ao37 x262001_8.length co37]] rfl Ya ?_;(with_reducible refine (spec_SyncDisk.calls kj8 _ _ x262000_8 _ _ x262001_8 t276 t279 true _ ?side1 ?side2 ?side3 ?side4 A29.out).mono ?_);(case side1=>repeat (first|exact (Kd.R_reads' HO_262000.out).2.2|(with_reducible refine Kd.C_alloc ?_ _)|(with_reducible refine Kd.C_drewN ?_ _)|(with_reducible refine Kd.C_drew ?_)));(case side2=>exact ZF);(case side3=>repeat (first|exact (Kd.R_reads' HO_262001.out).2.2|(with_reducible refine Kd.C_alloc ?_ _)|(with_reducible refine Kd.C_drewN ?_ _)|(with_reducible refine Kd.C_drew ?_)));(case side4=>exact ZE);rintro e w38 ⟨v277,v280,rfl,ho0,ho1,hb⟩;refine ⟨_,rfl,?_⟩;have HO278:=Aside0.mk (Kd.R_lower (Kd.R_new' (Kd.R_new' ho0 (Kd.R_lt (rR HO_262000))) (Kd.R_lt (rR HO_262001))) (keep_size (w:=w) (g:=g) (row:=none) kB));have HO281:=Aside0.mk (Kd.R_lower (Kd.R_new' (Kd.R_new' ho1 (Kd.R_lt (rR HO_262000))) (Kd.R_lt (rR HO_262001))) (keep_size (w:=w) (g:=g) (row:=none) kB));replace HO_262000:=Aside0.mk (Kd.R_mono (Kd.R_told (Kd.R_told (Kd.R_old (rR HO_262000) hb) (Kd.R_base ho0)) (Kd.R_base ho1)) (fun _ h_=>h_.1));replace HO_262001:=Aside0.mk (Kd.R_mono (Kd.R_told (Kd.R_told (Kd.R_old (rR HO_262001) hb) (Kd.R_base ho0)) (Kd.R_base ho1)) (fun _ h_=>h_.1));replace BK260:=Aside0.mk (blk_below (bB BK260) hb);replace BK261:=Aside0.mk (blk_below (bB BK261) hb);replace HK:=Aside0.mk (KeepBut.trans kB (KeepBut.of_below hb g none) (.inl rfl));replace HB:=Aside0.mk (below_step bH hb);replace HI0:=Aside0.mk (IsS57.below iIsS57 hb);(try clear hb);(try clear hb2);(try clear hk);(try clear hi);(try clear ho0);(try clear ho1))|((with_reducible refine gate_dst (N:=7) rfl ?_);refine box_event ?hg (N:=7) ?hd (cs:=#[.slice none 0 0,.slice none 0 0]) (t:=26) ?hr ?_;(case hd=>rfl);(case hg=>rfl);(case hr=>exact Yg);intro gb283 hg w39 hbox hb;replace HO_262000:=Aside0.mk (Kd.R_below (rR HO_262000) hb);replace HO_262001:=Aside0.mk (Kd.R_below (rR HO_262001) hb);replace HO278:=Aside0.mk (Kd.R_below (rR HO278) hb);replace HO281:=Aside0.mk (Kd.R_below (rR HO281) hb);replace HB:=Aside0.mk (below_step bH hb);have BK283:=Aside0.mk (hbox);have GW283:=Aside0.mk ((by rw [hg];exact (keep_size (w:=w) (g:=g) (row:=none) kB):w.heap.size ≤ gb283));have GE283:=Aside0.mk ((Nat.le_trans HW0.out (by rw [hg];exact (keep_size (w:=w) (g:=g) (row:=none) kB):w.heap.size ≤ gb283):w0.heap.size ≤ gb283));replace HK:=Aside0.mk (KeepBut.trans kB (KeepBut.of_below hb g none) (.inl rfl));have NB260_283:=Aside0.mk ((nL BK260:gb260 ≠ gb283));have NB283_260:=Aside0.mk ((nG BK260:gb283 ≠ gb260));replace BK260:=Aside0.mk (blk_below (bB BK260) hb);have NB261_283:=Aside0.mk ((nL BK261:gb261 ≠ gb283));have NB283_261:=Aside0.mk ((nG BK261:gb283 ≠ gb261));replace BK261:=Aside0.mk (blk_below (bB BK261) hb);have NB0_283:=Aside0.mk ((by rw [hg];exact Nat.ne_of_lt (IsS57.lt (show IsS57 w0 _ g s0_0 t266 t267 from iIsS57)):g ≠ gb283));have NB283_0:=Aside0.mk ((by rw [hg];exact Nat.ne_of_gt (IsS57.lt (show IsS57 w0 _ g s0_0 t266 t267 from iIsS57)):gb283 ≠ g));replace HI0:=Aside0.mk (IsS57.below iIsS57 hb);clear hb hbox hg;obtain ⟨Ao40,co40,eo40⟩:=Kd.R_slice HO278.out;subst eo40;have hnb41:=NB283_260.out;have hnc41:=NB260_283.out;have hnb42:=NB283_261.out;have hnc42:=NB261_283.out;have hnb43:=NB283_0.out;have hnc43:=NB0_283.out;have hcz44_0:w39.cell? ⟨gb283,0,none⟩ = some (.slice none 0 0):=(blk_cell BK283.out 0).trans rfl;have hcz44_1:w39.cell? ⟨gb283,1,none⟩ = some (.slice none 0 0):=(blk_cell BK283.out 1).trans rfl;have hfz44_0:=blk_frozen BK283.out 0;have hfz44_1:=blk_frozen BK283.out 1;obtain ⟨Ao45,co45,eo45⟩:=Kd.R_slice HO281.out;subst eo45)|(go_at_call 60;(with_reducible refine (spec_l1Cur_one.calls g s0_0 t266 t267 3 true t285 t286 w0 _ ?side1 ?side2 A31.out).mono ?_);(case side1=>exact iIsS57);(case side2=>exact bH);rintro e w46 ⟨rfl,hi,hb,hk⟩;replace HO_262000:=Aside0.mk (Kd.R_mono (Kd.R_keep (IsS57.apart (show IsS57 w0 _ g s0_0 t266 t267 from iIsS57) (by (with_reducible repeat (first|apply Kd.R_alloc|apply Kd.R_drewN|apply Kd.R_drew));exact (Kd.R_mono (Kd.R_far (p:=⟨gb283,1,none⟩) (Kd.R_far (p:=⟨gb283,0,none⟩) (Kd.R_types HO_262000.out BK283.out (by decide)) (fun _ hk=>hk.2) (.slice Ao40 t276.length co40)) (fun _ hk=>hk.2) (.slice Ao45 t279.length co45)) (fun _ h_=>h_.1))) (by decide)) hk (fun _ h=>h.2)) (fun _ h=>h.1));replace HO_262001:=Aside0.mk (Kd.R_mono (Kd.R_keep (IsS57.apart (show IsS57 w0 _ g s0_0 t266 t267 from iIsS57) (by (with_reducible repeat (first|apply Kd.R_alloc|apply Kd.R_drewN|apply Kd.R_drew));exact (Kd.R_mono (Kd.R_far (p:=⟨gb283,1,none⟩) (Kd.R_far (p:=⟨gb283,0,none⟩) (Kd.R_types HO_262001.out BK283.out (by decide)) (fun _ hk=>hk.2) (.slice Ao40 t276.length co40)) (fun _ hk=>hk.2) (.slice Ao45 t279.length co45)) (fun _ h_=>h_.1))) (by decide)) hk (fun _ h=>h.2)) (fun _ h=>h.1));replace BK260:=Aside0.mk (KeepBut.blk hk (g':=gb260) (o:=.cells #[.slice none 0 0,.slice none 0 0] 26 (0,0)) Yx NB260_0.out (by simp));replace BK261:=Aside0.mk (KeepBut.blk hk (g':=gb261) (o:=.cells #[.slice Ao36 x262000_8.length co36,.slice Ao37 x262001_8.length co37] 26 (0,0)) Yw NB261_0.out (by simp));replace HO278:=Aside0.mk (Kd.R_mono (Kd.R_keep (IsS57.apart (show IsS57 w0 _ g s0_0 t266 t267 from iIsS57) (by (with_reducible repeat (first|apply Kd.R_alloc|apply Kd.R_drewN|apply Kd.R_drew));exact (Kd.R_mono (Kd.R_far (p:=⟨gb283,1,none⟩) (Kd.R_far (p:=⟨gb283,0,none⟩) (Kd.R_types HO278.out BK283.out (by decide)) (fun _ hk=>hk.2) (.slice Ao40 t276.length co40)) (fun _ hk=>hk.2) (.slice Ao45 t279.length co45)) (fun _ h_=>h_.1))) (by decide)) hk (fun _ h=>h.2)) (fun _ h=>h.1));replace HO281:=Aside0.mk (Kd.R_mono (Kd.R_keep (IsS57.apart (show IsS57 w0 _ g s0_0 t266 t267 from iIsS57) (by (with_reducible repeat (first|apply Kd.R_alloc|apply Kd.R_drewN|apply Kd.R_drew));exact (Kd.R_mono (Kd.R_far (p:=⟨gb283,1,none⟩) (Kd.R_far (p:=⟨gb283,0,none⟩) (Kd.R_types HO281.out BK283.out (by decide)) (fun _ hk=>hk.2) (.slice Ao40 t276.length co40)) (fun _ hk=>hk.2) (.slice Ao45 t279.length co45)) (fun _ h_=>h_.1))) (by decide)) hk (fun _ h=>h.2)) (fun _ h=>h.1));replace BK283:=Aside0.mk (KeepBut.blk hk (g':=gb283) (o:=.cells #[.slice Ao40 t276.length co40,.slice Ao45 t279.length co45] 26 (0,0)) (by (with_reducible repeat (first|refine blk_drewN ?_ _|refine blk_drew ?_|refine blk_alloc ?_ _));refine blk_put (cs:=#[.slice Ao40 t276.length co40,.slice none 0 0]) ?_ 1 _ rfl;(with_reducible repeat (first|refine blk_drewN ?_ _|refine blk_drew ?_|refine blk_alloc ?_ _));refine blk_put (cs:=#[.slice none 0 0,.slice none 0 0]) ?_ 0 _ rfl;(with_reducible repeat (first|refine blk_drewN ?_ _|refine blk_drew ?_|refine blk_alloc ?_ _));exact BK283.out) NB283_0.out (by simp));replace HK:=Aside0.mk (KeepBut.trans kB hk (.inl rfl));replace HB:=Aside0.mk (hb);replace HI0:=Aside0.mk (hi);(try clear hb);(try clear hb2);(try clear hk);(try clear hi);have hcz47_0:w46.cell? ⟨gb283,0,none⟩ = some (.slice Ao40 t276.length co40):=(blk_cell BK283.out 0).trans rfl;have hcz47_1:w46.cell? ⟨gb283,1,none⟩ = some (.slice Ao45 t279.length co45):=(blk_cell BK283.out 1).trans rfl;have hfz47_0:=blk_frozen BK283.out 0;have hfz47_1:=blk_frozen BK283.out 1;have hcz48_0:w46.cell? ⟨gb261,0,none⟩ = some (.slice Ao36 x262000_8.length co36):=(blk_cell BK261.out 0).trans rfl;have hcz48_1:w46.cell? ⟨gb261,1,none⟩ = some (.slice Ao37 x262001_8.length co37):=(blk_cell BK261.out 1).trans rfl;have hfz48_0:=blk_frozen BK261.out 0;have hfz48_1:=blk_frozen BK261.out 1))
        go_roundg kj8
        case measure=>have:=HK1.out;have:=HJ8.out;omega
        case rel=>exact ⟨(wrap64 (x4_1 - 1)),(t285),(t286),(t276),(t279),(.slice Ao40 t276.length co40),(.slice Ao45 t279.length co45),Yh,H',⟨by have:=HK1.out;have:=HJ8.out;omega⟩,⟨by (with_reducible repeat (first|apply Kd.R_alloc|apply Kd.R_drewN|apply Kd.R_drew));exact Kd.R_mono (Kd.R_far (p:=⟨gb261,1,none⟩) (Kd.R_far (p:=⟨gb261,0,none⟩) (Kd.R_types HO278.out BK261.out (by decide)) (fun _ hk=>hk.2) (.slice Ao40 t276.length co40)) (fun _ hk=>hk.2) (.slice Ao45 t279.length co45)) (fun _ hk=>hk.1.1.1)⟩,⟨by (with_reducible repeat (first|apply Kd.R_alloc|apply Kd.R_drewN|apply Kd.R_drew));exact Kd.R_mono (Kd.R_far (p:=⟨gb261,1,none⟩) (Kd.R_far (p:=⟨gb261,0,none⟩) (Kd.R_types HO281.out BK261.out (by decide)) (fun _ hk=>hk.2) (.slice Ao40 t276.length co40)) (fun _ hk=>hk.2) (.slice Ao45 t279.length co45)) (fun _ hk=>hk.1.1.1)⟩,⟨Zl⟩,⟨by (with_reducible repeat (first|refine blk_drewN ?_ _|refine blk_drew ?_|refine blk_alloc ?_ _));refine blk_put (cs:=#[.slice Ao40 t276.length co40,.slice Ao37 x262001_8.length co37]) ?_ 1 _ rfl;(with_reducible repeat (first|refine blk_drewN ?_ _|refine blk_drew ?_|refine blk_alloc ?_ _));refine blk_put (cs:=#[.slice Ao36 x262000_8.length co36,.slice Ao37 x262001_8.length co37]) ?_ 0 _ rfl;(with_reducible repeat (first|refine blk_drewN ?_ _|refine blk_drew ?_|refine blk_alloc ?_ _));exact BK261.out⟩,⟨iIsS57⟩,⟨kB⟩,⟨bH⟩⟩
       ·replace c32:=Bool.eq_false_iff.mpr c32
        subst c32
        have H1:(spec_l1Cur_disk.l0 kj8 (wrap64 (x4_1 - 1)) s0_0 t285 t286 x262000_8 x262001_8) = some (r1,r2,r3,r4):=by rw [if_neg (show ¬ (false = true) by decide)] at H;exact H
        clear H
        have H:=H1
        clear H1
        have H':=Aside0.mk H
        clear H
        have hnb49:=NB261_260.out
        have hnc49:=NB260_261.out
        have hnb50:=NB261_0.out
        have hnc50:=NB0_261.out
        have hcz51_0:wc.cell? ⟨gb261,0,none⟩ = some (u262000):=(blk_cell BK261.out 0).trans rfl
        have hcz51_1:wc.cell? ⟨gb261,1,none⟩ = some (u262001):=(blk_cell BK261.out 1).trans rfl
        have hfz51_0:=blk_frozen BK261.out 0
        have hfz51_1:=blk_frozen BK261.out 1
        obtain ⟨Ao52,co52,eo52⟩:=Kd.R_slice HO_262000.out
        subst eo52
        obtain ⟨Ao53,co53,eo53⟩:=Kd.R_slice HO_262001.out
        subst eo53
        go_wp2_with (first|((with_reducible refine gate_callee (f:=25) rfl ?_);refine goesL_ (some 28) rfl rfl Try.func25 (by kernel_rfl) rfl #[.agg #[.slice Ao52 x262000_8.length co52,.slice Ao53 x262001_8.length co53]] rfl Ya ?_;(with_reducible refine (spec_SyncDisk.calls kj8 _ _ x262000_8 _ _ x262001_8 t276 t279 true _ ?side1 ?side2 ?side3 ?side4 A29.out).mono ?_);(case side1=>repeat (first|exact (Kd.R_reads' HO_262000.out).2.2|(with_reducible refine Kd.C_alloc ?_ _)|(with_reducible refine Kd.C_drewN ?_ _)|(with_reducible refine Kd.C_drew ?_)));(case side2=>exact ZF);(case side3=>repeat (first|exact (Kd.R_reads' HO_262001.out).2.2|(with_reducible refine Kd.C_alloc ?_ _)|(with_reducible refine Kd.C_drewN ?_ _)|(with_reducible refine Kd.C_drew ?_)));(case side4=>exact ZE);rintro e w54 ⟨v277,v280,rfl,ho0,ho1,hb⟩;refine ⟨_,rfl,?_⟩;have HO278:=Aside0.mk (Kd.R_lower (Kd.R_new' (Kd.R_new' ho0 (Kd.R_lt (rR HO_262000))) (Kd.R_lt (rR HO_262001))) (keep_size (w:=w) (g:=g) (row:=none) kB));have HO281:=Aside0.mk (Kd.R_lower (Kd.R_new' (Kd.R_new' ho1 (Kd.R_lt (rR HO_262000))) (Kd.R_lt (rR HO_262001))) (keep_size (w:=w) (g:=g) (row:=none) kB));replace HO_262000:=Aside0.mk (Kd.R_mono (Kd.R_told (Kd.R_told (Kd.R_old (rR HO_262000) hb) (Kd.R_base ho0)) (Kd.R_base ho1)) (fun _ h_=>h_.1));replace HO_262001:=Aside0.mk (Kd.R_mono (Kd.R_told (Kd.R_told (Kd.R_old (rR HO_262001) hb) (Kd.R_base ho0)) (Kd.R_base ho1)) (fun _ h_=>h_.1));replace BK260:=Aside0.mk (blk_below (bB BK260) hb);replace BK261:=Aside0.mk (blk_below (bB BK261) hb);replace HK:=Aside0.mk (KeepBut.trans kB (KeepBut.of_below hb g none) (.inl rfl));replace HB:=Aside0.mk (below_step bH hb);replace HI0:=Aside0.mk (IsS57.below iIsS57 hb);(try clear hb);(try clear hb2);(try clear hk);(try clear hi);(try clear ho0);(try clear ho1))|((with_reducible refine gate_dst (N:=7) rfl ?_);refine box_event ?hg (N:=7) ?hd (cs:=#[.slice none 0 0,.slice none 0 0]) (t:=26) ?hr ?_;(case hd=>rfl);(case hg=>rfl);(case hr=>exact Yg);intro gb283 hg w55 hbox hb;replace HO_262000:=Aside0.mk (Kd.R_below (rR HO_262000) hb);replace HO_262001:=Aside0.mk (Kd.R_below (rR HO_262001) hb);replace HO278:=Aside0.mk (Kd.R_below (rR HO278) hb);replace HO281:=Aside0.mk (Kd.R_below (rR HO281) hb);replace HB:=Aside0.mk (below_step bH hb);have BK283:=Aside0.mk (hbox);have GW283:=Aside0.mk ((by rw [hg];exact (keep_size (w:=w) (g:=g) (row:=none) kB):w.heap.size ≤ gb283));have GE283:=Aside0.mk ((Nat.le_trans HW0.out (by rw [hg];exact (keep_size (w:=w) (g:=g) (row:=none) kB):w.heap.size ≤ gb283):w0.heap.size ≤ gb283));replace HK:=Aside0.mk (KeepBut.trans kB (KeepBut.of_below hb g none) (.inl rfl));have NB260_283:=Aside0.mk ((nL BK260:gb260 ≠ gb283));have NB283_260:=Aside0.mk ((nG BK260:gb283 ≠ gb260));replace BK260:=Aside0.mk (blk_below (bB BK260) hb);have NB261_283:=Aside0.mk ((nL BK261:gb261 ≠ gb283));have NB283_261:=Aside0.mk ((nG BK261:gb283 ≠ gb261));replace BK261:=Aside0.mk (blk_below (bB BK261) hb);have NB0_283:=Aside0.mk ((by rw [hg];exact Nat.ne_of_lt (IsS57.lt (show IsS57 w0 _ g s0_0 t266 t267 from iIsS57)):g ≠ gb283));have NB283_0:=Aside0.mk ((by rw [hg];exact Nat.ne_of_gt (IsS57.lt (show IsS57 w0 _ g s0_0 t266 t267 from iIsS57)):gb283 ≠ g));replace HI0:=Aside0.mk (IsS57.below iIsS57 hb);clear hb hbox hg;obtain ⟨Ao56,co56,eo56⟩:=Kd.R_slice HO278.out;subst eo56;have hnb57:=NB283_260.out;have hnc57:=NB260_283.out;have hnb58:=NB283_261.out;have hnc58:=NB261_283.out;have hnb59:=NB283_0.out;have hnc59:=NB0_283.out;have hcz60_0:w55.cell? ⟨gb283,0,none⟩ = some (.slice none 0 0):=(blk_cell BK283.out 0).trans rfl;have hcz60_1:w55.cell? ⟨gb283,1,none⟩ = some (.slice none 0 0):=(blk_cell BK283.out 1).trans rfl;have hfz60_0:=blk_frozen BK283.out 0;have hfz60_1:=blk_frozen BK283.out 1;obtain ⟨Ao61,co61,eo61⟩:=Kd.R_slice HO281.out;subst eo61)|(go_at_call 60;(with_reducible refine (spec_l1Cur_one.calls g s0_0 t266 t267 3 false t285 t286 w0 _ ?side1 ?side2 A31.out).mono ?_);(case side1=>exact iIsS57);(case side2=>exact bH);rintro e w62 ⟨rfl,hi,hb,hk⟩;replace HO_262000:=Aside0.mk (Kd.R_mono (Kd.R_keep (IsS57.apart (show IsS57 w0 _ g s0_0 t266 t267 from iIsS57) (by (with_reducible repeat (first|apply Kd.R_alloc|apply Kd.R_drewN|apply Kd.R_drew));exact (Kd.R_mono (Kd.R_far (p:=⟨gb283,1,none⟩) (Kd.R_far (p:=⟨gb283,0,none⟩) (Kd.R_types HO_262000.out BK283.out (by decide)) (fun _ hk=>hk.2) (.slice Ao56 t276.length co56)) (fun _ hk=>hk.2) (.slice Ao61 t279.length co61)) (fun _ h_=>h_.1))) (by decide)) hk (fun _ h=>h.2)) (fun _ h=>h.1));replace HO_262001:=Aside0.mk (Kd.R_mono (Kd.R_keep (IsS57.apart (show IsS57 w0 _ g s0_0 t266 t267 from iIsS57) (by (with_reducible repeat (first|apply Kd.R_alloc|apply Kd.R_drewN|apply Kd.R_drew));exact (Kd.R_mono (Kd.R_far (p:=⟨gb283,1,none⟩) (Kd.R_far (p:=⟨gb283,0,none⟩) (Kd.R_types HO_262001.out BK283.out (by decide)) (fun _ hk=>hk.2) (.slice Ao56 t276.length co56)) (fun _ hk=>hk.2) (.slice Ao61 t279.length co61)) (fun _ h_=>h_.1))) (by decide)) hk (fun _ h=>h.2)) (fun _ h=>h.1));replace BK260:=Aside0.mk (KeepBut.blk hk (g':=gb260) (o:=.cells #[.slice none 0 0,.slice none 0 0] 26 (0,0)) Yx NB260_0.out (by simp));replace BK261:=Aside0.mk (KeepBut.blk hk (g':=gb261) (o:=.cells #[.slice Ao52 x262000_8.length co52,.slice Ao53 x262001_8.length co53] 26 (0,0)) Yw NB261_0.out (by simp));replace HO278:=Aside0.mk (Kd.R_mono (Kd.R_keep (IsS57.apart (show IsS57 w0 _ g s0_0 t266 t267 from iIsS57) (by (with_reducible repeat (first|apply Kd.R_alloc|apply Kd.R_drewN|apply Kd.R_drew));exact (Kd.R_mono (Kd.R_far (p:=⟨gb283,1,none⟩) (Kd.R_far (p:=⟨gb283,0,none⟩) (Kd.R_types HO278.out BK283.out (by decide)) (fun _ hk=>hk.2) (.slice Ao56 t276.length co56)) (fun _ hk=>hk.2) (.slice Ao61 t279.length co61)) (fun _ h_=>h_.1))) (by decide)) hk (fun _ h=>h.2)) (fun _ h=>h.1));replace HO281:=Aside0.mk (Kd.R_mono (Kd.R_keep (IsS57.apart (show IsS57 w0 _ g s0_0 t266 t267 from iIsS57) (by (with_reducible repeat (first|apply Kd.R_alloc|apply Kd.R_drewN|apply Kd.R_drew));exact (Kd.R_mono (Kd.R_far (p:=⟨gb283,1,none⟩) (Kd.R_far (p:=⟨gb283,0,none⟩) (Kd.R_types HO281.out BK283.out (by decide)) (fun _ hk=>hk.2) (.slice Ao56 t276.length co56)) (fun _ hk=>hk.2) (.slice Ao61 t279.length co61)) (fun _ h_=>h_.1))) (by decide)) hk (fun _ h=>h.2)) (fun _ h=>h.1));replace BK283:=Aside0.mk (KeepBut.blk hk (g':=gb283) (o:=.cells #[.slice Ao56 t276.length co56,.slice Ao61 t279.length co61] 26 (0,0)) (by (with_reducible repeat (first|refine blk_drewN ?_ _|refine blk_drew ?_|refine blk_alloc ?_ _));refine blk_put (cs:=#[.slice Ao56 t276.length co56,.slice none 0 0]) ?_ 1 _ rfl;(with_reducible repeat (first|refine blk_drewN ?_ _|refine blk_drew ?_|refine blk_alloc ?_ _));refine blk_put (cs:=#[.slice none 0 0,.slice none 0 0]) ?_ 0 _ rfl;(with_reducible repeat (first|refine blk_drewN ?_ _|refine blk_drew ?_|refine blk_alloc ?_ _));exact BK283.out) NB283_0.out (by simp));replace HK:=Aside0.mk (KeepBut.trans kB hk (.inl rfl));replace HB:=Aside0.mk (hb);replace HI0:=Aside0.mk (hi);(try clear hb);(try clear hb2);(try clear hk);(try clear hi)))
        go_roundg kj8
        case measure=>have:=HK1.out;have:=HJ8.out;omega
        case rel=>exact ⟨(wrap64 (x4_1 - 1)),(t285),(t286),(x262000_8),(x262001_8),(.slice Ao52 x262000_8.length co52),(.slice Ao53 x262001_8.length co53),Yh,H',⟨by have:=HK1.out;have:=HJ8.out;omega⟩,⟨by (with_reducible repeat (first|apply Kd.R_alloc|apply Kd.R_drewN|apply Kd.R_drew));exact Kd.R_mono HO_262000.out (fun _ hk=>hk.1.1)⟩,⟨by (with_reducible repeat (first|apply Kd.R_alloc|apply Kd.R_drewN|apply Kd.R_drew));exact Kd.R_mono HO_262001.out (fun _ hk=>hk.1.1)⟩,⟨ZA⟩,⟨Zz⟩,⟨iIsS57⟩,⟨kB⟩,⟨bH⟩⟩
      ·replace c30:=Bool.eq_false_iff.mpr c30
       subst c30
       have H1:(spec_l1Cur_disk.l0 kj8 (wrap64 (x4_1 - 1)) s0_0 t266 t267 x262000_8 x262001_8) = some (r1,r2,r3,r4):=by rw [if_neg (show ¬ (false = true) by decide)] at H;exact H
       clear H
       have H:=H1
       clear H1
       have H':=Aside0.mk H
       clear H
       have hnb63:=NB261_260.out
       have hnc63:=NB260_261.out
       have hnb64:=NB261_0.out
       have hnc64:=NB0_261.out
       have hcz65_0:wc.cell? ⟨gb261,0,none⟩ = some (u262000):=(blk_cell BK261.out 0).trans rfl
       have hcz65_1:wc.cell? ⟨gb261,1,none⟩ = some (u262001):=(blk_cell BK261.out 1).trans rfl
       have hfz65_0:=blk_frozen BK261.out 0
       have hfz65_1:=blk_frozen BK261.out 1
       obtain ⟨Ao66,co66,eo66⟩:=Kd.R_slice HO_262000.out
       subst eo66
       obtain ⟨Ao67,co67,eo67⟩:=Kd.R_slice HO_262001.out
       subst eo67
       go_wp2_with (first|((with_reducible refine gate_callee (f:=25) rfl ?_);refine goesL_ (some 28) rfl rfl Try.func25 (by kernel_rfl) rfl #[.agg #[.slice Ao66 x262000_8.length co66,.slice Ao67 x262001_8.length co67]] rfl Ya ?_;(with_reducible refine (spec_SyncDisk.calls kj8 _ _ x262000_8 _ _ x262001_8 t276 t279 false _ ?side1 ?side2 ?side3 ?side4 A29.out).mono ?_);(case side1=>repeat (first|exact (Kd.R_reads' HO_262000.out).2.2|(with_reducible refine Kd.C_alloc ?_ _)|(with_reducible refine Kd.C_drewN ?_ _)|(with_reducible refine Kd.C_drew ?_)));(case side2=>exact ZF);(case side3=>repeat (first|exact (Kd.R_reads' HO_262001.out).2.2|(with_reducible refine Kd.C_alloc ?_ _)|(with_reducible refine Kd.C_drewN ?_ _)|(with_reducible refine Kd.C_drew ?_)));(case side4=>exact ZE);rintro e w68 ⟨v277,v280,rfl,ho0,ho1,hb⟩;refine ⟨_,rfl,?_⟩;have HO278:=Aside0.mk (Kd.R_lower (Kd.R_new' (Kd.R_new' ho0 (Kd.R_lt (rR HO_262000))) (Kd.R_lt (rR HO_262001))) (keep_size (w:=w) (g:=g) (row:=none) kB));have HO281:=Aside0.mk (Kd.R_lower (Kd.R_new' (Kd.R_new' ho1 (Kd.R_lt (rR HO_262000))) (Kd.R_lt (rR HO_262001))) (keep_size (w:=w) (g:=g) (row:=none) kB));replace HO_262000:=Aside0.mk (Kd.R_mono (Kd.R_told (Kd.R_told (Kd.R_old (rR HO_262000) hb) (Kd.R_base ho0)) (Kd.R_base ho1)) (fun _ h_=>h_.1));replace HO_262001:=Aside0.mk (Kd.R_mono (Kd.R_told (Kd.R_told (Kd.R_old (rR HO_262001) hb) (Kd.R_base ho0)) (Kd.R_base ho1)) (fun _ h_=>h_.1));replace BK260:=Aside0.mk (blk_below (bB BK260) hb);replace BK261:=Aside0.mk (blk_below (bB BK261) hb);replace HK:=Aside0.mk (KeepBut.trans kB (KeepBut.of_below hb g none) (.inl rfl));replace HB:=Aside0.mk (below_step bH hb);replace HI0:=Aside0.mk (IsS57.below iIsS57 hb);(try clear hb);(try clear hb2);(try clear hk);(try clear hi);(try clear ho0);(try clear ho1))|((with_reducible refine gate_dst (N:=7) rfl ?_);refine box_event ?hg (N:=7) ?hd (cs:=#[.slice none 0 0,.slice none 0 0]) (t:=26) ?hr ?_;(case hd=>rfl);(case hg=>rfl);(case hr=>exact Yg);intro gb283 hg w69 hbox hb;replace HO_262000:=Aside0.mk (Kd.R_below (rR HO_262000) hb);replace HO_262001:=Aside0.mk (Kd.R_below (rR HO_262001) hb);replace HO278:=Aside0.mk (Kd.R_below (rR HO278) hb);replace HO281:=Aside0.mk (Kd.R_below (rR HO281) hb);replace HB:=Aside0.mk (below_step bH hb);have BK283:=Aside0.mk (hbox);have GW283:=Aside0.mk ((by rw [hg];exact (keep_size (w:=w) (g:=g) (row:=none) kB):w.heap.size ≤ gb283));have GE283:=Aside0.mk ((Nat.le_trans HW0.out (by rw [hg];exact (keep_size (w:=w) (g:=g) (row:=none) kB):w.heap.size ≤ gb283):w0.heap.size ≤ gb283));replace HK:=Aside0.mk (KeepBut.trans kB (KeepBut.of_below hb g none) (.inl rfl));have NB260_283:=Aside0.mk ((nL BK260:gb260 ≠ gb283));have NB283_260:=Aside0.mk ((nG BK260:gb283 ≠ gb260));replace BK260:=Aside0.mk (blk_below (bB BK260) hb);have NB261_283:=Aside0.mk ((nL BK261:gb261 ≠ gb283));have NB283_261:=Aside0.mk ((nG BK261:gb283 ≠ gb261));replace BK261:=Aside0.mk (blk_below (bB BK261) hb);have NB0_283:=Aside0.mk ((by rw [hg];exact Nat.ne_of_lt (IsS57.lt (show IsS57 w0 _ g s0_0 t266 t267 from iIsS57)):g ≠ gb283));have NB283_0:=Aside0.mk ((by rw [hg];exact Nat.ne_of_gt (IsS57.lt (show IsS57 w0 _ g s0_0 t266 t267 from iIsS57)):gb283 ≠ g));replace HI0:=Aside0.mk (IsS57.below iIsS57 hb);clear hb hbox hg;obtain ⟨Ao70,co70,eo70⟩:=Kd.R_slice HO278.out;subst eo70;have hnb71:=NB283_260.out;have hnc71:=NB260_283.out;have hnb72:=NB283_261.out;have hnc72:=NB261_283.out;have hnb73:=NB283_0.out;have hnc73:=NB0_283.out;have hcz74_0:w69.cell? ⟨gb283,0,none⟩ = some (.slice none 0 0):=(blk_cell BK283.out 0).trans rfl;have hcz74_1:w69.cell? ⟨gb283,1,none⟩ = some (.slice none 0 0):=(blk_cell BK283.out 1).trans rfl;have hfz74_0:=blk_frozen BK283.out 0;have hfz74_1:=blk_frozen BK283.out 1;obtain ⟨Ao75,co75,eo75⟩:=Kd.R_slice HO281.out;subst eo75))
       go_roundg kj8
       case measure=>have:=HK1.out;have:=HJ8.out;omega
       case rel=>exact ⟨(wrap64 (x4_1 - 1)),(t266),(t267),(x262000_8),(x262001_8),(.slice Ao66 x262000_8.length co66),(.slice Ao67 x262001_8.length co67),Yh,H',⟨by have:=HK1.out;have:=HJ8.out;omega⟩,⟨by (with_reducible repeat (first|apply Kd.R_alloc|apply Kd.R_drewN|apply Kd.R_drew));exact Kd.R_mono (Kd.R_far (p:=⟨gb283,1,none⟩) (Kd.R_far (p:=⟨gb283,0,none⟩) (Kd.R_types HO_262000.out BK283.out (by decide)) (fun _ hk=>hk.2) (.slice Ao70 t276.length co70)) (fun _ hk=>hk.2) (.slice Ao75 t279.length co75)) (fun _ hk=>hk.1.1.1)⟩,⟨by (with_reducible repeat (first|apply Kd.R_alloc|apply Kd.R_drewN|apply Kd.R_drew));exact Kd.R_mono (Kd.R_far (p:=⟨gb283,1,none⟩) (Kd.R_far (p:=⟨gb283,0,none⟩) (Kd.R_types HO_262001.out BK283.out (by decide)) (fun _ hk=>hk.2) (.slice Ao70 t276.length co70)) (fun _ hk=>hk.2) (.slice Ao75 t279.length co75)) (fun _ hk=>hk.1.1.1)⟩,⟨Yx⟩,⟨Yw⟩,⟨iIsS57⟩,⟨kB⟩,⟨bH⟩⟩
   ·rw [if_neg c6] at H
    have c6b0:decide (0 < x4_1) = false:=decide_eq_false c6
    clear c6
    replace H:=Option.bind_eq_some_iff.mp H
    obtain ⟨⟨t287,t288,t289⟩,A760,H⟩:=H
    replace H:((spec_l1Cur_pick.f s0_0 t288 t289 17).bind fun bt290=>((spec_CrashDisk.f k1 x262000_1 x262001_1 t287 bt290.1).bind fun bt293=>(if bt293.2.2 = true then ((spec_l1Cur_one.f s0_0 bt290.2.1 bt290.2.2 4).bind fun bt301=>(spec_l1Cur_disk.j2 k1 bt301.1 s0_0 bt301.2.1 bt301.2.2 x262000_1 x262001_1 bt293.1 bt293.2.1)) else (spec_l1Cur_disk.j2 k1 false s0_0 bt290.2.1 bt290.2.2 x262000_1 x262001_1 bt293.1 bt293.2.1)))) = some (r1,r2,r3,r4):=H
    have A76:=Aside0.mk A760
    clear A760
    replace H:=Option.bind_eq_some_iff.mp H
    obtain ⟨⟨t290,t291,t292⟩,A770,H⟩:=H
    replace H:((spec_CrashDisk.f k1 x262000_1 x262001_1 t287 t290).bind fun bt293=>(if bt293.2.2 = true then ((spec_l1Cur_one.f s0_0 t291 t292 4).bind fun bt301=>(spec_l1Cur_disk.j2 k1 bt301.1 s0_0 bt301.2.1 bt301.2.2 x262000_1 x262001_1 bt293.1 bt293.2.1)) else (spec_l1Cur_disk.j2 k1 false s0_0 t291 t292 x262000_1 x262001_1 bt293.1 bt293.2.1))) = some (r1,r2,r3,r4):=H
    have A77:=Aside0.mk A770
    clear A770
    replace H:=Option.bind_eq_some_iff.mp H
    obtain ⟨⟨t293,t296,t299⟩,A780,H⟩:=H
    replace H:(if t299 = true then ((spec_l1Cur_one.f s0_0 t291 t292 4).bind fun bt301=>(spec_l1Cur_disk.j2 k1 bt301.1 s0_0 bt301.2.1 bt301.2.2 x262000_1 x262001_1 t293 t296)) else (spec_l1Cur_disk.j2 k1 false s0_0 t291 t292 x262000_1 x262001_1 t293 t296)) = some (r1,r2,r3,r4):=H
    have A78:=Aside0.mk A780
    clear A780
    have HC79:=Aside0.mk H
    clear H
    obtain ⟨Ao80,co80,eo80⟩:=Kd.R_slice HO_262000.out
    subst eo80
    obtain ⟨Ao81,co81,eo81⟩:=Kd.R_slice HO_262001.out
    subst eo81
    try go_wp2
    replace HO_262000:=Aside0.mk (Kd.R_drew HO_262000.out);replace HO_262001:=Aside0.mk (Kd.R_drew HO_262001.out);replace BK260:=Aside0.mk (blk_drew BK260.out);replace BK261:=Aside0.mk (blk_drew BK261.out);replace HI0:=Aside0.mk (IsS57.drew HI0.out);replace HK:=Aside0.mk (keep_drew HK.out);replace HB:=Aside0.mk (below_drew1 HB.out)
    refine start_ (n:=16) (S:=fun w'=>w'.cell? ⟨gb261,0,none⟩ = some (.slice Ao80 x262000_1.length co80) ∧ w'.cell? ⟨gb261,1,none⟩ = some (.slice Ao81 x262001_1.length co81)) (ds:=[]) #[false,false,false,false,false,false,false,false,false,false,false,false,false,false,false,false] (by kernel_rfl) rfl rfl ⟨(blk_cell BK261.out 0).trans rfl,(blk_cell BK261.out 1).trans rfl⟩ (fun hHeld=>?_);refine with_tabW spec_l1Cur_disk.tab11 spec_l1Cur_disk.bits11 (fun HT_ HW_=>?_)
    generalize wr.drew = w82 at HO_262000 HO_262001 BK260 BK261 HI0 HK HB hHeld ⊢
    refine pU (i:=1) (N:=some 39) #[false,true,false,false,false,false,false,false,false,false,false,false,false,false,false,false] (any_of HT_.out (by kernel_rfl)) ?_
    refine pU (i:=2) (N:=some 40) #[false,true,true,false,false,false,false,false,false,false,false,false,false,false,false,false] (any_of HT_.out (by kernel_rfl)) ?_
    refine pU (i:=7) (N:=some 45) #[false,true,true,false,false,false,false,true,false,false,false,false,false,false,false,false] (any_of HT_.out (by kernel_rfl)) ?_
    refine take_ (i:=0) (N:=some 38) (v:=?_) (a':=?_) #[true,true,true,false,false,false,false,true,false,false,false,false,false,false,false,false] rfl rfl (take_ofW HT_.out HW_.out (by kernel_rfl)) (fun _ _ _ h=>h) (Or.inl ⟨by rfl,?_⟩) hHeld ?_ ?_
    rotate_left
    ·rintro w' ⟨s0,s1⟩
     go_simp
     with_reducible rfl
    rotate_left
    ·simp only [Act.put,List.setIfInBounds_toArray,List.set_cons_zero,List.set_cons_succ,i64_w,i32_w]
     rfl
    refine take_ (i:=3) (N:=some 41) (v:=?_) (a':=?_) #[true,true,true,true,false,false,false,true,false,false,false,false,false,false,false,false] rfl rfl (take_ofW HT_.out HW_.out (by kernel_rfl)) (fun _ _ _ h=>h) (Or.inl ⟨by rfl,?_⟩) hHeld ?_ ?_
    rotate_left
    ·rintro w' ⟨s0,s1⟩
     go_simp
     with_reducible rfl
    rotate_left
    ·simp only [Act.put,List.setIfInBounds_toArray,List.set_cons_zero,List.set_cons_succ,i64_w,i32_w]
     rfl
    refine pU (i:=4) (N:=some 42) #[true,true,true,true,true,false,false,true,false,false,false,false,false,false,false,false] (any_of HT_.out (by kernel_rfl)) ?_
    refine pU (i:=5) (N:=some 43) #[true,true,true,true,true,true,false,true,false,false,false,false,false,false,false,false] (any_of HT_.out (by kernel_rfl)) ?_
    refine join_ (σ:=Value × Value × Nat) 2 #[true,true,true,true,true,true,true,true,true,true,true,true,true,true,false,false] (fun s_=>[(44,.int .i64 t287),(46,.int .i64 t290),(47,.tuple #[.agg #[s_.1,s_.2.1],.bool t299]),(9,.pointer (some ⟨s_.2.2,0,none⟩)),(37,.tuple #[.agg #[s_.1,s_.2.1],.bool t299]),(48,.agg #[s_.1,s_.2.1]),(49,.bool t299)]) (fun s_ w'=>(w'.cell? ⟨gb261,0,none⟩ = some (.slice Ao80 x262000_1.length co80) ∧ w'.cell? ⟨gb261,1,none⟩ = some (.slice Ao81 x262001_1.length co81)) ∧ (Kd.R Kd.string 9 w' w.heap.size (fun k_=>some k_ ≠ (s_.2.1:Value).ownBlock ∧ some k_ ≠ (.slice Ao80 x262000_1.length co80:Value).ownBlock ∧ some k_ ≠ (.slice Ao81 x262001_1.length co81:Value).ownBlock) s_.1 t293) ∧ (Kd.R Kd.string 9 w' w.heap.size (fun k_=>some k_ ≠ (s_.1:Value).ownBlock ∧ some k_ ≠ (.slice Ao80 x262000_1.length co80:Value).ownBlock ∧ some k_ ≠ (.slice Ao81 x262001_1.length co81:Value).ownBlock) s_.2.1 t296) ∧ (Kd.R Kd.string 9 w' w.heap.size (fun k_=>some k_ ≠ (s_.1:Value).ownBlock ∧ some k_ ≠ (s_.2.1:Value).ownBlock ∧ some k_ ≠ (.slice Ao81 x262001_1.length co81:Value).ownBlock) (.slice Ao80 x262000_1.length co80) x262000_1) ∧ (Kd.R Kd.string 9 w' w.heap.size (fun k_=>some k_ ≠ (s_.1:Value).ownBlock ∧ some k_ ≠ (s_.2.1:Value).ownBlock ∧ some k_ ≠ (.slice Ao80 x262000_1.length co80:Value).ownBlock) (.slice Ao81 x262001_1.length co81) x262001_1) ∧ (w'.heap[gb260]? = some (.cells #[.slice none 0 0,.slice none 0 0] 26 (0,0))) ∧ (w'.heap[gb261]? = some (.cells #[.slice Ao80 x262000_1.length co80,.slice Ao81 x262001_1.length co81] 26 (0,0))) ∧ (w'.heap[s_.2.2]? = some (.cells #[.slice none 0 0,.slice none 0 0] 26 (0,0))) ∧ (w.heap.size ≤ s_.2.2) ∧ (w0.heap.size ≤ s_.2.2) ∧ (g ≠ s_.2.2) ∧ (s_.2.2 ≠ g) ∧ (gb260 ≠ s_.2.2) ∧ (s_.2.2 ≠ gb260) ∧ (gb261 ≠ s_.2.2) ∧ (s_.2.2 ≠ gb261) ∧ (IsS57 w0 w' g s0_0 t291 t292) ∧ (KeepBut w w' g none) ∧ (Below w0.heap.size w0 w')) ?_ ?_
    rotate_left
    ·intro hCont
     refine two_ (i:=6) (j:=13) (Ni:=some 44) (Nj:=some 9) #[true,true,true,true,true,true,true,true,false,false,false,false,false,false,false,false] #[true,true,true,true,true,true,false,true,false,false,false,false,false,true,false,false] rfl rfl rfl rfl (two_of HT_.out (by kernel_rfl)) (by decide) (by decide) (fun K hK=>?_) (fun K hK=>?_)
     ·skip
      refine goes_ Try.func43 (by kernel_rfl) rfl #[.pointer (some ⟨g,0,none⟩),.int .i64 (wrap64 ((x262001_1.length:Int) + 1))] (by rfl) rfl rfl Ya ?_
      with_reducible refine (spec_l1Cur_pick.calls g s0_0 x1001_1 x1002_1 (wrap64 ((x262001_1.length:Int) + 1)) t287 t288 t289 w0 _ ?side1 ?side2 A76.out).mono ?_
      (case side1=>exact iIsS57)
      (case side2=>exact bH)
      rintro e w83 ⟨rfl,hi,hb,hk⟩
      refine ⟨_,rfl,?_⟩
      replace HO_262000:=Aside0.mk (Kd.R_mono (Kd.R_keep (IsS57.apart (show IsS57 w0 _ g s0_0 x1001_1 x1002_1 from iIsS57) (rR HO_262000) (by decide)) hk (fun _ h=>h.2)) (fun _ h=>h.1));replace HO_262001:=Aside0.mk (Kd.R_mono (Kd.R_keep (IsS57.apart (show IsS57 w0 _ g s0_0 x1001_1 x1002_1 from iIsS57) (rR HO_262001) (by decide)) hk (fun _ h=>h.2)) (fun _ h=>h.1));replace BK260:=Aside0.mk (KeepBut.blk hk (g':=gb260) (o:=.cells #[.slice none 0 0,.slice none 0 0] 26 (0,0)) (bB BK260) NB260_0.out (by simp));replace BK261:=Aside0.mk (KeepBut.blk hk (g':=gb261) (o:=.cells #[.slice Ao80 x262000_1.length co80,.slice Ao81 x262001_1.length co81] 26 (0,0)) (bB BK261) NB261_0.out (by simp));replace HK:=Aside0.mk (KeepBut.trans kB hk (.inl rfl));replace HB:=Aside0.mk (hb);replace HI0:=Aside0.mk (hi)
      (try clear hb)
      (try clear hb2)
      (try clear hk)
      (try clear hi)
      refine hK.out _ _ ⟨(blk_cell BK261.out 0).trans rfl,(blk_cell BK261.out 1).trans rfl⟩ (fun hHeld=>?_)
      clear hK K
      refine nM (N:=some 44) ?_
      refine two_ (i:=8) (j:=13) (Ni:=some 46) (Nj:=some 9) #[true,true,true,true,true,true,true,true,true,false,false,false,false,false,false,false] #[true,true,true,true,true,true,true,true,false,false,false,false,false,true,false,false] rfl rfl rfl rfl (two_of HT_.out (by kernel_rfl)) (by decide) (by decide) (fun K hK=>?_) (fun K hK=>?_)
      ·skip
       refine goes_ Try.func43 (by kernel_rfl) rfl #[.pointer (some ⟨g,0,none⟩),.int .i64 17] (by rfl) rfl rfl Ya ?_
       with_reducible refine (spec_l1Cur_pick.calls g s0_0 t288 t289 17 t290 t291 t292 w0 _ ?side1 ?side2 A77.out).mono ?_
       (case side1=>exact iIsS57)
       (case side2=>exact bH)
       rintro e w84 ⟨rfl,hi,hb,hk⟩
       refine ⟨_,rfl,?_⟩
       replace HO_262000:=Aside0.mk (Kd.R_mono (Kd.R_keep (IsS57.apart (show IsS57 w0 _ g s0_0 t288 t289 from iIsS57) (rR HO_262000) (by decide)) hk (fun _ h=>h.2)) (fun _ h=>h.1));replace HO_262001:=Aside0.mk (Kd.R_mono (Kd.R_keep (IsS57.apart (show IsS57 w0 _ g s0_0 t288 t289 from iIsS57) (rR HO_262001) (by decide)) hk (fun _ h=>h.2)) (fun _ h=>h.1));replace BK260:=Aside0.mk (KeepBut.blk hk (g':=gb260) (o:=.cells #[.slice none 0 0,.slice none 0 0] 26 (0,0)) (bB BK260) NB260_0.out (by simp));replace BK261:=Aside0.mk (KeepBut.blk hk (g':=gb261) (o:=.cells #[.slice Ao80 x262000_1.length co80,.slice Ao81 x262001_1.length co81] 26 (0,0)) (bB BK261) NB261_0.out (by simp));replace HK:=Aside0.mk (KeepBut.trans kB hk (.inl rfl));replace HB:=Aside0.mk (hb);replace HI0:=Aside0.mk (hi)
       (try clear hb)
       (try clear hb2)
       (try clear hk)
       (try clear hi)
       refine hK.out _ _ ⟨(blk_cell BK261.out 0).trans rfl,(blk_cell BK261.out 1).trans rfl⟩ (fun hHeld=>?_)
       clear hK K
       refine nM (N:=some 46) ?_
       refine two_ (i:=9) (j:=13) (Ni:=some 47) (Nj:=some 9) #[true,true,true,true,true,true,true,true,true,true,false,false,false,false,false,false] #[true,true,true,true,true,true,true,true,true,false,false,false,false,true,false,false] rfl rfl rfl rfl (two_of HT_.out (by kernel_rfl)) (by decide) (by decide) (fun K hK=>?_) (fun K hK=>?_)
       ·skip
        refine goes_ Try.func9 (by kernel_rfl) rfl #[.agg #[.slice Ao80 x262000_1.length co80,.slice Ao81 x262001_1.length co81],.int .i64 t287,.int .i64 t290] (by rfl) rfl rfl Ya ?_
        with_reducible refine (spec_CrashDisk.calls k1 _ _ x262000_1 _ _ x262001_1 t287 t290 t293 t296 t299 _ ?side1 ?side2 ?side3 ?side4 A78.out).mono ?_
        (case side1=>repeat (first|exact (Kd.R_reads' HO_262000.out).2.2|(with_reducible refine Kd.C_alloc ?_ _)|(with_reducible refine Kd.C_drewN ?_ _)|(with_reducible refine Kd.C_drew ?_)))
        (case side2=>exact ZF)
        (case side3=>repeat (first|exact (Kd.R_reads' HO_262001.out).2.2|(with_reducible refine Kd.C_alloc ?_ _)|(with_reducible refine Kd.C_drewN ?_ _)|(with_reducible refine Kd.C_drew ?_)))
        (case side4=>exact ZE)
        rintro e w85 ⟨v294,v297,rfl,ho0,ho1,hb⟩
        refine ⟨_,rfl,?_⟩
        have HO295:=Aside0.mk (Kd.R_lower (Kd.R_new' (Kd.R_new' ho0 (Kd.R_lt (rR HO_262000))) (Kd.R_lt (rR HO_262001))) (keep_size (w:=w) (g:=g) (row:=none) kB));have HO298:=Aside0.mk (Kd.R_lower (Kd.R_new' (Kd.R_new' ho1 (Kd.R_lt (rR HO_262000))) (Kd.R_lt (rR HO_262001))) (keep_size (w:=w) (g:=g) (row:=none) kB));replace HO_262000:=Aside0.mk (Kd.R_mono (Kd.R_told (Kd.R_told (Kd.R_old (rR HO_262000) hb) (Kd.R_base ho0)) (Kd.R_base ho1)) (fun _ h_=>h_.1));replace HO_262001:=Aside0.mk (Kd.R_mono (Kd.R_told (Kd.R_told (Kd.R_old (rR HO_262001) hb) (Kd.R_base ho0)) (Kd.R_base ho1)) (fun _ h_=>h_.1));replace BK260:=Aside0.mk (blk_below (bB BK260) hb);replace BK261:=Aside0.mk (blk_below (bB BK261) hb);replace HK:=Aside0.mk (KeepBut.trans kB (KeepBut.of_below hb g none) (.inl rfl));replace HB:=Aside0.mk (below_step bH hb);replace HI0:=Aside0.mk (IsS57.below iIsS57 hb)
        (try clear hb)
        (try clear hb2)
        (try clear hk)
        (try clear hi)
        (try clear ho0)
        (try clear ho1)
        refine hK.out _ _ ⟨(blk_cell BK261.out 0).trans rfl,(blk_cell BK261.out 1).trans rfl⟩ (fun hHeld=>?_)
        clear hK K
        refine nM (N:=some 47) ?_
        refine pU (i:=10) (N:=some 37) #[true,true,true,true,true,true,true,true,true,true,true,false,false,false,false,false] (any_of HT_.out (by kernel_rfl)) ?_
        refine pU (i:=11) (N:=some 48) #[true,true,true,true,true,true,true,true,true,true,true,true,false,false,false,false] (any_of HT_.out (by kernel_rfl)) ?_
        refine pU (i:=12) (N:=some 49) #[true,true,true,true,true,true,true,true,true,true,true,true,true,false,false,false] (any_of HT_.out (by kernel_rfl)) ?_
        refine one_ (i:=13) (N:=some 9) #[true,true,true,true,true,true,true,true,true,true,true,true,true,true,false,false] rfl rfl (one_of HT_.out (by kernel_rfl)) (by decide) (fun K hK=>?_)
        refine box_step ?hg (N:=9) ?hd (cs:=#[.slice none 0 0,.slice none 0 0]) (t:=26) ?hr ?_;(case hd=>rfl);(case hg=>rfl);(case hr=>exact Yg)
        intro gb300 hg w86 hbox hb
        replace HO_262000:=Aside0.mk (Kd.R_below (rR HO_262000) hb);replace HO_262001:=Aside0.mk (Kd.R_below (rR HO_262001) hb);replace HO295:=Aside0.mk (Kd.R_below (rR HO295) hb);replace HO298:=Aside0.mk (Kd.R_below (rR HO298) hb);replace HB:=Aside0.mk (below_step bH hb);have BK300:=Aside0.mk (hbox);have GW300:=Aside0.mk ((by rw [hg];exact (keep_size (w:=w) (g:=g) (row:=none) kB):w.heap.size ≤ gb300));have GE300:=Aside0.mk ((Nat.le_trans HW0.out (by rw [hg];exact (keep_size (w:=w) (g:=g) (row:=none) kB):w.heap.size ≤ gb300):w0.heap.size ≤ gb300));replace HK:=Aside0.mk (KeepBut.trans kB (KeepBut.of_below hb g none) (.inl rfl));have NB260_300:=Aside0.mk ((nL BK260:gb260 ≠ gb300));have NB300_260:=Aside0.mk ((nG BK260:gb300 ≠ gb260));replace BK260:=Aside0.mk (blk_below (bB BK260) hb);have NB261_300:=Aside0.mk ((nL BK261:gb261 ≠ gb300));have NB300_261:=Aside0.mk ((nG BK261:gb300 ≠ gb261));replace BK261:=Aside0.mk (blk_below (bB BK261) hb);have NB0_300:=Aside0.mk ((by rw [hg];exact Nat.ne_of_lt (IsS57.lt (show IsS57 w0 _ g s0_0 t291 t292 from iIsS57)):g ≠ gb300));have NB300_0:=Aside0.mk ((by rw [hg];exact Nat.ne_of_gt (IsS57.lt (show IsS57 w0 _ g s0_0 t291 t292 from iIsS57)):gb300 ≠ g));replace HI0:=Aside0.mk (IsS57.below iIsS57 hb)
        clear hb hbox hg
        refine hK.out _ _ ⟨(blk_cell BK261.out 0).trans rfl,(blk_cell BK261.out 1).trans rfl⟩ (fun hHeld=>?_)
        clear hK K
        refine nM (N:=some 9) ?_
        exact norm_ Yi (hCont (v294,v297,gb300) _ ⟨hHeld,YN,YM,Ys,Yr,(bB BK260),(bB BK261),(bB BK300),GW300.out,GE300.out,NB0_300.out,NB300_0.out,NB260_300.out,NB300_260.out,NB261_300.out,NB300_261.out,iIsS57,kB,bH⟩)
       ·skip
        refine box_step ?hg (N:=9) ?hd (cs:=#[.slice none 0 0,.slice none 0 0]) (t:=26) ?hr ?_;(case hd=>rfl);(case hg=>rfl);(case hr=>exact Yg)
        intro gb300 hg w85 hbox hb
        replace HO_262000:=Aside0.mk (Kd.R_below (rR HO_262000) hb);replace HO_262001:=Aside0.mk (Kd.R_below (rR HO_262001) hb);replace HB:=Aside0.mk (below_step bH hb);have BK300:=Aside0.mk (hbox);have GW300:=Aside0.mk ((by rw [hg];exact (keep_size (w:=w) (g:=g) (row:=none) kB):w.heap.size ≤ gb300));have GE300:=Aside0.mk ((Nat.le_trans HW0.out (by rw [hg];exact (keep_size (w:=w) (g:=g) (row:=none) kB):w.heap.size ≤ gb300):w0.heap.size ≤ gb300));replace HK:=Aside0.mk (KeepBut.trans kB (KeepBut.of_below hb g none) (.inl rfl));have NB260_300:=Aside0.mk ((nL BK260:gb260 ≠ gb300));have NB300_260:=Aside0.mk ((nG BK260:gb300 ≠ gb260));replace BK260:=Aside0.mk (blk_below (bB BK260) hb);have NB261_300:=Aside0.mk ((nL BK261:gb261 ≠ gb300));have NB300_261:=Aside0.mk ((nG BK261:gb300 ≠ gb261));replace BK261:=Aside0.mk (blk_below (bB BK261) hb);have NB0_300:=Aside0.mk ((by rw [hg];exact Nat.ne_of_lt (IsS57.lt (show IsS57 w0 _ g s0_0 t291 t292 from iIsS57)):g ≠ gb300));have NB300_0:=Aside0.mk ((by rw [hg];exact Nat.ne_of_gt (IsS57.lt (show IsS57 w0 _ g s0_0 t291 t292 from iIsS57)):gb300 ≠ g));replace HI0:=Aside0.mk (IsS57.below iIsS57 hb)
        clear hb hbox hg
        refine hK.out _ _ ⟨(blk_cell BK261.out 0).trans rfl,(blk_cell BK261.out 1).trans rfl⟩ (fun hHeld=>?_)
        clear hK K
        refine nM (N:=some 9) ?_
        refine one_ (i:=9) (N:=some 47) #[true,true,true,true,true,true,true,true,true,true,false,false,false,true,false,false] rfl rfl (one_of HT_.out (by kernel_rfl)) (by decide) (fun K hK=>?_)
        refine goes_ Try.func9 (by kernel_rfl) rfl #[.agg #[.slice Ao80 x262000_1.length co80,.slice Ao81 x262001_1.length co81],.int .i64 t287,.int .i64 t290] (by rfl) rfl rfl Ya ?_
        with_reducible refine (spec_CrashDisk.calls k1 _ _ x262000_1 _ _ x262001_1 t287 t290 t293 t296 t299 _ ?side1 ?side2 ?side3 ?side4 A78.out).mono ?_
        (case side1=>repeat (first|exact (Kd.R_reads' HO_262000.out).2.2|(with_reducible refine Kd.C_alloc ?_ _)|(with_reducible refine Kd.C_drewN ?_ _)|(with_reducible refine Kd.C_drew ?_)))
        (case side2=>exact ZF)
        (case side3=>repeat (first|exact (Kd.R_reads' HO_262001.out).2.2|(with_reducible refine Kd.C_alloc ?_ _)|(with_reducible refine Kd.C_drewN ?_ _)|(with_reducible refine Kd.C_drew ?_)))
        (case side4=>exact ZE)
        rintro e w86 ⟨v294,v297,rfl,ho0,ho1,hb⟩
        refine ⟨_,rfl,?_⟩
        have HO295:=Aside0.mk (Kd.R_lower (Kd.R_new' (Kd.R_new' ho0 (Kd.R_lt (rR HO_262000))) (Kd.R_lt (rR HO_262001))) (keep_size (w:=w) (g:=g) (row:=none) kB));have HO298:=Aside0.mk (Kd.R_lower (Kd.R_new' (Kd.R_new' ho1 (Kd.R_lt (rR HO_262000))) (Kd.R_lt (rR HO_262001))) (keep_size (w:=w) (g:=g) (row:=none) kB));replace HO_262000:=Aside0.mk (Kd.R_mono (Kd.R_told (Kd.R_told (Kd.R_old (rR HO_262000) hb) (Kd.R_base ho0)) (Kd.R_base ho1)) (fun _ h_=>h_.1));replace HO_262001:=Aside0.mk (Kd.R_mono (Kd.R_told (Kd.R_told (Kd.R_old (rR HO_262001) hb) (Kd.R_base ho0)) (Kd.R_base ho1)) (fun _ h_=>h_.1));replace BK260:=Aside0.mk (blk_below (bB BK260) hb);replace BK261:=Aside0.mk (blk_below (bB BK261) hb);replace BK300:=Aside0.mk (blk_below (bB BK300) hb);replace HK:=Aside0.mk (KeepBut.trans kB (KeepBut.of_below hb g none) (.inl rfl));replace HB:=Aside0.mk (below_step bH hb);replace HI0:=Aside0.mk (IsS57.below iIsS57 hb)
        (try clear hb)
        (try clear hb2)
        (try clear hk)
        (try clear hi)
        (try clear ho0)
        (try clear ho1)
        refine hK.out _ _ ⟨(blk_cell BK261.out 0).trans rfl,(blk_cell BK261.out 1).trans rfl⟩ (fun hHeld=>?_)
        clear hK K
        refine nM (N:=some 47) ?_
        refine pU (i:=10) (N:=some 37) #[true,true,true,true,true,true,true,true,true,true,true,false,false,true,false,false] (any_of HT_.out (by kernel_rfl)) ?_
        refine pU (i:=11) (N:=some 48) #[true,true,true,true,true,true,true,true,true,true,true,true,false,true,false,false] (any_of HT_.out (by kernel_rfl)) ?_
        refine pU (i:=12) (N:=some 49) #[true,true,true,true,true,true,true,true,true,true,true,true,true,true,false,false] (any_of HT_.out (by kernel_rfl)) ?_
        exact norm_ Yi (hCont (v294,v297,gb300) _ ⟨hHeld,YN,YM,Ys,Yr,(bB BK260),(bB BK261),(bB BK300),GW300.out,GE300.out,NB0_300.out,NB300_0.out,NB260_300.out,NB300_260.out,NB261_300.out,NB300_261.out,iIsS57,kB,bH⟩)
      ·skip
       refine box_step ?hg (N:=9) ?hd (cs:=#[.slice none 0 0,.slice none 0 0]) (t:=26) ?hr ?_;(case hd=>rfl);(case hg=>rfl);(case hr=>exact Yg)
       intro gb300 hg w84 hbox hb
       replace HO_262000:=Aside0.mk (Kd.R_below (rR HO_262000) hb);replace HO_262001:=Aside0.mk (Kd.R_below (rR HO_262001) hb);replace HB:=Aside0.mk (below_step bH hb);have BK300:=Aside0.mk (hbox);have GW300:=Aside0.mk ((by rw [hg];exact (keep_size (w:=w) (g:=g) (row:=none) kB):w.heap.size ≤ gb300));have GE300:=Aside0.mk ((Nat.le_trans HW0.out (by rw [hg];exact (keep_size (w:=w) (g:=g) (row:=none) kB):w.heap.size ≤ gb300):w0.heap.size ≤ gb300));replace HK:=Aside0.mk (KeepBut.trans kB (KeepBut.of_below hb g none) (.inl rfl));have NB260_300:=Aside0.mk ((nL BK260:gb260 ≠ gb300));have NB300_260:=Aside0.mk ((nG BK260:gb300 ≠ gb260));replace BK260:=Aside0.mk (blk_below (bB BK260) hb);have NB261_300:=Aside0.mk ((nL BK261:gb261 ≠ gb300));have NB300_261:=Aside0.mk ((nG BK261:gb300 ≠ gb261));replace BK261:=Aside0.mk (blk_below (bB BK261) hb);have NB0_300:=Aside0.mk ((by rw [hg];exact Nat.ne_of_lt (IsS57.lt (show IsS57 w0 _ g s0_0 t288 t289 from iIsS57)):g ≠ gb300));have NB300_0:=Aside0.mk ((by rw [hg];exact Nat.ne_of_gt (IsS57.lt (show IsS57 w0 _ g s0_0 t288 t289 from iIsS57)):gb300 ≠ g));replace HI0:=Aside0.mk (IsS57.below iIsS57 hb)
       clear hb hbox hg
       refine hK.out _ _ ⟨(blk_cell BK261.out 0).trans rfl,(blk_cell BK261.out 1).trans rfl⟩ (fun hHeld=>?_)
       clear hK K
       refine nM (N:=some 9) ?_
       refine one_ (i:=8) (N:=some 46) #[true,true,true,true,true,true,true,true,true,false,false,false,false,true,false,false] rfl rfl (one_of HT_.out (by kernel_rfl)) (by decide) (fun K hK=>?_)
       refine goes_ Try.func43 (by kernel_rfl) rfl #[.pointer (some ⟨g,0,none⟩),.int .i64 17] (by rfl) rfl rfl Ya ?_
       with_reducible refine (spec_l1Cur_pick.calls g s0_0 t288 t289 17 t290 t291 t292 w0 _ ?side1 ?side2 A77.out).mono ?_
       (case side1=>exact iIsS57)
       (case side2=>exact bH)
       rintro e w85 ⟨rfl,hi,hb,hk⟩
       refine ⟨_,rfl,?_⟩
       replace HO_262000:=Aside0.mk (Kd.R_mono (Kd.R_keep (IsS57.apart (show IsS57 w0 _ g s0_0 t288 t289 from iIsS57) (rR HO_262000) (by decide)) hk (fun _ h=>h.2)) (fun _ h=>h.1));replace HO_262001:=Aside0.mk (Kd.R_mono (Kd.R_keep (IsS57.apart (show IsS57 w0 _ g s0_0 t288 t289 from iIsS57) (rR HO_262001) (by decide)) hk (fun _ h=>h.2)) (fun _ h=>h.1));replace BK260:=Aside0.mk (KeepBut.blk hk (g':=gb260) (o:=.cells #[.slice none 0 0,.slice none 0 0] 26 (0,0)) (bB BK260) NB260_0.out (by simp));replace BK261:=Aside0.mk (KeepBut.blk hk (g':=gb261) (o:=.cells #[.slice Ao80 x262000_1.length co80,.slice Ao81 x262001_1.length co81] 26 (0,0)) (bB BK261) NB261_0.out (by simp));replace BK300:=Aside0.mk (KeepBut.blk hk (g':=gb300) (o:=.cells #[.slice none 0 0,.slice none 0 0] 26 (0,0)) (bB BK300) NB300_0.out (by simp));replace HK:=Aside0.mk (KeepBut.trans kB hk (.inl rfl));replace HB:=Aside0.mk (hb);replace HI0:=Aside0.mk (hi)
       (try clear hb)
       (try clear hb2)
       (try clear hk)
       (try clear hi)
       refine hK.out _ _ ⟨(blk_cell BK261.out 0).trans rfl,(blk_cell BK261.out 1).trans rfl⟩ (fun hHeld=>?_)
       clear hK K
       refine nM (N:=some 46) ?_
       refine one_ (i:=9) (N:=some 47) #[true,true,true,true,true,true,true,true,true,true,false,false,false,true,false,false] rfl rfl (one_of HT_.out (by kernel_rfl)) (by decide) (fun K hK=>?_)
       refine goes_ Try.func9 (by kernel_rfl) rfl #[.agg #[.slice Ao80 x262000_1.length co80,.slice Ao81 x262001_1.length co81],.int .i64 t287,.int .i64 t290] (by rfl) rfl rfl Ya ?_
       with_reducible refine (spec_CrashDisk.calls k1 _ _ x262000_1 _ _ x262001_1 t287 t290 t293 t296 t299 _ ?side1 ?side2 ?side3 ?side4 A78.out).mono ?_
       (case side1=>repeat (first|exact (Kd.R_reads' HO_262000.out).2.2|(with_reducible refine Kd.C_alloc ?_ _)|(with_reducible refine Kd.C_drewN ?_ _)|(with_reducible refine Kd.C_drew ?_)))
       (case side2=>exact ZF)
       (case side3=>repeat (first|exact (Kd.R_reads' HO_262001.out).2.2|(with_reducible refine Kd.C_alloc ?_ _)|(with_reducible refine Kd.C_drewN ?_ _)|(with_reducible refine Kd.C_drew ?_)))
       (case side4=>exact ZE)
       rintro e w86 ⟨v294,v297,rfl,ho0,ho1,hb⟩
       refine ⟨_,rfl,?_⟩
       have HO295:=Aside0.mk (Kd.R_lower (Kd.R_new' (Kd.R_new' ho0 (Kd.R_lt (rR HO_262000))) (Kd.R_lt (rR HO_262001))) (keep_size (w:=w) (g:=g) (row:=none) kB));have HO298:=Aside0.mk (Kd.R_lower (Kd.R_new' (Kd.R_new' ho1 (Kd.R_lt (rR HO_262000))) (Kd.R_lt (rR HO_262001))) (keep_size (w:=w) (g:=g) (row:=none) kB));replace HO_262000:=Aside0.mk (Kd.R_mono (Kd.R_told (Kd.R_told (Kd.R_old (rR HO_262000) hb) (Kd.R_base ho0)) (Kd.R_base ho1)) (fun _ h_=>h_.1));replace HO_262001:=Aside0.mk (Kd.R_mono (Kd.R_told (Kd.R_told (Kd.R_old (rR HO_262001) hb) (Kd.R_base ho0)) (Kd.R_base ho1)) (fun _ h_=>h_.1));replace BK260:=Aside0.mk (blk_below (bB BK260) hb);replace BK261:=Aside0.mk (blk_below (bB BK261) hb);replace BK300:=Aside0.mk (blk_below (bB BK300) hb);replace HK:=Aside0.mk (KeepBut.trans kB (KeepBut.of_below hb g none) (.inl rfl));replace HB:=Aside0.mk (below_step bH hb);replace HI0:=Aside0.mk (IsS57.below iIsS57 hb)
       (try clear hb)
       (try clear hb2)
       (try clear hk)
       (try clear hi)
       (try clear ho0)
       (try clear ho1)
       refine hK.out _ _ ⟨(blk_cell BK261.out 0).trans rfl,(blk_cell BK261.out 1).trans rfl⟩ (fun hHeld=>?_)
       clear hK K
       refine nM (N:=some 47) ?_
       refine pU (i:=10) (N:=some 37) #[true,true,true,true,true,true,true,true,true,true,true,false,false,true,false,false] (any_of HT_.out (by kernel_rfl)) ?_
       refine pU (i:=11) (N:=some 48) #[true,true,true,true,true,true,true,true,true,true,true,true,false,true,false,false] (any_of HT_.out (by kernel_rfl)) ?_
       refine pU (i:=12) (N:=some 49) #[true,true,true,true,true,true,true,true,true,true,true,true,true,true,false,false] (any_of HT_.out (by kernel_rfl)) ?_
       exact norm_ Yi (hCont (v294,v297,gb300) _ ⟨hHeld,YN,YM,Ys,Yr,(bB BK260),(bB BK261),(bB BK300),GW300.out,GE300.out,NB0_300.out,NB300_0.out,NB260_300.out,NB300_260.out,NB261_300.out,NB300_261.out,iIsS57,kB,bH⟩)
     ·skip
      refine box_step ?hg (N:=9) ?hd (cs:=#[.slice none 0 0,.slice none 0 0]) (t:=26) ?hr ?_;(case hd=>rfl);(case hg=>rfl);(case hr=>exact Yg)
      intro gb300 hg w83 hbox hb
      replace HO_262000:=Aside0.mk (Kd.R_below (rR HO_262000) hb);replace HO_262001:=Aside0.mk (Kd.R_below (rR HO_262001) hb);replace HB:=Aside0.mk (below_step bH hb);have BK300:=Aside0.mk (hbox);have GW300:=Aside0.mk ((by rw [hg];exact (keep_size (w:=w) (g:=g) (row:=none) kB):w.heap.size ≤ gb300));have GE300:=Aside0.mk ((Nat.le_trans HW0.out (by rw [hg];exact (keep_size (w:=w) (g:=g) (row:=none) kB):w.heap.size ≤ gb300):w0.heap.size ≤ gb300));replace HK:=Aside0.mk (KeepBut.trans kB (KeepBut.of_below hb g none) (.inl rfl));have NB260_300:=Aside0.mk ((nL BK260:gb260 ≠ gb300));have NB300_260:=Aside0.mk ((nG BK260:gb300 ≠ gb260));replace BK260:=Aside0.mk (blk_below (bB BK260) hb);have NB261_300:=Aside0.mk ((nL BK261:gb261 ≠ gb300));have NB300_261:=Aside0.mk ((nG BK261:gb300 ≠ gb261));replace BK261:=Aside0.mk (blk_below (bB BK261) hb);have NB0_300:=Aside0.mk ((by rw [hg];exact Nat.ne_of_lt (IsS57.lt (show IsS57 w0 _ g s0_0 x1001_1 x1002_1 from iIsS57)):g ≠ gb300));have NB300_0:=Aside0.mk ((by rw [hg];exact Nat.ne_of_gt (IsS57.lt (show IsS57 w0 _ g s0_0 x1001_1 x1002_1 from iIsS57)):gb300 ≠ g));replace HI0:=Aside0.mk (IsS57.below iIsS57 hb)
      clear hb hbox hg
      refine hK.out _ _ ⟨(blk_cell BK261.out 0).trans rfl,(blk_cell BK261.out 1).trans rfl⟩ (fun hHeld=>?_)
      clear hK K
      refine nM (N:=some 9) ?_
      refine one_ (i:=6) (N:=some 44) #[true,true,true,true,true,true,true,true,false,false,false,false,false,true,false,false] rfl rfl (one_of HT_.out (by kernel_rfl)) (by decide) (fun K hK=>?_)
      refine goes_ Try.func43 (by kernel_rfl) rfl #[.pointer (some ⟨g,0,none⟩),.int .i64 (wrap64 ((x262001_1.length:Int) + 1))] (by rfl) rfl rfl Ya ?_
      with_reducible refine (spec_l1Cur_pick.calls g s0_0 x1001_1 x1002_1 (wrap64 ((x262001_1.length:Int) + 1)) t287 t288 t289 w0 _ ?side1 ?side2 A76.out).mono ?_
      (case side1=>exact iIsS57)
      (case side2=>exact bH)
      rintro e w84 ⟨rfl,hi,hb,hk⟩
      refine ⟨_,rfl,?_⟩
      replace HO_262000:=Aside0.mk (Kd.R_mono (Kd.R_keep (IsS57.apart (show IsS57 w0 _ g s0_0 x1001_1 x1002_1 from iIsS57) (rR HO_262000) (by decide)) hk (fun _ h=>h.2)) (fun _ h=>h.1));replace HO_262001:=Aside0.mk (Kd.R_mono (Kd.R_keep (IsS57.apart (show IsS57 w0 _ g s0_0 x1001_1 x1002_1 from iIsS57) (rR HO_262001) (by decide)) hk (fun _ h=>h.2)) (fun _ h=>h.1));replace BK260:=Aside0.mk (KeepBut.blk hk (g':=gb260) (o:=.cells #[.slice none 0 0,.slice none 0 0] 26 (0,0)) (bB BK260) NB260_0.out (by simp));replace BK261:=Aside0.mk (KeepBut.blk hk (g':=gb261) (o:=.cells #[.slice Ao80 x262000_1.length co80,.slice Ao81 x262001_1.length co81] 26 (0,0)) (bB BK261) NB261_0.out (by simp));replace BK300:=Aside0.mk (KeepBut.blk hk (g':=gb300) (o:=.cells #[.slice none 0 0,.slice none 0 0] 26 (0,0)) (bB BK300) NB300_0.out (by simp));replace HK:=Aside0.mk (KeepBut.trans kB hk (.inl rfl));replace HB:=Aside0.mk (hb);replace HI0:=Aside0.mk (hi)
      (try clear hb)
      (try clear hb2)
      (try clear hk)
      (try clear hi)
      refine hK.out _ _ ⟨(blk_cell BK261.out 0).trans rfl,(blk_cell BK261.out 1).trans rfl⟩ (fun hHeld=>?_)
      clear hK K
      refine nM (N:=some 44) ?_
      refine one_ (i:=8) (N:=some 46) #[true,true,true,true,true,true,true,true,true,false,false,false,false,true,false,false] rfl rfl (one_of HT_.out (by kernel_rfl)) (by decide) (fun K hK=>?_)
      refine goes_ Try.func43 (by kernel_rfl) rfl #[.pointer (some ⟨g,0,none⟩),.int .i64 17] (by rfl) rfl rfl Ya ?_
      with_reducible refine (spec_l1Cur_pick.calls g s0_0 t288 t289 17 t290 t291 t292 w0 _ ?side1 ?side2 A77.out).mono ?_
      (case side1=>exact iIsS57)
      (case side2=>exact bH)
      rintro e w85 ⟨rfl,hi,hb,hk⟩
      refine ⟨_,rfl,?_⟩
      replace HO_262000:=Aside0.mk (Kd.R_mono (Kd.R_keep (IsS57.apart (show IsS57 w0 _ g s0_0 t288 t289 from iIsS57) (rR HO_262000) (by decide)) hk (fun _ h=>h.2)) (fun _ h=>h.1));replace HO_262001:=Aside0.mk (Kd.R_mono (Kd.R_keep (IsS57.apart (show IsS57 w0 _ g s0_0 t288 t289 from iIsS57) (rR HO_262001) (by decide)) hk (fun _ h=>h.2)) (fun _ h=>h.1));replace BK260:=Aside0.mk (KeepBut.blk hk (g':=gb260) (o:=.cells #[.slice none 0 0,.slice none 0 0] 26 (0,0)) (bB BK260) NB260_0.out (by simp));replace BK261:=Aside0.mk (KeepBut.blk hk (g':=gb261) (o:=.cells #[.slice Ao80 x262000_1.length co80,.slice Ao81 x262001_1.length co81] 26 (0,0)) (bB BK261) NB261_0.out (by simp));replace BK300:=Aside0.mk (KeepBut.blk hk (g':=gb300) (o:=.cells #[.slice none 0 0,.slice none 0 0] 26 (0,0)) (bB BK300) NB300_0.out (by simp));replace HK:=Aside0.mk (KeepBut.trans kB hk (.inl rfl));replace HB:=Aside0.mk (hb);replace HI0:=Aside0.mk (hi)
      (try clear hb)
      (try clear hb2)
      (try clear hk)
      (try clear hi)
      refine hK.out _ _ ⟨(blk_cell BK261.out 0).trans rfl,(blk_cell BK261.out 1).trans rfl⟩ (fun hHeld=>?_)
      clear hK K
      refine nM (N:=some 46) ?_
      refine one_ (i:=9) (N:=some 47) #[true,true,true,true,true,true,true,true,true,true,false,false,false,true,false,false] rfl rfl (one_of HT_.out (by kernel_rfl)) (by decide) (fun K hK=>?_)
      refine goes_ Try.func9 (by kernel_rfl) rfl #[.agg #[.slice Ao80 x262000_1.length co80,.slice Ao81 x262001_1.length co81],.int .i64 t287,.int .i64 t290] (by rfl) rfl rfl Ya ?_
      with_reducible refine (spec_CrashDisk.calls k1 _ _ x262000_1 _ _ x262001_1 t287 t290 t293 t296 t299 _ ?side1 ?side2 ?side3 ?side4 A78.out).mono ?_
      (case side1=>repeat (first|exact (Kd.R_reads' HO_262000.out).2.2|(with_reducible refine Kd.C_alloc ?_ _)|(with_reducible refine Kd.C_drewN ?_ _)|(with_reducible refine Kd.C_drew ?_)))
      (case side2=>exact ZF)
      (case side3=>repeat (first|exact (Kd.R_reads' HO_262001.out).2.2|(with_reducible refine Kd.C_alloc ?_ _)|(with_reducible refine Kd.C_drewN ?_ _)|(with_reducible refine Kd.C_drew ?_)))
      (case side4=>exact ZE)
      rintro e w86 ⟨v294,v297,rfl,ho0,ho1,hb⟩
      refine ⟨_,rfl,?_⟩
      have HO295:=Aside0.mk (Kd.R_lower (Kd.R_new' (Kd.R_new' ho0 (Kd.R_lt (rR HO_262000))) (Kd.R_lt (rR HO_262001))) (keep_size (w:=w) (g:=g) (row:=none) kB));have HO298:=Aside0.mk (Kd.R_lower (Kd.R_new' (Kd.R_new' ho1 (Kd.R_lt (rR HO_262000))) (Kd.R_lt (rR HO_262001))) (keep_size (w:=w) (g:=g) (row:=none) kB));replace HO_262000:=Aside0.mk (Kd.R_mono (Kd.R_told (Kd.R_told (Kd.R_old (rR HO_262000) hb) (Kd.R_base ho0)) (Kd.R_base ho1)) (fun _ h_=>h_.1));replace HO_262001:=Aside0.mk (Kd.R_mono (Kd.R_told (Kd.R_told (Kd.R_old (rR HO_262001) hb) (Kd.R_base ho0)) (Kd.R_base ho1)) (fun _ h_=>h_.1));replace BK260:=Aside0.mk (blk_below (bB BK260) hb);replace BK261:=Aside0.mk (blk_below (bB BK261) hb);replace BK300:=Aside0.mk (blk_below (bB BK300) hb);replace HK:=Aside0.mk (KeepBut.trans kB (KeepBut.of_below hb g none) (.inl rfl));replace HB:=Aside0.mk (below_step bH hb);replace HI0:=Aside0.mk (IsS57.below iIsS57 hb)
      (try clear hb)
      (try clear hb2)
      (try clear hk)
      (try clear hi)
      (try clear ho0)
      (try clear ho1)
      refine hK.out _ _ ⟨(blk_cell BK261.out 0).trans rfl,(blk_cell BK261.out 1).trans rfl⟩ (fun hHeld=>?_)
      clear hK K
      refine nM (N:=some 47) ?_
      refine pU (i:=10) (N:=some 37) #[true,true,true,true,true,true,true,true,true,true,true,false,false,true,false,false] (any_of HT_.out (by kernel_rfl)) ?_
      refine pU (i:=11) (N:=some 48) #[true,true,true,true,true,true,true,true,true,true,true,true,false,true,false,false] (any_of HT_.out (by kernel_rfl)) ?_
      refine pU (i:=12) (N:=some 49) #[true,true,true,true,true,true,true,true,true,true,true,true,true,true,false,false] (any_of HT_.out (by kernel_rfl)) ?_
      exact norm_ Yi (hCont (v294,v297,gb300) _ ⟨hHeld,YN,YM,Ys,Yr,(bB BK260),(bB BK261),(bB BK300),GW300.out,GE300.out,NB0_300.out,NB300_0.out,NB260_300.out,NB300_260.out,NB261_300.out,NB300_261.out,iIsS57,kB,bH⟩)
    rintro ⟨v294,v297,gb300⟩ w87 ⟨hS_,h0_,h1_,h2_,h3_,h4_,h5_,h6_,h7_,h8_,h9_,h10_,h11_,h12_,h13_,h14_,h15_,h16_,h17_⟩
    have n0_:Aside0 (Kd.R Kd.string 9 w87 w.heap.size (fun k_=>some k_ ≠ (v297:Value).ownBlock ∧ some k_ ≠ (.slice Ao80 x262000_1.length co80:Value).ownBlock ∧ some k_ ≠ (.slice Ao81 x262001_1.length co81:Value).ownBlock) v294 t293):=⟨h0_⟩
    have n1_:Aside0 (Kd.R Kd.string 9 w87 w.heap.size (fun k_=>some k_ ≠ (v294:Value).ownBlock ∧ some k_ ≠ (.slice Ao80 x262000_1.length co80:Value).ownBlock ∧ some k_ ≠ (.slice Ao81 x262001_1.length co81:Value).ownBlock) v297 t296):=⟨h1_⟩
    have n2_:Aside0 (Kd.R Kd.string 9 w87 w.heap.size (fun k_=>some k_ ≠ (v294:Value).ownBlock ∧ some k_ ≠ (v297:Value).ownBlock ∧ some k_ ≠ (.slice Ao81 x262001_1.length co81:Value).ownBlock) (.slice Ao80 x262000_1.length co80) x262000_1):=⟨h2_⟩
    have n3_:Aside0 (Kd.R Kd.string 9 w87 w.heap.size (fun k_=>some k_ ≠ (v294:Value).ownBlock ∧ some k_ ≠ (v297:Value).ownBlock ∧ some k_ ≠ (.slice Ao80 x262000_1.length co80:Value).ownBlock) (.slice Ao81 x262001_1.length co81) x262001_1):=⟨h3_⟩
    have n4_:Aside0 (w87.heap[gb260]? = some (.cells #[.slice none 0 0,.slice none 0 0] 26 (0,0))):=⟨h4_⟩
    have n5_:Aside0 (w87.heap[gb261]? = some (.cells #[.slice Ao80 x262000_1.length co80,.slice Ao81 x262001_1.length co81] 26 (0,0))):=⟨h5_⟩
    have n6_:Aside0 (w87.heap[gb300]? = some (.cells #[.slice none 0 0,.slice none 0 0] 26 (0,0))):=⟨h6_⟩
    have n7_:Aside0 (w.heap.size ≤ gb300):=⟨h7_⟩
    have n8_:Aside0 (w0.heap.size ≤ gb300):=⟨h8_⟩
    have n9_:Aside0 (g ≠ gb300):=⟨h9_⟩
    have n10_:Aside0 (gb300 ≠ g):=⟨h10_⟩
    have n11_:Aside0 (gb260 ≠ gb300):=⟨h11_⟩
    have n12_:Aside0 (gb300 ≠ gb260):=⟨h12_⟩
    have n13_:Aside0 (gb261 ≠ gb300):=⟨h13_⟩
    have n14_:Aside0 (gb300 ≠ gb261):=⟨h14_⟩
    have n15_:Aside0 (IsS57 w0 w87 g s0_0 t291 t292):=⟨h15_⟩
    have n16_:Aside0 (KeepBut w w87 g none):=⟨h16_⟩
    have n17_:Aside0 (Below w0.heap.size w0 w87):=⟨h17_⟩
    clear HO_262000
    clear HO_262001
    clear BK260
    clear BK261
    clear HI0
    clear HK
    clear HB
    clear h0_ h1_ h2_ h3_ h4_ h5_ h6_ h7_ h8_ h9_ h10_ h11_ h12_ h13_ h14_ h15_ h16_ h17_
    have HO295:=n0_
    have HO298:=n1_
    have HO_262000:=n2_
    have HO_262001:=n3_
    have BK260:=n4_
    have BK261:=n5_
    have BK300:=n6_
    have GW300:=n7_
    have GE300:=n8_
    have NB0_300:=n9_
    have NB300_0:=n10_
    have NB260_300:=n11_
    have NB300_260:=n12_
    have NB261_300:=n13_
    have NB300_261:=n14_
    have HI0:=n15_
    have HK:=n16_
    have HB:=n17_
    clear n0_ n1_ n2_ n3_ n4_ n5_ n6_ n7_ n8_ n9_ n10_ n11_ n12_ n13_ n14_ n15_ n16_ n17_
    have hHeld:w87.cell? ⟨gb261,0,none⟩ = some (.slice Ao80 x262000_1.length co80) ∧ w87.cell? ⟨gb261,1,none⟩ = some (.slice Ao81 x262001_1.length co81):=hS_
    obtain ⟨Ao88,co88,eo88⟩:=Kd.R_slice HO295.out
    (first|subst eo88|(injection eo88 with f1_ f2_ f3_;have f4_:=f1_.symm;have f5_:=f3_.symm;clear f1_ f2_ f3_;subst f4_;subst f5_))
    obtain ⟨Ao90,co90,eo90⟩:=Kd.R_slice HO298.out
    (first|subst eo90|(injection eo90 with f1_ f2_ f3_;have f4_:=f1_.symm;have f5_:=f3_.symm;clear f1_ f2_ f3_;subst f4_;subst f5_))
    refine norm_ (a':=?_) ?_ ?_
    rotate_left
    ·simp only [putAll,Act.put,List.setIfInBounds_toArray,List.set_cons_zero,List.set_cons_succ]
     rfl
    refine one_ (i:=14) (N:=none) #[true,true,true,true,true,true,true,true,true,true,true,true,true,true,true,false] rfl rfl (one_of HT_.out (by kernel_rfl)) (by decide) (fun K hK=>?_)
    have hs89:w87.cell? ⟨gb300,0,none⟩ = some (.slice none 0 0):=(blk_cell BK300.out 0).trans rfl
    have hfs89:=blk_frozen BK300.out 0
    have hns89_0:=NB260_300.out
    have hns89_1:=NB261_300.out
    have hms89_0:=NB300_260.out
    have hms89_1:=NB300_261.out
    have hs91:w87.cell? ⟨gb300,1,none⟩ = some (.slice none 0 0):=(blk_cell BK300.out 1).trans rfl
    have hfs91:=blk_frozen BK300.out 1
    have hns91_0:=NB260_300.out
    have hns91_1:=NB261_300.out
    have hms91_0:=NB300_260.out
    have hms91_1:=NB300_261.out
    refine skip_ (w1:=?_) (by rfl) rfl ?_ ?_
    rotate_left
    ·go_simp
     rfl
    refine hK.out _ _ ⟨((cell_far (p:=⟨gb300,_,none⟩) NB261_300.out _).trans (((cell_far (p:=⟨gb300,_,none⟩) NB261_300.out _).trans (hHeld.1)))),((cell_far (p:=⟨gb300,_,none⟩) NB261_300.out _).trans (((cell_far (p:=⟨gb300,_,none⟩) NB261_300.out _).trans (hHeld.2))))⟩ (fun hHeld=>?_)
    clear hK K
    refine pU (i:=15) (N:=some 10) #[true,true,true,true,true,true,true,true,true,true,true,true,true,true,true,true] (any_of HT_.out (by kernel_rfl)) ?_
    refine done_ (done_of HT_.out (by kernel_rfl)) ?_
    go_upto_region 12 with (fail)
    go_cut [54] (fun v54 wc=>∃ (kq:Nat) (x54_78:Bool) (x1001_78:Int) (x1002_78:Int),v54 = .bool x54_78 ∧ Aside0 (spec_l1Cur_disk.j2 kq x54_78 s0_0 x1001_78 x1002_78 x262000_1 x262001_1 t293 t296 = some (r1,r2,r3,r4)) ∧ Aside0 (kq ≤ k1) ∧ Aside0 (Kd.R Kd.string 9 wc w.heap.size (fun k_=>some k_ ≠ ((.slice Ao81 x262001_1.length co81):Value).ownBlock ∧ some k_ ≠ ((.slice Ao88 t293.length co88):Value).ownBlock ∧ some k_ ≠ ((.slice Ao90 t296.length co90):Value).ownBlock) (.slice Ao80 x262000_1.length co80) x262000_1) ∧ Aside0 (Kd.R Kd.string 9 wc w.heap.size (fun k_=>some k_ ≠ ((.slice Ao80 x262000_1.length co80):Value).ownBlock ∧ some k_ ≠ ((.slice Ao88 t293.length co88):Value).ownBlock ∧ some k_ ≠ ((.slice Ao90 t296.length co90):Value).ownBlock) (.slice Ao81 x262001_1.length co81) x262001_1) ∧ Aside0 (Kd.R Kd.string 9 wc w.heap.size (fun k_=>some k_ ≠ ((.slice Ao80 x262000_1.length co80):Value).ownBlock ∧ some k_ ≠ ((.slice Ao81 x262001_1.length co81):Value).ownBlock ∧ some k_ ≠ ((.slice Ao90 t296.length co90):Value).ownBlock) (.slice Ao88 t293.length co88) t293) ∧ Aside0 (Kd.R Kd.string 9 wc w.heap.size (fun k_=>some k_ ≠ ((.slice Ao80 x262000_1.length co80):Value).ownBlock ∧ some k_ ≠ ((.slice Ao81 x262001_1.length co81):Value).ownBlock ∧ some k_ ≠ ((.slice Ao88 t293.length co88):Value).ownBlock) (.slice Ao90 t296.length co90) t296) ∧ Aside0 (wc.heap[gb260]? = some (.cells #[(.slice none 0 0),(.slice none 0 0)] 26 (0,0))) ∧ Aside0 (wc.heap[gb261]? = some (.cells #[(.slice Ao80 x262000_1.length co80),(.slice Ao81 x262001_1.length co81)] 26 (0,0))) ∧ Aside0 (wc.heap[gb300]? = some (.cells #[(.slice Ao88 t293.length co88),(.slice Ao90 t296.length co90)] 26 (0,0))) ∧ Aside0 (IsS57 w0 wc g s0_0 x1001_78 x1002_78) ∧ Aside0 (KeepBut w wc g none) ∧ Aside0 (Below w0.heap.size w0 wc))
    case first =>
     have H:=HC79.out
     clear HC79
     by_cases c92:t299 = true
     ·subst c92
      have H1:((spec_l1Cur_one.f s0_0 t291 t292 4).bind fun bt301=>(spec_l1Cur_disk.j2 k1 bt301.1 s0_0 bt301.2.1 bt301.2.2 x262000_1 x262001_1 t293 t296)) = some (r1,r2,r3,r4):=by rw [if_pos rfl] at H;exact H
      clear H
      have H:=H1
      clear H1
      replace H:=Option.bind_eq_some_iff.mp H
      obtain ⟨⟨t301,t302,t303⟩,A930,H⟩:=H
      replace H:(spec_l1Cur_disk.j2 k1 t301 s0_0 t302 t303 x262000_1 x262001_1 t293 t296) = some (r1,r2,r3,r4):=H
      have A93:=Aside0.mk A930
      clear A930
      have H':=Aside0.mk H
      clear H
      go_wp2_with (first|(go_at_call 60;(with_reducible refine (spec_l1Cur_one.calls g s0_0 t291 t292 4 t301 t302 t303 w0 _ ?side1 ?side2 A93.out).mono ?_);(case side1=>exact iIsS57);(case side2=>exact bH);rintro e w94 ⟨rfl,hi,hb,hk⟩;replace HO_262000:=Aside0.mk (Kd.R_mono (Kd.R_keep (IsS57.apart (show IsS57 w0 _ g s0_0 t291 t292 from iIsS57) (by (with_reducible repeat (first|apply Kd.R_alloc|apply Kd.R_drewN|apply Kd.R_drew));exact (Kd.R_mono (Kd.R_far (p:=⟨gb300,1,none⟩) (Kd.R_far (p:=⟨gb300,0,none⟩) (Kd.R_types HO_262000.out BK300.out (by decide)) (fun _ hk=>hk.2) (.slice Ao88 t293.length co88)) (fun _ hk=>hk.2) (.slice Ao90 t296.length co90)) (fun _ h_=>h_.1))) (by decide)) hk (fun _ h=>h.2)) (fun _ h=>h.1));replace HO_262001:=Aside0.mk (Kd.R_mono (Kd.R_keep (IsS57.apart (show IsS57 w0 _ g s0_0 t291 t292 from iIsS57) (by (with_reducible repeat (first|apply Kd.R_alloc|apply Kd.R_drewN|apply Kd.R_drew));exact (Kd.R_mono (Kd.R_far (p:=⟨gb300,1,none⟩) (Kd.R_far (p:=⟨gb300,0,none⟩) (Kd.R_types HO_262001.out BK300.out (by decide)) (fun _ hk=>hk.2) (.slice Ao88 t293.length co88)) (fun _ hk=>hk.2) (.slice Ao90 t296.length co90)) (fun _ h_=>h_.1))) (by decide)) hk (fun _ h=>h.2)) (fun _ h=>h.1));replace BK260:=Aside0.mk (KeepBut.blk hk (g':=gb260) (o:=.cells #[.slice none 0 0,.slice none 0 0] 26 (0,0)) Zk NB260_0.out (by simp));replace BK261:=Aside0.mk (KeepBut.blk hk (g':=gb261) (o:=.cells #[.slice Ao80 x262000_1.length co80,.slice Ao81 x262001_1.length co81] 26 (0,0)) Zj NB261_0.out (by simp));replace HO295:=Aside0.mk (Kd.R_mono (Kd.R_keep (IsS57.apart (show IsS57 w0 _ g s0_0 t291 t292 from iIsS57) (by (with_reducible repeat (first|apply Kd.R_alloc|apply Kd.R_drewN|apply Kd.R_drew));exact (Kd.R_mono (Kd.R_far (p:=⟨gb300,1,none⟩) (Kd.R_far (p:=⟨gb300,0,none⟩) (Kd.R_types HO295.out BK300.out (by decide)) (fun _ hk=>hk.2) (.slice Ao88 t293.length co88)) (fun _ hk=>hk.2) (.slice Ao90 t296.length co90)) (fun _ h_=>h_.1))) (by decide)) hk (fun _ h=>h.2)) (fun _ h=>h.1));replace HO298:=Aside0.mk (Kd.R_mono (Kd.R_keep (IsS57.apart (show IsS57 w0 _ g s0_0 t291 t292 from iIsS57) (by (with_reducible repeat (first|apply Kd.R_alloc|apply Kd.R_drewN|apply Kd.R_drew));exact (Kd.R_mono (Kd.R_far (p:=⟨gb300,1,none⟩) (Kd.R_far (p:=⟨gb300,0,none⟩) (Kd.R_types HO298.out BK300.out (by decide)) (fun _ hk=>hk.2) (.slice Ao88 t293.length co88)) (fun _ hk=>hk.2) (.slice Ao90 t296.length co90)) (fun _ h_=>h_.1))) (by decide)) hk (fun _ h=>h.2)) (fun _ h=>h.1));replace BK300:=Aside0.mk (KeepBut.blk hk (g':=gb300) (o:=.cells #[.slice Ao88 t293.length co88,.slice Ao90 t296.length co90] 26 (0,0)) YG NB300_0.out (by simp));replace HK:=Aside0.mk (KeepBut.trans kB hk (.inl rfl));replace HB:=Aside0.mk (hb);replace HI0:=Aside0.mk (hi);(try clear hb);(try clear hb2);(try clear hk);(try clear hi)))
      go_meet
      case rel=>exact ⟨_,(t301),(t302),(t303),Yh,H',⟨ZM⟩,⟨by (with_reducible repeat (first|apply Kd.R_alloc|apply Kd.R_drewN|apply Kd.R_drew));exact Kd.R_mono HO_262000.out (fun _ hk=>⟨hk.2.2,⟨hk.1,hk.2.1⟩⟩)⟩,⟨by (with_reducible repeat (first|apply Kd.R_alloc|apply Kd.R_drewN|apply Kd.R_drew));exact Kd.R_mono HO_262001.out (fun _ hk=>⟨hk.2.2,⟨hk.1,hk.2.1⟩⟩)⟩,⟨by (with_reducible repeat (first|apply Kd.R_alloc|apply Kd.R_drewN|apply Kd.R_drew));exact Kd.R_mono HO295.out (fun _ hk=>⟨hk.2.1,⟨hk.2.2,hk.1⟩⟩)⟩,⟨by (with_reducible repeat (first|apply Kd.R_alloc|apply Kd.R_drewN|apply Kd.R_drew));exact Kd.R_mono HO298.out (fun _ hk=>⟨hk.2.1,⟨hk.2.2,hk.1⟩⟩)⟩,⟨ZA⟩,⟨Zz⟩,⟨by (with_reducible repeat (first|refine blk_drewN ?_ _|refine blk_drew ?_|refine blk_alloc ?_ _));exact BK300.out⟩,⟨iIsS57⟩,⟨kB⟩,⟨bH⟩⟩
     ·replace c92:=Bool.eq_false_iff.mpr c92
      subst c92
      have H1:(spec_l1Cur_disk.j2 k1 false s0_0 t291 t292 x262000_1 x262001_1 t293 t296) = some (r1,r2,r3,r4):=by rw [if_neg (show ¬ (false = true) by decide)] at H;exact H
      clear H
      have H:=H1
      clear H1
      have H':=Aside0.mk H
      clear H
      go_wp2
      go_meet
      case rel=>exact ⟨_,(false),(t291),(t292),Yh,H',⟨ZM⟩,⟨by (with_reducible repeat (first|apply Kd.R_alloc|apply Kd.R_drewN|apply Kd.R_drew));exact Kd.R_mono (Kd.R_far (p:=⟨gb300,1,none⟩) (Kd.R_far (p:=⟨gb300,0,none⟩) (Kd.R_types HO_262000.out BK300.out (by decide)) (fun _ hk=>hk.2) (.slice Ao88 t293.length co88)) (fun _ hk=>hk.2) (.slice Ao90 t296.length co90)) (fun _ hk=>⟨hk.1.2.2,⟨hk.1.1,hk.1.2.1⟩⟩)⟩,⟨by (with_reducible repeat (first|apply Kd.R_alloc|apply Kd.R_drewN|apply Kd.R_drew));exact Kd.R_mono (Kd.R_far (p:=⟨gb300,1,none⟩) (Kd.R_far (p:=⟨gb300,0,none⟩) (Kd.R_types HO_262001.out BK300.out (by decide)) (fun _ hk=>hk.2) (.slice Ao88 t293.length co88)) (fun _ hk=>hk.2) (.slice Ao90 t296.length co90)) (fun _ hk=>⟨hk.1.2.2,⟨hk.1.1,hk.1.2.1⟩⟩)⟩,⟨by (with_reducible repeat (first|apply Kd.R_alloc|apply Kd.R_drewN|apply Kd.R_drew));exact Kd.R_mono (Kd.R_far (p:=⟨gb300,1,none⟩) (Kd.R_far (p:=⟨gb300,0,none⟩) (Kd.R_types HO295.out BK300.out (by decide)) (fun _ hk=>hk.2) (.slice Ao88 t293.length co88)) (fun _ hk=>hk.2) (.slice Ao90 t296.length co90)) (fun _ hk=>⟨hk.1.2.1,⟨hk.1.2.2,hk.1.1⟩⟩)⟩,⟨by (with_reducible repeat (first|apply Kd.R_alloc|apply Kd.R_drewN|apply Kd.R_drew));exact Kd.R_mono (Kd.R_far (p:=⟨gb300,1,none⟩) (Kd.R_far (p:=⟨gb300,0,none⟩) (Kd.R_types HO298.out BK300.out (by decide)) (fun _ hk=>hk.2) (.slice Ao88 t293.length co88)) (fun _ hk=>hk.2) (.slice Ao90 t296.length co90)) (fun _ hk=>⟨hk.1.2.1,⟨hk.1.2.2,hk.1.1⟩⟩)⟩,⟨Zk⟩,⟨Zj⟩,⟨YG⟩,⟨iIsS57⟩,⟨kB⟩,⟨bH⟩⟩
    case rest =>
     clear HC79
     try clear p2
     try clear c4
     try clear p6
     try clear c9
     try clear c43
     try clear p64
     try clear c92
     obtain ⟨kq,x54_78,x1001_78,x1002_78,rfl,HA,HJ78,HO_262000,HO_262001,HO_301000,HO_301001,BK260,BK261,BK300,HI0,HK,HB⟩:=hcut
     cases kq with
     | zero=>exact absurd HA.out (by simp [spec_l1Cur_disk.j2])
     | succ kj78 =>
      have H:=HA.out
      clear HA
      simp only [spec_l1Cur_disk.j2] at H
      have HC95:=Aside0.mk H
      clear H
      go_upto_if 54 with (fail)
      go_cut [] (fun wc=>∃ (kq:Nat) (x262000_94:List ByteArray) (x262001_94:List ByteArray) (u262000:Value) (u262001:Value),Aside0 (spec_l1Cur_disk.j3 kq s0_0 x1001_78 x1002_78 x262000_94 x262001_94 = some (r1,r2,r3,r4)) ∧ Aside0 (kq ≤ kj78) ∧ Aside0 (Kd.R Kd.string 9 wc w.heap.size (fun k_=>some k_ ≠ (u262001:Value).ownBlock) u262000 x262000_94) ∧ Aside0 (Kd.R Kd.string 9 wc w.heap.size (fun k_=>some k_ ≠ (u262000:Value).ownBlock) u262001 x262001_94) ∧ Aside0 (wc.heap[gb260]? = some (.cells #[(.slice none 0 0),(.slice none 0 0)] 26 (0,0))) ∧ Aside0 (wc.heap[gb261]? = some (.cells #[u262000,u262001] 26 (0,0))) ∧ Aside0 (IsS57 w0 wc g s0_0 x1001_78 x1002_78) ∧ Aside0 (KeepBut w wc g none) ∧ Aside0 (Below w0.heap.size w0 wc))
      case first =>
       have H:=HC95.out
       clear HC95
       by_cases c96:x54_78 = true
       ·subst c96
        have H1:(spec_l1Cur_disk.j3 kj78 s0_0 x1001_78 x1002_78 t293 t296) = some (r1,r2,r3,r4):=by rw [if_pos rfl] at H;exact H
        clear H
        have H:=H1
        clear H1
        have H':=Aside0.mk H
        clear H
        have hnb97:=NB300_260.out
        have hnc97:=NB260_300.out
        have hnb98:=NB300_261.out
        have hnc98:=NB261_300.out
        have hnb99:=NB300_0.out
        have hnc99:=NB0_300.out
        have hcz100_0:wc.cell? ⟨gb300,0,none⟩ = some (.slice Ao88 t293.length co88):=(blk_cell BK300.out 0).trans rfl
        have hcz100_1:wc.cell? ⟨gb300,1,none⟩ = some (.slice Ao90 t296.length co90):=(blk_cell BK300.out 1).trans rfl
        have hfz100_0:=blk_frozen BK300.out 0
        have hfz100_1:=blk_frozen BK300.out 1
        have hnb101:=NB261_260.out
        have hnc101:=NB260_261.out
        have hnb102:=NB261_0.out
        have hnc102:=NB0_261.out
        have hcz103_0:wc.cell? ⟨gb261,0,none⟩ = some (.slice Ao80 x262000_1.length co80):=(blk_cell BK261.out 0).trans rfl
        have hcz103_1:wc.cell? ⟨gb261,1,none⟩ = some (.slice Ao81 x262001_1.length co81):=(blk_cell BK261.out 1).trans rfl
        have hfz103_0:=blk_frozen BK261.out 0
        have hfz103_1:=blk_frozen BK261.out 1
        go_wp2
        go_meet
        case rel=>exact ⟨_,(t293),(t296),(.slice Ao88 t293.length co88),(.slice Ao90 t296.length co90),H',⟨by have:=HK1.out;have:=HJ78.out;first|omega|exact Nat.le_refl _⟩,⟨by (with_reducible repeat (first|apply Kd.R_alloc|apply Kd.R_drewN|apply Kd.R_drew));exact Kd.R_mono (Kd.R_far (p:=⟨gb261,1,none⟩) (Kd.R_far (p:=⟨gb261,0,none⟩) (Kd.R_types HO_301000.out BK261.out (by decide)) (fun _ hk=>hk.2) (.slice Ao88 t293.length co88)) (fun _ hk=>hk.2) (.slice Ao90 t296.length co90)) (fun _ hk=>hk.1.2.2)⟩,⟨by (with_reducible repeat (first|apply Kd.R_alloc|apply Kd.R_drewN|apply Kd.R_drew));exact Kd.R_mono (Kd.R_far (p:=⟨gb261,1,none⟩) (Kd.R_far (p:=⟨gb261,0,none⟩) (Kd.R_types HO_301001.out BK261.out (by decide)) (fun _ hk=>hk.2) (.slice Ao88 t293.length co88)) (fun _ hk=>hk.2) (.slice Ao90 t296.length co90)) (fun _ hk=>hk.1.2.2)⟩,⟨Zl⟩,⟨by (with_reducible repeat (first|refine blk_drewN ?_ _|refine blk_drew ?_|refine blk_alloc ?_ _));refine blk_put (cs:=#[.slice Ao88 t293.length co88,.slice Ao81 x262001_1.length co81]) ?_ 1 _ rfl;(with_reducible repeat (first|refine blk_drewN ?_ _|refine blk_drew ?_|refine blk_alloc ?_ _));refine blk_put (cs:=#[.slice Ao80 x262000_1.length co80,.slice Ao81 x262001_1.length co81]) ?_ 0 _ rfl;(with_reducible repeat (first|refine blk_drewN ?_ _|refine blk_drew ?_|refine blk_alloc ?_ _));exact BK261.out⟩,⟨iIsS57⟩,⟨kB⟩,⟨bH⟩⟩
       ·replace c96:=Bool.eq_false_iff.mpr c96
        subst c96
        have H1:(spec_l1Cur_disk.j3 kj78 s0_0 x1001_78 x1002_78 x262000_1 x262001_1) = some (r1,r2,r3,r4):=by rw [if_neg (show ¬ (false = true) by decide)] at H;exact H
        clear H
        have H:=H1
        clear H1
        have H':=Aside0.mk H
        clear H
        go_wp2
        go_meet
        case rel=>exact ⟨_,(x262000_1),(x262001_1),(.slice Ao80 x262000_1.length co80),(.slice Ao81 x262001_1.length co81),H',⟨by have:=HK1.out;have:=HJ78.out;first|omega|exact Nat.le_refl _⟩,⟨by (with_reducible repeat (first|apply Kd.R_alloc|apply Kd.R_drewN|apply Kd.R_drew));exact Kd.R_mono HO_262000.out (fun _ hk=>hk.1)⟩,⟨by (with_reducible repeat (first|apply Kd.R_alloc|apply Kd.R_drewN|apply Kd.R_drew));exact Kd.R_mono HO_262001.out (fun _ hk=>hk.1)⟩,⟨ZA⟩,⟨Zz⟩,⟨iIsS57⟩,⟨kB⟩,⟨bH⟩⟩
      case rest =>
       clear HC95
       try clear c1
       try clear p2
       try clear c4
       try clear p6
       try clear c9
       try clear c10
       try clear c43
       try clear p64
       try clear c92
       try clear c96
       try clear c97
       try clear c98
       try clear c99
       try clear c101
       try clear c102
       try clear hcz100_0
       try clear hcz100_1
       try clear hcz103_0
       try clear hcz103_1
       try clear hfz100_0
       try clear hfz100_1
       try clear hfz103_0
       try clear hfz103_1
       try clear p2
       try clear p6
       try clear p64
       obtain ⟨kq,x262000_94,x262001_94,u262000,u262001,HA,HJ94,HO_262000,HO_262001,BK260,BK261,HI0,HK,HB⟩:=hcut
       cases kq with
       | zero=>exact absurd HA.out (by simp [spec_l1Cur_disk.j3])
       | succ kj94 =>
        have H:=HA.out
        clear HA
        simp only [spec_l1Cur_disk.j3] at H
        by_cases c104:(x262000_94.length:Int) > 0
        ·rw [if_pos c104] at H
         have c104b0:decide (0 < (x262000_94.length:Int)) = true:=decide_eq_true c104
         have c104b1:decide (0 < x262000_94.length) = true:=decide_eq_true (by omega)
         clear c104
         replace H:=Option.bind_eq_some_iff.mp H
         obtain ⟨⟨t304,t305,t306⟩,A1050,H⟩:=H
         replace H:(if t304 = true then (if 0 < (x262000_94.length:Int) then ((spec_l1Cur_spoilt.f kj94 s0_0 t305 t306 (rdOf ByteArray.empty x262000_94 0) (⟨#[97,0]⟩:ByteArray)).bind fun bt308=>(some ((x262000_94.set (0:Int).toNat bt308.1),x262001_94,bt308.2.1,bt308.2.2))) else (none)) else (some (x262000_94,x262001_94,t305,t306))) = some (r1,r2,r3,r4):=H
         have A105:=Aside0.mk A1050
         clear A1050
         by_cases c106:t304 = true
         ·subst c106
          have H1:(if 0 < (x262000_94.length:Int) then ((spec_l1Cur_spoilt.f kj94 s0_0 t305 t306 (rdOf ByteArray.empty x262000_94 0) (⟨#[97,0]⟩:ByteArray)).bind fun bt308=>(some ((x262000_94.set (0:Int).toNat bt308.1),x262001_94,bt308.2.1,bt308.2.2))) else (none)) = some (r1,r2,r3,r4):=by rw [if_pos rfl] at H;exact H
          clear H
          have H:=H1
          clear H1
          by_cases c107:0 < (x262000_94.length:Int)
          ·rw [if_pos c107] at H
           have c107b0:=decide_eq_true c107
           have c107b1:decide (0 < x262000_94.length) = true:=decide_eq_true (by omega)
           clear c107
           replace H:=Option.bind_eq_some_iff.mp H
           obtain ⟨⟨t308,t309,t310⟩,A1080,H⟩:=H
           replace H:(some ((x262000_94.set (0:Int).toNat t308),x262001_94,t309,t310)) = some (r1,r2,r3,r4):=H
           have A108:=Aside0.mk A1080
           clear A1080
           obtain ⟨y311,hy311⟩:∃ y_:List ByteArray,y_ = (x262000_94.set (0:Int).toNat t308):=⟨_,rfl⟩
           replace H:(some (y311,x262001_94,t309,t310)) = some (r1,r2,r3,r4):=by first|(rw [hy311];with_reducible exact H)|(have H2_:=(Option.bind_some _ _).symm.trans H;rw [hy311];with_reducible exact H2_)|(have H2_:=(Option.bind_some _ _).symm.trans H;with_reducible exact H2_)|with_reducible exact H|(rw [hy311];exact H)|exact H
           have Ny311:=Aside0.mk hy311
           clear hy311
           simp only [Option.some.injEq,Prod.mk.injEq] at H
           obtain ⟨rfl,rfl,rfl,rfl⟩:=H
           have hnb110:=NB261_260.out
           have hnc110:=NB260_261.out
           have hnb111:=NB261_0.out
           have hnc111:=NB0_261.out
           have hcz112_0:wc.cell? ⟨gb261,0,none⟩ = some (u262000):=(blk_cell BK261.out 0).trans rfl
           have hcz112_1:wc.cell? ⟨gb261,1,none⟩ = some (u262001):=(blk_cell BK261.out 1).trans rfl
           have hfz112_0:=blk_frozen BK261.out 0
           have hfz112_1:=blk_frozen BK261.out 1
           obtain ⟨Ao113,co113,eo113⟩:=Kd.R_slice HO_262000.out
           subst eo113
           try go_wp2_with (first|(go_at_call 60;(with_reducible refine (spec_l1Cur_one.calls g s0_0 x1001_78 x1002_78 6 true t305 t306 w0 _ ?side1 ?side2 A105.out).mono ?_);(case side1=>exact iIsS57);(case side2=>exact bH);rintro e w114 ⟨rfl,hi,hb,hk⟩;replace HO_262000:=Aside0.mk (Kd.R_mono (Kd.R_keep (IsS57.apart (show IsS57 w0 _ g s0_0 x1001_78 x1002_78 from iIsS57) (rR HO_262000) (by decide)) hk (fun _ h=>h.2)) (fun _ h=>h.1));replace HO_262001:=Aside0.mk (Kd.R_mono (Kd.R_keep (IsS57.apart (show IsS57 w0 _ g s0_0 x1001_78 x1002_78 from iIsS57) (rR HO_262001) (by decide)) hk (fun _ h=>h.2)) (fun _ h=>h.1));replace BK260:=Aside0.mk (KeepBut.blk hk (g':=gb260) (o:=.cells #[.slice none 0 0,.slice none 0 0] 26 (0,0)) (bB BK260) NB260_0.out (by simp));replace BK261:=Aside0.mk (KeepBut.blk hk (g':=gb261) (o:=.cells #[.slice Ao113 x262000_94.length co113,u262001] 26 (0,0)) (bB BK261) NB261_0.out (by simp));replace HK:=Aside0.mk (KeepBut.trans kB hk (.inl rfl));replace HB:=Aside0.mk (hb);replace HI0:=Aside0.mk (hi);(try clear hb);(try clear hb2);(try clear hk);(try clear hi)))
           replace HO_262000:=Aside0.mk (Kd.R_drew HO_262000.out);replace HO_262001:=Aside0.mk (Kd.R_drew HO_262001.out);replace BK260:=Aside0.mk (blk_drew BK260.out);replace BK261:=Aside0.mk (blk_drew BK261.out);replace HI0:=Aside0.mk (IsS57.drew HI0.out);replace HK:=Aside0.mk (keep_drew HK.out);replace HB:=Aside0.mk (below_drew1 HB.out)
           have p307:0 ≤ (0:Int):=(by omega)
           have q307:0 < (x262000_94.length:Int):=oD
           obtain ⟨ad307,e307,hx307_0⟩:=Kd.at_string (Kd.R_reads' HO_262000.out).2.2 0 p307 q307
           cases e307
           have qi307:(0 < x262000_94.length) = True:=eq_true (by omega)
           (try rw [show ((0:Int)).toNat = 0 from rfl] at hx307_0)
           (try rw [Addr.add_zero'] at hx307_0)
           replace p307:=eq_true p307
           replace q307:=eq_true q307
           refine start_ (n:=10) (S:=fun w'=>w'.cell? ⟨gb261,0,none⟩ = some (.slice (some ad307) x262000_94.length co113) ∧ w'.cell? ⟨gb261,1,none⟩ = some (u262001) ∧ w'.cell? ad307 = some (.string (rdOf ByteArray.empty x262000_94 0))) (ds:=[9]) #[false,false,false,false,false,false,false,false,false,false] (by kernel_rfl) rfl rfl ⟨(blk_cell BK261.out 0).trans rfl,(blk_cell BK261.out 1).trans rfl,hx307_0⟩ (fun hHeld=>?_);refine with_tabW spec_l1Cur_disk.tab15 spec_l1Cur_disk.bits15 (fun HT_ HW_=>?_)
           generalize w114.drew = w115 at HO_262000 HO_262001 BK260 BK261 HI0 HK HB hx307_0 hHeld ⊢
           refine pU (i:=0) (N:=some 64) #[true,false,false,false,false,false,false,false,false,false] (any_of HT_.out (by kernel_rfl)) ?_
           refine pU (i:=2) (N:=some 66) #[true,false,true,false,false,false,false,false,false,false] (any_of HT_.out (by kernel_rfl)) ?_
           refine pU (i:=3) (N:=some 67) #[true,false,true,true,false,false,false,false,false,false] (any_of HT_.out (by kernel_rfl)) ?_
           refine take_ (i:=1) (N:=some 65) (v:=?_) (a':=?_) #[true,true,true,true,false,false,false,false,false,false] rfl rfl (take_ofW HT_.out HW_.out (by kernel_rfl)) (fun _ _ _ h=>h) (Or.inl ⟨by rfl,?_⟩) hHeld ?_ ?_
           rotate_left
           ·rintro w' ⟨s0,s1,s2⟩
            go_simp
            with_reducible rfl
           rotate_left
           ·simp only [Act.put,List.setIfInBounds_toArray,List.set_cons_zero,List.set_cons_succ,i64_w,i32_w]
            rfl
           refine take_ (i:=4) (N:=some 68) (v:=?_) (a':=?_) #[true,true,true,true,true,false,false,false,false,false] rfl rfl (take_ofW HT_.out HW_.out (by kernel_rfl)) (fun _ _ _ h=>h) (Or.inl ⟨by rfl,?_⟩) hHeld ?_ ?_
           rotate_left
           ·rintro w' ⟨s0,s1,s2⟩
            go_simp
            with_reducible rfl
           rotate_left
           ·simp only [Act.put,List.setIfInBounds_toArray,List.set_cons_zero,List.set_cons_succ,i64_w,i32_w]
            rfl
           refine pU (i:=5) (N:=some 69) #[true,true,true,true,true,true,false,false,false,false] (any_of HT_.out (by kernel_rfl)) ?_
           refine take_ (i:=6) (N:=some 70) (v:=?_) (a':=?_) #[true,true,true,true,true,true,true,false,false,false] rfl rfl (take_ofW HT_.out HW_.out (by kernel_rfl)) (fun _ _ _ h=>h) (Or.inl ⟨by rfl,?_⟩) hHeld ?_ ?_
           rotate_left
           ·rintro w' ⟨s0,s1,s2⟩
            go_simp
            with_reducible rfl
           rotate_left
           ·simp only [Act.put,List.setIfInBounds_toArray,List.set_cons_zero,List.set_cons_succ,i64_w,i32_w]
            rfl
           refine one_ (i:=7) (N:=some 71) #[true,true,true,true,true,true,true,true,false,false] rfl rfl (one_of HT_.out (by kernel_rfl)) (by decide) (fun K hK=>?_)
           refine goes_ Try.func75 (by kernel_rfl) rfl #[.pointer (some ⟨g,0,none⟩),.string (rdOf ByteArray.empty x262000_94 0),.string (⟨#[97,0]⟩:ByteArray)] (by rfl) rfl rfl Ya ?_
           with_reducible refine (spec_l1Cur_spoilt.calls kj94 g s0_0 t305 t306 (rdOf ByteArray.empty x262000_94 0) (⟨#[97,0]⟩:ByteArray) t308 t309 t310 w0 _ ?side1 ?side2 A108.out).mono ?_
           (case side1=>exact iIsS57)
           (case side2=>exact bH)
           rintro e w116 ⟨rfl,hi,hb,hk⟩
           have HS2_:=keep_cell hk (hHeld.2.2) (by first|(rw [add_block];exact Kd.own_blk (IsS57.own_ne HI0.out HO_262000.out (by decide)))|(show (Addr.add _ _).block ≠ _;rw [add_block];exact Kd.own_blk (IsS57.own_ne HI0.out HO_262000.out (by decide)))|exact Kd.own_blk (IsS57.own_ne HI0.out HO_262000.out (by decide)))
           refine ⟨_,rfl,?_⟩
           replace HO_262000:=Aside0.mk (Kd.R_mono (Kd.R_keep (IsS57.apart (show IsS57 w0 _ g s0_0 t305 t306 from iIsS57) (rR HO_262000) (by decide)) hk (fun _ h=>h.2)) (fun _ h=>h.1));replace HO_262001:=Aside0.mk (Kd.R_mono (Kd.R_keep (IsS57.apart (show IsS57 w0 _ g s0_0 t305 t306 from iIsS57) (rR HO_262001) (by decide)) hk (fun _ h=>h.2)) (fun _ h=>h.1));replace BK260:=Aside0.mk (KeepBut.blk hk (g':=gb260) (o:=.cells #[.slice none 0 0,.slice none 0 0] 26 (0,0)) (bB BK260) NB260_0.out (by simp));replace BK261:=Aside0.mk (KeepBut.blk hk (g':=gb261) (o:=.cells #[.slice (some ad307) x262000_94.length co113,u262001] 26 (0,0)) (bB BK261) NB261_0.out (by simp));replace HK:=Aside0.mk (KeepBut.trans kB hk (.inl rfl));replace HB:=Aside0.mk (hb);replace HI0:=Aside0.mk (hi)
           (try clear hb)
           (try clear hb2)
           (try clear hk)
           (try clear hi)
           have p109:0 ≤ (0:Int):=(by omega)
           have q109:(0:Int) < ((x262000_94.length:Int):Int):=oD
           have qi109:(0 < x262000_94.length) = True:=eq_true (by omega)
           obtain ⟨go109,co109,eo109,gb109,gl109,cl109,HG109⟩:=Kd.R_form HO_262000.out (by omega)
           (first|cases eo109|(injection eo109 with ea_ en_ ec_;(first|subst ea_|(injection ea_ with ea_;subst ea_));subst ec_;clear en_))
           have GB109:=Aside0.mk gb109
           have GG109:=Aside0.mk HG109
           clear gb109 gl109 HG109
           (first|simp only [add_plain] at hx307_0|skip)
           obtain ⟨hx109_0,hf109_0⟩:=Kd.R_celln (⟨#[]⟩:ByteArray) HO_262000.out (0:Int) p109 q109
           (try rw [show ((0:Int)).toNat = 0 from rfl] at hx109_0)
           (try simp only [Nat.reduceMul,Nat.zero_mul,Nat.zero_add,Nat.reduceAdd] at hx109_0)
           (try rw [show ((0:Int)).toNat = 0 from rfl] at hf109_0)
           (try simp only [Nat.reduceMul,Nat.zero_mul,Nat.zero_add,Nat.reduceAdd] at hf109_0)
           replace p109:=eq_true p109
           replace q109:=eq_true q109
           have HN0_go109:=Aside0.mk (show g ≠ go109 from by have h_:=IsS57.own_ne HI0.out HO_262000.out (by decide);intro e_;exact h_ (by rw [e_];rfl))
           have HP117:=Kd.R_putn HO_262000.out (0:Int) t308
           rw [← Ny311.out] at HP117
           have HQ117:=Aside0.mk HP117
           clear HP117
           refine hK.out _ _ ⟨(blk_cell BK261.out 0).trans rfl,(blk_cell BK261.out 1).trans rfl,HS2_⟩ (fun hHeld=>?_)
           clear hK K
           refine nM (N:=some 71) ?_
           refine pU (i:=8) (N:=some 72) #[true,true,true,true,true,true,true,true,true,false] (any_of HT_.out (by kernel_rfl)) ?_
           refine last_ (i:=9) (N:=none) #[true,true,true,true,true,true,true,true,true,true] rfl rfl (one_of HT_.out (by kernel_rfl)) (by decide) (fun K hK=>?_)
           refine skip_ (w1:=?_) (by rfl) rfl ?_ ?_
           rotate_left
           ·go_simp
            rfl
           refine hK.out _ _ ?_
           clear hK K
           refine done_ (done_of HT_.out (by kernel_rfl)) ?_
           have n0_:Aside0 (Kd.R Kd.string 9 (w116.setCell ⟨go109,0,none⟩ (.string t308)) w.heap.size (fun k_=>some k_ ≠ (u262001:Value).ownBlock) (.slice (some ⟨go109,0,none⟩) x262000_94.length co113) y311):=⟨rR HQ117⟩
           have n1_:Aside0 (Kd.R Kd.string 9 (w116.setCell ⟨go109,0,none⟩ (.string t308)) w.heap.size (fun k_=>some k_ ≠ (.slice (some ⟨go109,0,none⟩) x262000_94.length co113:Value).ownBlock) u262001 x262001_94):=⟨by (with_reducible repeat (first|apply Kd.R_alloc|apply Kd.R_drewN|apply Kd.R_drew));exact Kd.R_mono (Kd.R_far (p:=⟨go109,0,none⟩) (Kd.R_mono HO_262001.out (fun k_ hk=>(⟨hk,fun e_=>hk (by rw [e_];rfl)⟩:_ ∧ k_ ≠ go109))) (fun _ hk=>hk.2) (.string t308)) (fun _ hk=>hk.1)⟩
           have n2_:Aside0 ((w116.setCell ⟨go109,0,none⟩ (.string t308)).heap[gb260]? = some (.cells #[.slice none 0 0,.slice none 0 0] 26 (0,0))):=⟨by (with_reducible repeat (first|refine blk_drewN ?_ _|refine blk_drew ?_|refine blk_alloc ?_ _));refine blk_far ?_ (by have h_:=Kd.R_ne HO_262000.out BK260.out (by decide);intro e_;exact h_ (by rw [e_];rfl)) _;(with_reducible repeat (first|refine blk_drewN ?_ _|refine blk_drew ?_|refine blk_alloc ?_ _));exact BK260.out⟩
           have n3_:Aside0 ((w116.setCell ⟨go109,0,none⟩ (.string t308)).heap[gb261]? = some (.cells #[.slice (some ⟨go109,0,none⟩) x262000_94.length co113,u262001] 26 (0,0))):=⟨by (with_reducible repeat (first|refine blk_drewN ?_ _|refine blk_drew ?_|refine blk_alloc ?_ _));refine blk_far ?_ (by have h_:=Kd.R_ne HO_262000.out BK261.out (by decide);intro e_;exact h_ (by rw [e_];rfl)) _;(with_reducible repeat (first|refine blk_drewN ?_ _|refine blk_drew ?_|refine blk_alloc ?_ _));exact BK261.out⟩
           have n4_:Aside0 (IsS57 w0 (w116.setCell ⟨go109,0,none⟩ (.string t308)) g s0_0 t309 t310):=⟨by repeat (first|(with_reducible first|exact HI0.out|apply IsS57.alloc|apply IsS57.drewN|apply IsS57.drew|apply IsS57.set_1|apply IsS57.set_2|refine IsS57.far ?_ HN0_go109.out _|refine IsS57.far ?_ NB0_260.out _|refine IsS57.far ?_ NB0_261.out _)|exact HI0.out)⟩
           have n5_:Aside0 (KeepBut w (w116.setCell ⟨go109,0,none⟩ (.string t308)) g none):=⟨by repeat (first|(with_reducible first|exact HK.out|apply KeepBut.set_|apply keep_drewN|apply keep_drew|apply keep_alloc|refine keep_far ?_ GB109.out _|refine keep_far ?_ GW260.out _|refine keep_far ?_ GW261.out _)|exact HK.out)⟩
           have n6_:Aside0 (Below w0.heap.size w0 (w116.setCell ⟨go109,0,none⟩ (.string t308))):=⟨by repeat (first|(with_reducible first|exact HB.out|apply below_alloc|apply pw_below_drewN|apply below_drew1|refine below_set ?_ (Nat.le_trans HL.out GB109.out)|refine below_set ?_ (IsS57.ge HI0.out)|refine below_set ?_ GE260.out|refine below_set ?_ GE261.out)|exact HB.out)⟩
           (try clear HO_262000)
           (try clear HO_262001)
           (try clear BK260)
           (try clear BK261)
           (try clear HI0)
           (try clear HK)
           (try clear HB)
           generalize (w116.setCell ⟨go109,0,none⟩ (.string t308)) = w118 at n0_ n1_ n2_ n3_ n4_ n5_ n6_ ⊢
           have HO_262000:=n0_
           have HO_262001:=n1_
           have BK260:=n2_
           have BK261:=n3_
           have HI0:=n4_
           have HK:=n5_
           have HB:=n6_
           clear n0_ n1_ n2_ n3_ n4_ n5_ n6_
           have hcz119_0:w118.cell? ⟨gb261,0,none⟩ = some (.slice (some ⟨go109,0,none⟩) x262000_94.length co113):=(blk_cell BK261.out 0).trans rfl
           have hcz119_1:w118.cell? ⟨gb261,1,none⟩ = some (u262001):=(blk_cell BK261.out 1).trans rfl
           have hfz119_0:=blk_frozen BK261.out 0
           have hfz119_1:=blk_frozen BK261.out 1
           have hnb120:=NB260_0.out
           have hnc120:=NB0_260.out
           have hcz121_0:w118.cell? ⟨gb260,0,none⟩ = some (.slice none 0 0):=(blk_cell BK260.out 0).trans rfl
           have hcz121_1:w118.cell? ⟨gb260,1,none⟩ = some (.slice none 0 0):=(blk_cell BK260.out 1).trans rfl
           have hfz121_0:=blk_frozen BK260.out 0
           have hfz121_1:=blk_frozen BK260.out 1
           obtain ⟨Ao122,co122,eo122⟩:=Kd.R_slice HO_262001.out
           subst eo122
           try go_wp2
           refine bodyPost_ret (results_cell_row rfl _ _ gb260 26 #[.slice (some ⟨go109,0,none⟩) x262000_94.length co113,.slice Ao122 x262001_94.length co122] (0,0) _ rfl (by (with_reducible repeat (first|refine blk_drewN ?_ _|refine blk_drew ?_|refine blk_alloc ?_ _));refine blk_put (cs:=#[.slice (some ⟨go109,0,none⟩) x262000_94.length co113,.slice none 0 0]) ?_ 1 _ rfl;(with_reducible repeat (first|refine blk_drewN ?_ _|refine blk_drew ?_|refine blk_alloc ?_ _));refine blk_put (cs:=#[.slice none 0 0,.slice none 0 0]) ?_ 0 _ rfl;(with_reducible repeat (first|refine blk_drewN ?_ _|refine blk_drew ?_|refine blk_alloc ?_ _));exact BK260.out) Try.underlying26 rfl (by kernel_rfl)) rfl ?_
           exact ⟨_,_,Yb,by (with_reducible repeat (first|apply Kd.R_alloc|apply Kd.R_drewN|apply Kd.R_drew));exact Kd.R_mono (Kd.R_far (p:=⟨gb260,1,none⟩) (Kd.R_far (p:=⟨gb260,0,none⟩) (Kd.R_types HO_262000.out BK260.out (by decide)) (fun _ hk=>hk.2) (.slice (some ⟨go109,0,none⟩) x262000_94.length co113)) (fun _ hk=>hk.2) (.slice Ao122 x262001_94.length co122)) (fun _ hk=>hk.1),by (with_reducible repeat (first|apply Kd.R_alloc|apply Kd.R_drewN|apply Kd.R_drew));exact Kd.R_mono (Kd.R_far (p:=⟨gb260,1,none⟩) (Kd.R_far (p:=⟨gb260,0,none⟩) (Kd.R_types HO_262001.out BK260.out (by decide)) (fun _ hk=>hk.2) (.slice (some ⟨go109,0,none⟩) x262000_94.length co113)) (fun _ hk=>hk.2) (.slice Ao122 x262001_94.length co122)) (fun _ hk=>hk.1),iIsS57,bH,kB⟩
          ·rw [if_neg c107] at H
           exact absurd H (by simp)
         ·replace c106:=Bool.eq_false_iff.mpr c106
          subst c106
          have H1:(some (x262000_94,x262001_94,t305,t306)) = some (r1,r2,r3,r4):=by rw [if_neg (show ¬ (false = true) by decide)] at H;exact H
          clear H
          have H:=H1
          clear H1
          simp only [Option.some.injEq,Prod.mk.injEq] at H
          obtain ⟨rfl,rfl,rfl,rfl⟩:=H
          have hnb123:=NB261_260.out
          have hnc123:=NB260_261.out
          have hnb124:=NB261_0.out
          have hnc124:=NB0_261.out
          have hcz125_0:wc.cell? ⟨gb261,0,none⟩ = some (u262000):=(blk_cell BK261.out 0).trans rfl
          have hcz125_1:wc.cell? ⟨gb261,1,none⟩ = some (u262001):=(blk_cell BK261.out 1).trans rfl
          have hfz125_0:=blk_frozen BK261.out 0
          have hfz125_1:=blk_frozen BK261.out 1
          obtain ⟨Ao126,co126,eo126⟩:=Kd.R_slice HO_262000.out
          subst eo126
          go_wp2_with (first|(go_at_call 60;(with_reducible refine (spec_l1Cur_one.calls g s0_0 x1001_78 x1002_78 6 false t305 t306 w0 _ ?side1 ?side2 A105.out).mono ?_);(case side1=>exact iIsS57);(case side2=>exact bH);rintro e w127 ⟨rfl,hi,hb,hk⟩;replace HO_262000:=Aside0.mk (Kd.R_mono (Kd.R_keep (IsS57.apart (show IsS57 w0 _ g s0_0 x1001_78 x1002_78 from iIsS57) (rR HO_262000) (by decide)) hk (fun _ h=>h.2)) (fun _ h=>h.1));replace HO_262001:=Aside0.mk (Kd.R_mono (Kd.R_keep (IsS57.apart (show IsS57 w0 _ g s0_0 x1001_78 x1002_78 from iIsS57) (rR HO_262001) (by decide)) hk (fun _ h=>h.2)) (fun _ h=>h.1));replace BK260:=Aside0.mk (KeepBut.blk hk (g':=gb260) (o:=.cells #[.slice none 0 0,.slice none 0 0] 26 (0,0)) (bB BK260) NB260_0.out (by simp));replace BK261:=Aside0.mk (KeepBut.blk hk (g':=gb261) (o:=.cells #[.slice Ao126 x262000_94.length co126,u262001] 26 (0,0)) (bB BK261) NB261_0.out (by simp));replace HK:=Aside0.mk (KeepBut.trans kB hk (.inl rfl));replace HB:=Aside0.mk (hb);replace HI0:=Aside0.mk (hi);(try clear hb);(try clear hb2);(try clear hk);(try clear hi);have hcz128_0:w127.cell? ⟨gb261,0,none⟩ = some (.slice Ao126 x262000_94.length co126):=(blk_cell BK261.out 0).trans rfl;have hcz128_1:w127.cell? ⟨gb261,1,none⟩ = some (u262001):=(blk_cell BK261.out 1).trans rfl;have hfz128_0:=blk_frozen BK261.out 0;have hfz128_1:=blk_frozen BK261.out 1;have hnb129:=NB260_0.out;have hnc129:=NB0_260.out;have hcz130_0:w127.cell? ⟨gb260,0,none⟩ = some (.slice none 0 0):=(blk_cell BK260.out 0).trans rfl;have hcz130_1:w127.cell? ⟨gb260,1,none⟩ = some (.slice none 0 0):=(blk_cell BK260.out 1).trans rfl;have hfz130_0:=blk_frozen BK260.out 0;have hfz130_1:=blk_frozen BK260.out 1;obtain ⟨Ao131,co131,eo131⟩:=Kd.R_slice HO_262001.out;subst eo131))
          refine bodyPost_ret (results_cell_row rfl _ _ gb260 26 #[.slice Ao126 x262000_94.length co126,.slice Ao131 x262001_94.length co131] (0,0) _ rfl (by (with_reducible repeat (first|refine blk_drewN ?_ _|refine blk_drew ?_|refine blk_alloc ?_ _));refine blk_put (cs:=#[.slice Ao126 x262000_94.length co126,.slice none 0 0]) ?_ 1 _ rfl;(with_reducible repeat (first|refine blk_drewN ?_ _|refine blk_drew ?_|refine blk_alloc ?_ _));refine blk_put (cs:=#[.slice none 0 0,.slice none 0 0]) ?_ 0 _ rfl;(with_reducible repeat (first|refine blk_drewN ?_ _|refine blk_drew ?_|refine blk_alloc ?_ _));exact BK260.out) Try.underlying26 rfl (by kernel_rfl)) rfl ?_
          exact ⟨_,_,Yb,by (with_reducible repeat (first|apply Kd.R_alloc|apply Kd.R_drewN|apply Kd.R_drew));exact Kd.R_mono (Kd.R_far (p:=⟨gb260,1,none⟩) (Kd.R_far (p:=⟨gb260,0,none⟩) (Kd.R_types HO_262000.out BK260.out (by decide)) (fun _ hk=>hk.2) (.slice Ao126 x262000_94.length co126)) (fun _ hk=>hk.2) (.slice Ao131 x262001_94.length co131)) (fun _ hk=>hk.1),by (with_reducible repeat (first|apply Kd.R_alloc|apply Kd.R_drewN|apply Kd.R_drew));exact Kd.R_mono (Kd.R_far (p:=⟨gb260,1,none⟩) (Kd.R_far (p:=⟨gb260,0,none⟩) (Kd.R_types HO_262001.out BK260.out (by decide)) (fun _ hk=>hk.2) (.slice Ao126 x262000_94.length co126)) (fun _ hk=>hk.2) (.slice Ao131 x262001_94.length co131)) (fun _ hk=>hk.1),iIsS57,bH,kB⟩
        ·rw [if_neg c104] at H
         have c104b0:decide (0 < (x262000_94.length:Int)) = false:=decide_eq_false c104
         have c104b1:decide (0 < x262000_94.length) = false:=decide_eq_false (by omega)
         clear c104
         simp only [Option.some.injEq,Prod.mk.injEq] at H
         obtain ⟨rfl,rfl,rfl,rfl⟩:=H
         have hnb132:=NB261_260.out
         have hnc132:=NB260_261.out
         have hnb133:=NB261_0.out
         have hnc133:=NB0_261.out
         have hcz134_0:wc.cell? ⟨gb261,0,none⟩ = some (u262000):=(blk_cell BK261.out 0).trans rfl
         have hcz134_1:wc.cell? ⟨gb261,1,none⟩ = some (u262001):=(blk_cell BK261.out 1).trans rfl
         have hfz134_0:=blk_frozen BK261.out 0
         have hfz134_1:=blk_frozen BK261.out 1
         obtain ⟨Ao135,co135,eo135⟩:=Kd.R_slice HO_262000.out
         subst eo135
         have hnb136:=NB260_0.out
         have hnc136:=NB0_260.out
         have hcz137_0:wc.cell? ⟨gb260,0,none⟩ = some (.slice none 0 0):=(blk_cell BK260.out 0).trans rfl
         have hcz137_1:wc.cell? ⟨gb260,1,none⟩ = some (.slice none 0 0):=(blk_cell BK260.out 1).trans rfl
         have hfz137_0:=blk_frozen BK260.out 0
         have hfz137_1:=blk_frozen BK260.out 1
         obtain ⟨Ao138,co138,eo138⟩:=Kd.R_slice HO_262001.out
         subst eo138
         go_wp2
         refine bodyPost_ret (results_cell_row rfl _ _ gb260 26 #[.slice Ao135 x262000_94.length co135,.slice Ao138 x262001_94.length co138] (0,0) _ rfl (by (with_reducible repeat (first|refine blk_drewN ?_ _|refine blk_drew ?_|refine blk_alloc ?_ _));refine blk_put (cs:=#[.slice Ao135 x262000_94.length co135,.slice none 0 0]) ?_ 1 _ rfl;(with_reducible repeat (first|refine blk_drewN ?_ _|refine blk_drew ?_|refine blk_alloc ?_ _));refine blk_put (cs:=#[.slice none 0 0,.slice none 0 0]) ?_ 0 _ rfl;(with_reducible repeat (first|refine blk_drewN ?_ _|refine blk_drew ?_|refine blk_alloc ?_ _));exact BK260.out) Try.underlying26 rfl (by kernel_rfl)) rfl ?_
         exact ⟨_,_,Yb,by (with_reducible repeat (first|apply Kd.R_alloc|apply Kd.R_drewN|apply Kd.R_drew));exact Kd.R_mono (Kd.R_far (p:=⟨gb260,1,none⟩) (Kd.R_far (p:=⟨gb260,0,none⟩) (Kd.R_types HO_262000.out BK260.out (by decide)) (fun _ hk=>hk.2) (.slice Ao135 x262000_94.length co135)) (fun _ hk=>hk.2) (.slice Ao138 x262001_94.length co138)) (fun _ hk=>hk.1),by (with_reducible repeat (first|apply Kd.R_alloc|apply Kd.R_drewN|apply Kd.R_drew));exact Kd.R_mono (Kd.R_far (p:=⟨gb260,1,none⟩) (Kd.R_far (p:=⟨gb260,0,none⟩) (Kd.R_types HO_262001.out BK260.out (by decide)) (fun _ hk=>hk.2) (.slice Ao135 x262000_94.length co135)) (fun _ hk=>hk.2) (.slice Ao138 x262001_94.length co138)) (fun _ hk=>hk.1),iIsS57,bH,kB⟩

end Go.Proofs.Ytmgkflkfoccgkab.QFnDisk
