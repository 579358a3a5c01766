-- Written by this session's own program (wip/x/xprint.py, over the kit's printer); Lean checks it.
import Derived.Test.YtmgkflkfoccgkaaQFnTidiedx0
namespace Go.Proofs.Ytmgkflkfoccgkaa.QFnTidied
open Go.RowKit Go.Proofs.YtmgkflkfoccgkaaW.PrintWords Go.Proofs.YtmgkflkfoccgkaaW.PrintLast Go.Proofs.YtmgkflkfoccgkaaW.PrintMore
attribute [local go_sem] max2_int min2_int max_two min_two max_three min_three max_four min_four   -- for this text's walks alone
set_option linter.unusedVariables false
set_option linter.unusedSimpArgs false

/-! ### laws_big: function 5 -/
def laws_big.f (l0:List Int) (l1:List Int):Option (Bool):=if (l0.length:Int) > 1048576 then (some true) else (some (decide ((l1.length:Int) > (wrap64 (1048576 - (l0.length:Int))))))
set_option maxHeartbeats 8000000 in
set_option maxRecDepth 100000 in
theorem laws_big.calls (A0:Option Addr) (c0:Nat) (l0:List Int) (A1:Option Addr) (c1:Nat) (l1:List Int) (r:Bool) (w:World) (hr0:Kd.C (Kd.int .u8) w A0 l0.length l0) (hc0:l0.length ≤ c0) (hr1:Kd.C (Kd.int .u8) w A1 l1.length l1) (hc1:l1.length ≤ c1) (h:laws_big.f l0 l1 = some r) :
  Calls Try.prog 5 #[.slice A0 l0.length c0,.slice A1 l1.length c1] w fun e w'=>e = .returned (.bool r) ∧ Drawn0 w w':=by
 have HR0:=Aside0.mk hr0
 have HC0:=Aside0.mk hc0
 clear hr0 hc0
 have HR1:=Aside0.mk hr1
 have HC1:=Aside0.mk hc1
 clear hr1 hc1
 have H:(if (l0.length:Int) > 1048576 then (some true) else (some (decide ((l1.length:Int) > (wrap64 (1048576 - (l0.length:Int))))))) = some r:=h
 clear h
 by_cases c3:(l0.length:Int) > 1048576
 ·rw [if_pos c3] at H
  have c3b0:decide (1048576 < (l0.length:Int)) = true:=decide_eq_true c3
  have c3b1:decide (1048576 < l0.length) = true:=decide_eq_true (by omega)
  clear c3
  obtain rfl:=Option.some.inj H
  go_enter Try.func5,Try.ntmps5
  go_wp2
  go_ret
  exact ⟨Yd,Yh⟩
 ·rw [if_neg c3] at H
  have c3b0:decide (1048576 < (l0.length:Int)) = false:=decide_eq_false c3
  have c3b1:decide (1048576 < l0.length) = false:=decide_eq_false (by omega)
  clear c3
  obtain rfl:=Option.some.inj H
  go_enter Try.func5,Try.ntmps5
  go_wp2
  go_ret
  exact ⟨Yd,Yh⟩

/-! ### laws_numberOf: function 38 -/
def laws_numberOf.l0:Nat → Int → List Int → Int → Int → Option (Int)
 | 0,_,_,_,_=>none
 | k + 1,x3,x6,x7,x8=>if x8 < x7 then (if 0 ≤ x8 then (if x8 < (x6.length:Int) then (laws_numberOf.l0 k (Int.tmod (wrap64 ((wrap64 (31 * x3)) + (wrap64 (rd x6 x8)))) 1000003) x6 x7 (wrap64 (x8 + 1))) else (none)) else (none)) else (some x3)
def laws_numberOf.f (k:Nat) (l0:List Int):Option (Int):=laws_numberOf.l0 k 0 l0 (l0.length:Int) 0
theorem laws_numberOf.mono_l:∀ k,(∀ y0 y1 y2 y3,LeO (laws_numberOf.l0 k y0 y1 y2 y3) (laws_numberOf.l0 (k + 1) y0 y1 y2 y3))
 | 0=>fun _ _ _ _ r h=>by simp [laws_numberOf.l0] at h
 | k + 1=>by
  have ih0:=laws_numberOf.mono_l k
  ·intro y0 y1 y2 y3
   unfold laws_numberOf.l0
   exact mO
theorem laws_numberOf.mono:∀ a0 k,LeO (laws_numberOf.f k a0) (laws_numberOf.f (k + 1) a0):=by
 intro a0 k
 have ih0:=laws_numberOf.mono_l k
 unfold laws_numberOf.f
 exact mO
set_option maxHeartbeats 8000000 in
set_option maxRecDepth 100000 in
theorem laws_numberOf.calls (k:Nat) (A0:Option Addr) (c0:Nat) (l0:List Int) (r:Int) (w:World) (hr0:Kd.C (Kd.int .u8) w A0 l0.length l0) (hc0:l0.length ≤ c0) (h:laws_numberOf.f k l0 = some r) :
  Calls Try.prog 38 #[.slice A0 l0.length c0] w fun e w'=>e = .returned (.int .i64 r) ∧ Drawn0 w w':=by
 have HR0:=Aside0.mk hr0
 have HC0:=Aside0.mk hc0
 clear hr0 hc0
 have H:(laws_numberOf.l0 k 0 l0 (l0.length:Int) 0) = some r:=h
 clear h
 have H':=Aside0.mk H
 clear H
 go_enter Try.func38,Try.ntmps38
 go_wp2
 go_loopg [3,8] k (fun kq v3 v8 w'=>∃ (x3_1:Int) (x8_1:Int),v3 = .int .i64 x3_1 ∧ v8 = .int .i64 x8_1 ∧ Aside0 (laws_numberOf.l0 kq x3_1 l0 (l0.length:Int) x8_1 = some r) ∧ Aside0 (kq ≤ k) ∧ Drawn0 w w')
 case atStart=>exact ⟨(0),(0),Yd,Yd,H',⟨Nat.le_refl _⟩,Yh⟩
 case round =>
  clear H'
  obtain ⟨x3_1,x8_1,rfl,rfl,HA,HK1,⟨m1,rfl⟩⟩:=hrel
  cases gk with
  | zero=>exact absurd HA.out (by simp [laws_numberOf.l0])
  | succ k1 =>
   have H:=HA.out
   clear HA
   simp only [laws_numberOf.l0] at H
   by_cases c2:x8_1 < (l0.length:Int)
   ·rw [if_pos c2] at H
    have c2b0:=decide_eq_true c2
    clear c2
    replace H:=gI H;obtain ⟨c3b0,H⟩:=H
    replace H:=gI H;obtain ⟨c4b0,H⟩:=H
    have H':=Aside0.mk H
    clear H
    obtain ⟨p101,q101,ad101,e101,hx101_0⟩:=aI HR0.out x8_1;cases e101
    go_wp2
    go_roundg k1
    case measure=>have:=HK1.out;omega
    case rel=>exact ⟨(Int.tmod (wrap64 ((wrap64 (31 * x3_1)) + (wrap64 (rd l0 x8_1)))) 1000003),(wrap64 (x8_1 + 1)),Yd,Yd,H',⟨YH⟩,Yh⟩
   ·rw [if_neg c2] at H
    have c2b0:decide (x8_1 < (l0.length:Int)) = false:=decide_eq_false c2
    clear c2
    obtain rfl:=Option.some.inj H
    go_wp2
    go_ret
    exact ⟨Yd,Yh⟩

/-! ### laws_worldOf: function 7 -/
mutual
def laws_worldOf.l0:Nat → Int → List Int → Int → Int → Int → List (List Int) → Option (Int × (List (List Int)))
 | 0,_,_,_,_,_,_=>none
 | k + 1,x5,x21,x22,x23,x106000,x106001=>if x23 < x22 then (if 0 ≤ x23 then (if x23 < (x21.length:Int) then (laws_worldOf.l1 k x5 (rd x21 x23) 1 x21 x22 x23 x106000 x106001) else (none)) else (none)) else (some (x106000,x106001))
def laws_worldOf.l1:Nat → Int → Int → Int → List Int → Int → Int → Int → List (List Int) → Option (Int × (List (List Int)))
 | 0,_,_,_,_,_,_,_,_=>none
 | k + 1,x5,x8,x9,x21,x22,x23,x106000,x106001=>if x8 > 0 then (laws_worldOf.l1 k x5 (wrap64 (x8 - 1)) (wrap64 (x9 * x106000)) x21 x22 x23 x106000 x106001) else (laws_worldOf.l2 k x5 x9 ([]:List Int) x21 x22 x23 x106000 x106001)
def laws_worldOf.l2:Nat → Int → Int → List Int → List Int → Int → Int → Int → List (List Int) → Option (Int × (List (List Int)))
 | 0,_,_,_,_,_,_,_,_=>none
 | k + 1,x5,x9,x10,x21,x22,x23,x106000,x106001=>if x9 > 0 then (if x106000 = 0 then (none) else (if x10.length < 17592186044416 then (laws_worldOf.l2 k (IntKind.u64.wrap ((IntKind.u64.wrap (x5 * 6364136223846793005)) + 1442695040888963407)) (wrap64 (x9 - 1)) (x10 ++ [Int.tmod (wrap64 ((IntKind.u64.wrap ((IntKind.u64.wrap (x5 * 6364136223846793005)) + 1442695040888963407)) / 1099511627776)) x106000]) x21 x22 x23 x106000 x106001) else (none))) else (if x106001.length < 5864062014805 then (laws_worldOf.l0 k x5 x21 x22 (wrap64 (x23 + 1)) x106000 (x106001 ++ [x10])) else (none))
end
def laws_worldOf.f (k:Nat) (l0_0:List Int) (l1:List Int):Option (Int × (List (List Int))):=(laws_numberOf.f k l1).bind fun t104=>(laws_worldOf.l0 k (IntKind.u64.wrap ((IntKind.u64.wrap (t104)) + 7)) l0_0 (l0_0.length:Int) 0 (wrap64 (1 + (wrap64 (Int.tmod (IntKind.u64.wrap ((IntKind.u64.wrap (t104)) + 7)) 3)))) ([]:List (List Int)))
theorem laws_worldOf.mono_l:∀ k,(∀ y0 y1 y2 y3 y4 y5,LeO (laws_worldOf.l0 k y0 y1 y2 y3 y4 y5) (laws_worldOf.l0 (k + 1) y0 y1 y2 y3 y4 y5)) ∧ (∀ y0 y1 y2 y3 y4 y5 y6 y7,LeO (laws_worldOf.l1 k y0 y1 y2 y3 y4 y5 y6 y7) (laws_worldOf.l1 (k + 1) y0 y1 y2 y3 y4 y5 y6 y7)) ∧ (∀ y0 y1 y2 y3 y4 y5 y6 y7,LeO (laws_worldOf.l2 k y0 y1 y2 y3 y4 y5 y6 y7) (laws_worldOf.l2 (k + 1) y0 y1 y2 y3 y4 y5 y6 y7))
 | 0=>⟨fun _ _ _ _ _ _ r h=>by simp [laws_worldOf.l0] at h,fun _ _ _ _ _ _ _ _ r h=>by simp [laws_worldOf.l1] at h,fun _ _ _ _ _ _ _ _ r h=>by simp [laws_worldOf.l2] at h⟩
 | k + 1=>by
  obtain ⟨ih0,ih1,ih2⟩:=laws_worldOf.mono_l k
  refine ⟨?_,?_,?_⟩
  ·intro y0 y1 y2 y3 y4 y5
   unfold laws_worldOf.l0
   have m0:=@laws_numberOf.mono
   exact mO
  ·intro y0 y1 y2 y3 y4 y5 y6 y7
   unfold laws_worldOf.l1
   have m0:=@laws_numberOf.mono
   exact mO
  ·intro y0 y1 y2 y3 y4 y5 y6 y7
   unfold laws_worldOf.l2
   have m0:=@laws_numberOf.mono
   exact mO
theorem laws_worldOf.mono:∀ a0 a1 k,LeO (laws_worldOf.f k a0 a1) (laws_worldOf.f (k + 1) a0 a1):=by
 intro a0 a1 k
 obtain ⟨ih0,ih1,ih2⟩:=laws_worldOf.mono_l k
 unfold laws_worldOf.f
 have m0:=@laws_numberOf.mono
 exact mO
set_option maxHeartbeats 8000000 in
set_option maxRecDepth 100000 in
theorem laws_worldOf.calls (k:Nat) (A0_0:Option Addr) (c0_0:Nat) (l0_0:List Int) (A1:Option Addr) (c1:Nat) (l1:List Int) (r1:Int) (r2:List (List Int)) (w:World) (hr0_0:Kd.C (Kd.int .i64) w A0_0 l0_0.length l0_0) (hc0_0:l0_0.length ≤ c0_0) (hr1:Kd.C (Kd.int .u8) w A1 l1.length l1) (hc1:l1.length ≤ c1) (h:laws_worldOf.f k l0_0 l1 = some (r1,r2)) :
  Calls Try.prog 7 #[.agg #[.slice A0_0 l0_0.length c0_0],.slice A1 l1.length c1] w fun e w'=>∃ v1_:Value,e = .returned (.agg #[.int .i64 r1,v1_]) ∧ Kd.S (Kd.slice 3 (Kd.int .i64)) 24 w' w.heap.size (fun _=>True) v1_ r2 ∧ Below w.heap.size w w':=by
 have hu26:=Try.underlying26
 have hu31:=Try.underlying31
 have HR0_0:=Aside0.mk hr0_0
 have HC0_0:=Aside0.mk hc0_0
 clear hr0_0 hc0_0
 have HR1:=Aside0.mk hr1
 have HC1:=Aside0.mk hc1
 clear hr1 hc1
 have HB:=Aside0.mk (Below.refl w.heap.size w)
 have H:((laws_numberOf.f k l1).bind fun t104=>(laws_worldOf.l0 k (IntKind.u64.wrap ((IntKind.u64.wrap (t104)) + 7)) l0_0 (l0_0.length:Int) 0 (wrap64 (1 + (wrap64 (Int.tmod (IntKind.u64.wrap ((IntKind.u64.wrap (t104)) + 7)) 3)))) ([]:List (List Int)))) = some (r1,r2):=h
 clear h
 replace H:=bI H;obtain ⟨t104,A3,H⟩:=H
 have H':=Aside0.mk H
 clear H
 go_enter Try.func7,Try.ntmps7
 go_wp2_with (first|(refine xB 2 #[.slice A0_0 l0_0.length c0_0] 26 ?_;intro gb102 hg w4 hbox hb;have BK102:=Aside0.mk (hbox);have GW102:=gZ w gb102;have GE102:=GW102;replace HB:=bS hb;clear hb hbox hg)|(refine xB 4 #[.int .i64 0,.slice none 0 0] 31 ?_;intro gb103 hg w5 hbox hb;have BK103:=Aside0.mk (hbox);have GW103:=gZ w gb103;have GE103:=GW103;replace HB:=bS hb;have NB102_103:=nl BK102 gb102 gb103;have NB103_102:=nr NB102_103;replace BK102:=bb BK102 hb;clear hb hbox hg)|((with_reducible refine gate_callee (f:=38) rfl ?_);refine goesL_ (some 12) rfl rfl Try.func38 (by kernel_rfl) rfl #[.slice A1 l1.length c1] rfl Ya ?_;(with_reducible refine (laws_numberOf.calls k _ _ l1 t104 _ ?side1 ?side2 A3.out).mono ?_);(case side1=>exact sC HR1);(case side2=>exact HC1.out);rintro e w' ⟨rfl,⟨nd,rfl⟩⟩;refine ⟨_,rfl,?_⟩;(try (rw [drewN_self w5];generalize hq_:World.drewN w5 _ = w5;have n0_:Aside0 (w5.heap[gb102]? = some (.cells #[.slice A0_0 l0_0.length c0_0] 26 (0,0))):=⟨by rw [← hq_];exact (bB BK102)⟩;have n1_:Aside0 (w5.heap[gb103]? = some (.cells #[.int .i64 0,.slice none 0 0] 31 (0,0))):=⟨by rw [← hq_];exact (bB BK103)⟩;have n2_:Aside0 (Below w.heap.size w w5):=⟨by rw [← hq_];exact bH⟩;clear BK102 BK103 HB hq_;have BK102:=n0_;have BK103:=n1_;have HB:=n2_;clear n0_ n1_ n2_)))|(refine xB 6 #[.int .i64 0,.slice none 0 0] 31 ?_;intro gb105 hg w6 hbox hb;have BK105:=Aside0.mk (hbox);have GW105:=gZ w gb105;have GE105:=GW105;replace HB:=bS hb;have NB102_105:=nl BK102 gb102 gb105;have NB105_102:=nr NB102_105;replace BK102:=bb BK102 hb;have NB103_105:=nl BK103 gb103 gb105;have NB105_103:=nr NB103_105;replace BK103:=bb BK103 hb;clear hb hbox hg;have hnb7:=NB105_102.out;have hnc7:=NB102_105.out;have hnb8:=NB105_103.out;have hnc8:=NB103_105.out;have hcz9_0:=qc2_0 BK105;have hcz9_1:=qc2_1 BK105;have hfz9_0:=fz BK105 0;have hfz9_1:=fz BK105 1;have hnb10:=NB102_103.out;have hnc10:=NB103_102.out;have hcz11_0:=qc1_0 BK102;have hfz11_0:=fz BK102 0))
 go_loopg [5,23] k (fun kq v5 v23 w'=>∃ (x5_1:Int) (x23_1:Int) (x106001_1:List (List Int)) (u106001:Value),v5 = .int .u64 x5_1 ∧ v23 = .int .i64 x23_1 ∧ Aside0 (laws_worldOf.l0 kq x5_1 l0_0 (l0_0.length:Int) x23_1 (wrap64 (1 + (wrap64 (Int.tmod (IntKind.u64.wrap ((IntKind.u64.wrap (t104)) + 7)) 3)))) x106001_1 = some (r1,r2)) ∧ Aside0 (kq ≤ k) ∧ Aside0 (Kd.S (Kd.slice 3 (Kd.int .i64)) 24 w' w.heap.size (fun _=>True) u106001 x106001_1) ∧ Aside0 (w'.heap[gb102]? = some (.cells #[(.slice A0_0 l0_0.length c0_0)] 26 (0,0))) ∧ Aside0 (w'.heap[gb103]? = some (.cells #[.int .i64 0,(.slice none 0 0)] 31 (0,0))) ∧ Aside0 (w'.heap[gb105]? = some (.cells #[.int .i64 (wrap64 (1 + (wrap64 (Int.tmod (IntKind.u64.wrap ((IntKind.u64.wrap (t104)) + 7)) 3)))),u106001] 31 (0,0))) ∧ Aside0 (Below w.heap.size w w'))
 case atStart=>exact ⟨(IntKind.u64.wrap ((IntKind.u64.wrap (t104)) + 7)),(0),(([]:List (List Int))),(.slice none 0 0),Yd,Yd,H',⟨Nat.le_refl _⟩,⟨Yl⟩,⟨by (with_reducible repeat (first|refine blk_drewN ?_ _|refine blk_drew ?_|refine blk_alloc ?_ _));refine blk_far ?_ NB102_105.out _;(with_reducible repeat (first|refine blk_drewN ?_ _|refine blk_drew ?_|refine blk_alloc ?_ _));refine blk_far ?_ NB102_105.out _;(with_reducible repeat (first|refine blk_drewN ?_ _|refine blk_drew ?_|refine blk_alloc ?_ _));exact BK102.out⟩,⟨by (with_reducible repeat (first|refine blk_drewN ?_ _|refine blk_drew ?_|refine blk_alloc ?_ _));refine blk_far ?_ NB103_105.out _;(with_reducible repeat (first|refine blk_drewN ?_ _|refine blk_drew ?_|refine blk_alloc ?_ _));refine blk_far ?_ NB103_105.out _;(with_reducible repeat (first|refine blk_drewN ?_ _|refine blk_drew ?_|refine blk_alloc ?_ _));exact BK103.out⟩,⟨by (with_reducible repeat (first|refine blk_drewN ?_ _|refine blk_drew ?_|refine blk_alloc ?_ _));refine blk_put (cs:=#[.int .i64 (wrap64 (1 + (wrap64 (Int.tmod (IntKind.u64.wrap ((IntKind.u64.wrap (t104)) + 7)) 3)))),.slice none 0 0]) ?_ 1 _ rfl;(with_reducible repeat (first|refine blk_drewN ?_ _|refine blk_drew ?_|refine blk_alloc ?_ _));refine blk_put (cs:=#[.int .i64 0,.slice none 0 0]) ?_ 0 _ rfl;(with_reducible repeat (first|refine blk_drewN ?_ _|refine blk_drew ?_|refine blk_alloc ?_ _));exact BK105.out⟩,⟨bH⟩⟩
 case round =>
  clear H'
  (try clear c1);(try clear hcz11_0);(try clear hcz9_0);(try clear hcz9_1);(try clear hfz11_0);(try clear hfz9_0);(try clear hfz9_1)
  obtain ⟨x5_1,x23_1,x106001_1,u106001,rfl,rfl,HA,HK1,HO_106001,BK102,BK103,BK105,HB⟩:=hrel
  cases gk with
  | zero=>exact absurd HA.out (by simp [laws_worldOf.l0])
  | succ k1 =>
   have H:=HA.out
   clear HA
   simp only [laws_worldOf.l0] at H
   by_cases c12:x23_1 < (l0_0.length:Int)
   ·rw [if_pos c12] at H
    have c12b0:=decide_eq_true c12
    clear c12
    replace H:=gI H;obtain ⟨c13b0,H⟩:=H
    replace H:=gI H;obtain ⟨c14b0,H⟩:=H
    have H':=Aside0.mk H
    clear H
    have p106:0 ≤ (x23_1:Int):=oD
    have q106:x23_1 < (l0_0.length:Int):=oD
    obtain ⟨ad106,e106,hx106_0⟩:=Kd.at_int HR0_0.out x23_1 p106 q106
    cases e106
    replace hx106_0:=(HB.out.cell (World.block_lt_of_cell? w _ hx106_0)).trans hx106_0
    replace p106:=eq_true p106
    replace q106:=eq_true q106
    go_wp2
    go_loopg [8,9] k1 (fun kq v8 v9 w'=>∃ (x8_2:Int) (x9_2:Int),v8 = .int .i64 x8_2 ∧ v9 = .int .i64 x9_2 ∧ Aside0 (laws_worldOf.l1 kq x5_1 x8_2 x9_2 l0_0 (l0_0.length:Int) x23_1 (wrap64 (1 + (wrap64 (Int.tmod (IntKind.u64.wrap ((IntKind.u64.wrap (t104)) + 7)) 3)))) x106001_1 = some (r1,r2)) ∧ Aside0 (kq ≤ k1) ∧ Aside0 (Kd.S (Kd.slice 3 (Kd.int .i64)) 24 w' w.heap.size (fun _=>True) u106001 x106001_1) ∧ Aside0 (w'.heap[gb102]? = some (.cells #[(.slice (some ad106) l0_0.length c0_0)] 26 (0,0))) ∧ Aside0 (w'.heap[gb103]? = some (.cells #[.int .i64 0,(.slice none 0 0)] 31 (0,0))) ∧ Aside0 (w'.heap[gb105]? = some (.cells #[.int .i64 (wrap64 (1 + (wrap64 (Int.tmod (IntKind.u64.wrap ((IntKind.u64.wrap (t104)) + 7)) 3)))),u106001] 31 (0,0))) ∧ Aside0 (Below w.heap.size w w'))
    case atStart=>exact ⟨(rd l0_0 x23_1),(1),Yd,Yd,H',⟨Nat.le_refl _⟩,⟨rS HO_106001⟩,⟨YM⟩,⟨YL⟩,⟨YK⟩,⟨bH⟩⟩
    case round =>
     clear H'
     (try clear c1);(try clear c12);(try clear c12b0);(try clear c13b0);(try clear c14b0);(try clear hcz11_0);(try clear hcz9_0);(try clear hcz9_1);(try clear hfz11_0);(try clear hfz9_0);(try clear hfz9_1);(try clear hx106_0);(try clear p106);(try clear q106)
     obtain ⟨x8_2,x9_2,rfl,rfl,HA,HK2,HO_106001,BK102,BK103,BK105,HB⟩:=hrel
     cases gk with
     | zero=>exact absurd HA.out (by simp [laws_worldOf.l1])
     | succ k2 =>
      have H:=HA.out
      clear HA
      simp only [laws_worldOf.l1] at H
      by_cases c15:x8_2 > 0
      ·rw [if_pos c15] at H
       have c15b0:decide (0 < x8_2) = true:=decide_eq_true c15
       clear c15
       have H':=Aside0.mk H
       clear H
       have hnb16:=NB105_102.out
       have hnc16:=NB102_105.out
       have hnb17:=NB105_103.out
       have hnc17:=NB103_105.out
       have hcz18_0:wr.cell? ⟨gb105,0,none⟩ = some (.int .i64 (wrap64 (1 + (wrap64 (Int.tmod (IntKind.u64.wrap ((IntKind.u64.wrap (t104)) + 7)) 3))))):=(blk_cell BK105.out 0).trans rfl
       have hcz18_1:=qc2_1 BK105
       have hfz18_0:=fz BK105 0
       have hfz18_1:=fz BK105 1
       go_wp2
       go_roundg k2
       case measure=>have:=HK1.out;have:=HK2.out;omega
       case rel=>exact ⟨(wrap64 (x8_2 - 1)),(wrap64 (x9_2 * (wrap64 (1 + (wrap64 (Int.tmod (IntKind.u64.wrap ((IntKind.u64.wrap (t104)) + 7)) 3)))))),Yd,Yd,H',⟨by have:=HK1.out;have:=HK2.out;omega⟩,⟨rS HO_106001⟩,⟨YM⟩,⟨YL⟩,⟨YK⟩,⟨bH⟩⟩
      ·rw [if_neg c15] at H
       have c15b0:decide (0 < x8_2) = false:=decide_eq_false c15
       clear c15
       have H':=Aside0.mk H
       clear H
       go_wp2
       go_loopg [5,9,10] k2 (fun kq v5 v9 v10 w'=>∃ (x5_3:Int) (x9_3:Int) (x10_3:List Int),v5 = .int .u64 x5_3 ∧ v9 = .int .i64 x9_3 ∧ Aside0 (laws_worldOf.l2 kq x5_3 x9_3 x10_3 l0_0 (l0_0.length:Int) x23_1 (wrap64 (1 + (wrap64 (Int.tmod (IntKind.u64.wrap ((IntKind.u64.wrap (t104)) + 7)) 3)))) x106001_1 = some (r1,r2)) ∧ Aside0 (kq ≤ k2) ∧ Aside0 (Kd.R (Kd.int .i64) 3 w' w.heap.size (fun _=>True) v10 x10_3) ∧ Aside0 (Kd.S (Kd.slice 3 (Kd.int .i64)) 24 w' w.heap.size (fun k_=>some k_ ≠ (v10:Value).ownBlock) u106001 x106001_1) ∧ Aside0 (w'.heap[gb102]? = some (.cells #[(.slice (some ad106) l0_0.length c0_0)] 26 (0,0))) ∧ Aside0 (w'.heap[gb103]? = some (.cells #[.int .i64 0,(.slice none 0 0)] 31 (0,0))) ∧ Aside0 (w'.heap[gb105]? = some (.cells #[.int .i64 (wrap64 (1 + (wrap64 (Int.tmod (IntKind.u64.wrap ((IntKind.u64.wrap (t104)) + 7)) 3)))),u106001] 31 (0,0))) ∧ Aside0 (Below w.heap.size w w'))
       case atStart=>exact ⟨(x5_1),(x9_2),(([]:List Int)),Yd,Yd,H',⟨Nat.le_refl _⟩,⟨Yi⟩,⟨by (with_reducible repeat (first|apply Kd.S_alloc|apply Kd.S_drewN|apply Kd.S_drew));exact Kd.S_mono HO_106001.out (fun _ hk=>(by simp [Value.ownBlock]))⟩,⟨YM⟩,⟨YL⟩,⟨YK⟩,⟨bH⟩⟩
       case round =>
        clear H'
        (try clear c1);(try clear c12);(try clear c12b0);(try clear c13b0);(try clear c14b0);(try clear c15);(try clear c15b0);(try clear hcz11_0);(try clear hcz18_0);(try clear hcz18_1);(try clear hcz9_0);(try clear hcz9_1);(try clear hfz11_0);(try clear hfz18_0);(try clear hfz18_1);(try clear hfz9_0);(try clear hfz9_1);(try clear hx106_0);(try clear p106);(try clear q106)
        obtain ⟨x5_3,x9_3,x10_3,rfl,rfl,HA,HK3,HO_10,HO_106001,BK102,BK103,BK105,HB⟩:=hrel
        cases gk with
        | zero=>exact absurd HA.out (by simp [laws_worldOf.l2])
        | succ k3 =>
         have H:=HA.out
         clear HA
         simp only [laws_worldOf.l2] at H
         by_cases c19:x9_3 > 0
         ·rw [if_pos c19] at H
          have c19b0:decide (0 < x9_3) = true:=decide_eq_true c19
          clear c19
          by_cases c20:(wrap64 (1 + (wrap64 (Int.tmod (IntKind.u64.wrap ((IntKind.u64.wrap (t104)) + 7)) 3)))) = 0
          ·rw [if_pos c20] at H
           exact absurd H (by simp)
          ·rw [if_neg c20] at H
           have c20b0:((wrap64 (1 + (wrap64 (Int.tmod (IntKind.u64.wrap ((IntKind.u64.wrap (t104)) + 7)) 3)))) == 0) = false:=beq_eq_false_iff_ne.mpr c20
           have c20b1:((wrap64 (1 + (wrap64 (Int.tmod (IntKind.u64.wrap ((IntKind.u64.wrap (t104)) + 7)) 3)))) != 0) = true:=bne_iff_ne.mpr c20
           replace H:=gK H;obtain ⟨LMc21,H⟩:=H
           obtain ⟨y107,hy107⟩:∃ y_:List Int,y_ = (x10_3 ++ [Int.tmod (wrap64 ((IntKind.u64.wrap ((IntKind.u64.wrap (x5_3 * 6364136223846793005)) + 1442695040888963407)) / 1099511627776)) (wrap64 (1 + (wrap64 (Int.tmod (IntKind.u64.wrap ((IntKind.u64.wrap (t104)) + 7)) 3))))]):=⟨_,rfl⟩
           replace H:(laws_worldOf.l2 k3 (IntKind.u64.wrap ((IntKind.u64.wrap (x5_3 * 6364136223846793005)) + 1442695040888963407)) (wrap64 (x9_3 - 1)) y107 l0_0 (l0_0.length:Int) x23_1 (wrap64 (1 + (wrap64 (Int.tmod (IntKind.u64.wrap ((IntKind.u64.wrap (t104)) + 7)) 3)))) x106001_1) = some (r1,r2):=by first|(rw [hy107];with_reducible exact H)|(have H2_:=(Option.bind_some _ _).symm.trans H;rw [hy107];with_reducible exact H2_)|(have H2_:=(Option.bind_some _ _).symm.trans H;with_reducible exact H2_)|with_reducible exact H|(rw [hy107];exact H)|exact H
           have Ny107:=Aside0.mk hy107
           clear hy107
           have H':=Aside0.mk H
           clear H
           have hnb22:=NB105_102.out
           have hnc22:=NB102_105.out
           have hnb23:=NB105_103.out
           have hnc23:=NB103_105.out
           have hcz24_0:wr.cell? ⟨gb105,0,none⟩ = some (.int .i64 (wrap64 (1 + (wrap64 (Int.tmod (IntKind.u64.wrap ((IntKind.u64.wrap (t104)) + 7)) 3))))):=(blk_cell BK105.out 0).trans rfl
           have hcz24_1:=qc2_1 BK105
           have hfz24_0:=fz BK105 0
           have hfz24_1:=fz BK105 1
           go_wp2_with (first|((with_reducible refine gate_builtin (b:=.append) (xs:=#[.tmp 42,.tmp 49]) rfl ?_);at_builtin;refine Kd.R_append (Kd.int .i64) (w0:=w) w.heap.size rfl (.tmp 42) (.tmp 49) 24 3 (.int .i64 0) 8 rfl Try.underlying24 info3 rfl (by decide) YP u10 x10_3 (Int.tmod (wrap64 ((IntKind.u64.wrap ((IntKind.u64.wrap (x5_3 * 6364136223846793005)) + 1442695040888963407)) / 1099511627776)) (wrap64 (1 + (wrap64 (Int.tmod (IntKind.u64.wrap ((IntKind.u64.wrap (t104)) + 7)) 3))))) [.int .i64 (Int.tmod (wrap64 ((IntKind.u64.wrap ((IntKind.u64.wrap (x5_3 * 6364136223846793005)) + 1442695040888963407)) / 1099511627776)) (wrap64 (1 + (wrap64 (Int.tmod (IntKind.u64.wrap ((IntKind.u64.wrap (t104)) + 7)) 3)))))] (fun _=>True) (fun _=>False) rfl rfl ?aP (fun _ hk=>hk.elim) ?aF ?aO ?aB ?aS ?aL ?_;(case aP=>exact rfl);(case aB=>exact bH);(case aF=>exact (fun _ _=>trivial));(case aO=>exact (rR HO_10));(case aS=>exact YR);(case aL=>have:=LMc21.out;omega);intro v108 w25 ho hb hg hat;rw [← Ny107.out] at ho;have n0_:=Aside0.mk (Kd.S_after (ok:=(fun _=>True)) (by (with_reducible repeat (first|apply Kd.S_alloc|apply Kd.S_drewN|apply Kd.S_drew));exact Kd.S_mono HO_106001.out (fun _ hk=>⟨trivial,hk⟩)) hg hat);have n1_:=Aside0.mk (blk_grown (bB BK102) hg (Kd.R_ne HO_10.out BK102.out (by decide)));have n2_:=Aside0.mk (blk_grown (bB BK103) hg (Kd.R_ne HO_10.out BK103.out (by decide)));have n3_:=Aside0.mk (blk_grown (bB BK105) hg (Kd.R_ne HO_10.out BK105.out (by decide)));have n4_:=Aside0.mk (hb);have n5_:=Aside0.mk (ho);clear HO_106001;clear BK102;clear BK103;clear BK105;clear HB;clear HO_10;have HO_106001:=n0_;have BK102:=n1_;have BK103:=n2_;have BK105:=n3_;have HB:=n4_;have HO109:=n5_;clear n0_ n1_ n2_ n3_ n4_ n5_;clear ho hb hg hat))
           go_roundg k3
           case measure=>have:=HK1.out;have:=HK2.out;have:=HK3.out;omega
           case rel=>exact ⟨(IntKind.u64.wrap ((IntKind.u64.wrap (x5_3 * 6364136223846793005)) + 1442695040888963407)),(wrap64 (x9_3 - 1)),(y107),Yd,Yd,H',⟨by have:=HK1.out;have:=HK2.out;have:=HK3.out;omega⟩,⟨rR HO109⟩,⟨by (with_reducible repeat (first|apply Kd.S_alloc|apply Kd.S_drewN|apply Kd.S_drew));exact Kd.S_mono HO_106001.out (fun _ hk=>hk.2)⟩,⟨YM⟩,⟨YL⟩,⟨YK⟩,⟨bH⟩⟩
         ·rw [if_neg c19] at H
          have c19b0:decide (0 < x9_3) = false:=decide_eq_false c19
          clear c19
          replace H:=gK H;obtain ⟨LMc26,H⟩:=H
          obtain ⟨y110,hy110⟩:∃ y_:List (List Int),y_ = (x106001_1 ++ [x10_3]):=⟨_,rfl⟩
          replace H:(laws_worldOf.l0 k3 x5_3 l0_0 (l0_0.length:Int) (wrap64 (x23_1 + 1)) (wrap64 (1 + (wrap64 (Int.tmod (IntKind.u64.wrap ((IntKind.u64.wrap (t104)) + 7)) 3)))) y110) = some (r1,r2):=by first|(rw [hy110];with_reducible exact H)|(have H2_:=(Option.bind_some _ _).symm.trans H;rw [hy110];with_reducible exact H2_)|(have H2_:=(Option.bind_some _ _).symm.trans H;with_reducible exact H2_)|with_reducible exact H|(rw [hy110];exact H)|exact H
          have Ny110:=Aside0.mk hy110
          clear hy110
          have H':=Aside0.mk H
          clear H
          have hnb27:=NB105_102.out
          have hnc27:=NB102_105.out
          have hnb28:=NB105_103.out
          have hnc28:=NB103_105.out
          have hcz29_0:wr.cell? ⟨gb105,0,none⟩ = some (.int .i64 (wrap64 (1 + (wrap64 (Int.tmod (IntKind.u64.wrap ((IntKind.u64.wrap (t104)) + 7)) 3))))):=(blk_cell BK105.out 0).trans rfl
          have hcz29_1:=qc2_1 BK105
          have hfz29_0:=fz BK105 0
          have hfz29_1:=fz BK105 1
          obtain ⟨Ao31,co31,eo31⟩:=Kd.R_slice HO_10.out
          subst eo31
          go_wp2_with (first|((with_reducible refine gate_builtin (b:=.append) (xs:=#[.tmp 52,.tmp 54]) rfl ?_);at_builtin;refine Kd.S_append (Kd.slice 3 (Kd.int .i64)) (w0:=w) w.heap.size rfl (.tmp 52) (.tmp 54) 27 24 (.slice none 0 0) 24 rfl Try.underlying27 info24 rfl (by decide) YP u106001 x106001_1 x10_3 [.slice Ao31 x10_3.length co31] (fun _=>True) (fun k_=>some k_ = (.slice Ao31 x10_3.length co31:Value).ownBlock) rfl rfl ?aP (fun k_ hk_=>((Kd.R_mono (ok':=fun k_=>((fun _=>True)) k_ ∧ some k_ ≠ (u106001:Value).ownBlock) (Kd.R_apart' (HO_10.out) (Kd.S_typed HO_106001.out) (by decide)) (fun k_ hk=>⟨trivial,hk.2⟩))).1 k_ hk_.symm) ?aF ?aO ?aB ?aS ?aL ?_;(case aP=>exact Kd.M_row (Kd.R_mono (Kd.R_tight rfl (Kd.R_mono (ok':=fun k_=>((fun _=>True)) k_ ∧ some k_ ≠ (u106001:Value).ownBlock) (Kd.R_apart' (HO_10.out) (Kd.S_typed HO_106001.out) (by decide)) (fun k_ hk=>⟨trivial,hk.2⟩))) (fun _ h_=>h_)));(case aB=>exact bH);(case aF=>exact (fun _ _=>trivial));(case aO=>exact (by (with_reducible repeat (first|apply Kd.S_alloc|apply Kd.S_drewN|apply Kd.S_drew));exact Kd.S_mono HO_106001.out (fun k_ hk=>⟨trivial,fun e_=>hk e_⟩)));(case aS=>exact YR);(case aL=>have:=LMc26.out;omega);intro v111 w30 ho hb hg hat;rw [← Ny110.out] at ho;have n0_:=Aside0.mk (blk_grown (bB BK102) hg (Kd.S_ne HO_106001.out BK102.out (by decide)));have n1_:=Aside0.mk (blk_grown (bB BK103) hg (Kd.S_ne HO_106001.out BK103.out (by decide)));have n2_:=Aside0.mk (blk_grown (bB BK105) hg (Kd.S_ne HO_106001.out BK105.out (by decide)));have n3_:=Aside0.mk (hb);have n4_:=Aside0.mk (ho);clear BK102;clear BK103;clear BK105;clear HB;clear HO_106001;clear HO_10;have BK102:=n0_;have BK103:=n1_;have BK105:=n2_;have HB:=n3_;have HO112:=n4_;clear n0_ n1_ n2_ n3_ n4_;clear ho hb hg hat;obtain ⟨Ao32,co32,eo32⟩:=Kd.S_slice HO112.out;subst eo32;have hcz33_0:w30.cell? ⟨gb105,0,none⟩ = some (.int .i64 (wrap64 (1 + (wrap64 (Int.tmod (IntKind.u64.wrap ((IntKind.u64.wrap (t104)) + 7)) 3))))):=(blk_cell BK105.out 0).trans rfl;have hcz33_1:=qc2_1 BK105;have hfz33_0:=fz BK105 0;have hfz33_1:=fz BK105 1))
          go_roundg k3
          case measure=>have:=HK1.out;have:=HK2.out;have:=HK3.out;omega
          case rel=>exact ⟨(x5_3),(wrap64 (x23_1 + 1)),(y110),(.slice Ao32 y110.length co32),Yd,Yd,H',⟨by have:=HK1.out;have:=HK2.out;have:=HK3.out;omega⟩,⟨by (with_reducible repeat (first|apply Kd.S_alloc|apply Kd.S_drewN|apply Kd.S_drew));exact Kd.S_mono (Kd.S_far (p:=⟨gb105,1,none⟩) (Kd.S_types HO112.out BK105.out (by decide)) (fun _ hk=>hk.2) (.slice Ao32 y110.length co32)) (fun _ hk=>trivial)⟩,⟨by (with_reducible repeat (first|refine blk_drewN ?_ _|refine blk_drew ?_|refine blk_alloc ?_ _));refine blk_far ?_ NB102_105.out _;(with_reducible repeat (first|refine blk_drewN ?_ _|refine blk_drew ?_|refine blk_alloc ?_ _));exact BK102.out⟩,⟨by (with_reducible repeat (first|refine blk_drewN ?_ _|refine blk_drew ?_|refine blk_alloc ?_ _));refine blk_far ?_ NB103_105.out _;(with_reducible repeat (first|refine blk_drewN ?_ _|refine blk_drew ?_|refine blk_alloc ?_ _));exact BK103.out⟩,⟨by (with_reducible repeat (first|refine blk_drewN ?_ _|refine blk_drew ?_|refine blk_alloc ?_ _));refine blk_put (cs:=#[.int .i64 (wrap64 (1 + (wrap64 (Int.tmod (IntKind.u64.wrap ((IntKind.u64.wrap (t104)) + 7)) 3)))),u106001]) ?_ 1 _ rfl;(with_reducible repeat (first|refine blk_drewN ?_ _|refine blk_drew ?_|refine blk_alloc ?_ _));exact BK105.out⟩,⟨bH⟩⟩
   ·rw [if_neg c12] at H
    have c12b0:decide (x23_1 < (l0_0.length:Int)) = false:=decide_eq_false c12
    clear c12
    simp only [Option.some.injEq,Prod.mk.injEq] at H
    obtain ⟨rfl,rfl⟩:=H
    have hnb34:=NB105_102.out
    have hnc34:=NB102_105.out
    have hnb35:=NB105_103.out
    have hnc35:=NB103_105.out
    have hcz36_0:wr.cell? ⟨gb105,0,none⟩ = some (.int .i64 (wrap64 (1 + (wrap64 (Int.tmod (IntKind.u64.wrap ((IntKind.u64.wrap (t104)) + 7)) 3))))):=(blk_cell BK105.out 0).trans rfl
    have hcz36_1:=qc2_1 BK105
    have hfz36_0:=fz BK105 0
    have hfz36_1:=fz BK105 1
    have hnb37:=NB103_102.out
    have hnc37:=NB102_103.out
    have hcz38_0:=qc2_0 BK103
    have hcz38_1:=qc2_1 BK103
    have hfz38_0:=fz BK103 0
    have hfz38_1:=fz BK103 1
    obtain ⟨Ao39,co39,eo39⟩:=Kd.S_slice HO_106001.out
    subst eo39
    go_wp2
    refine bodyPost_ret (results_cell_row rfl _ _ gb103 31 #[.int .i64 (wrap64 (1 + (wrap64 (Int.tmod (IntKind.u64.wrap ((IntKind.u64.wrap (t104)) + 7)) 3)))),.slice Ao39 x106001_1.length co39] (0,0) _ rfl (by (with_reducible repeat (first|refine blk_drewN ?_ _|refine blk_drew ?_|refine blk_alloc ?_ _));refine blk_put (cs:=#[.int .i64 (wrap64 (1 + (wrap64 (Int.tmod (IntKind.u64.wrap ((IntKind.u64.wrap (t104)) + 7)) 3)))),.slice none 0 0]) ?_ 1 _ rfl;(with_reducible repeat (first|refine blk_drewN ?_ _|refine blk_drew ?_|refine blk_alloc ?_ _));refine blk_put (cs:=#[.int .i64 0,.slice none 0 0]) ?_ 0 _ rfl;(with_reducible repeat (first|refine blk_drewN ?_ _|refine blk_drew ?_|refine blk_alloc ?_ _));exact BK103.out) Try.underlying31 rfl (by kernel_rfl)) rfl ?_
    exact ⟨_,Yb,by (with_reducible repeat (first|apply Kd.S_alloc|apply Kd.S_drewN|apply Kd.S_drew));exact Kd.S_mono (Kd.S_far (p:=⟨gb103,1,none⟩) (Kd.S_far (p:=⟨gb103,0,none⟩) (Kd.S_types HO_106001.out BK103.out (by decide)) (fun _ hk=>hk.2) (.int .i64 (wrap64 (1 + (wrap64 (Int.tmod (IntKind.u64.wrap ((IntKind.u64.wrap (t104)) + 7)) 3)))))) (fun _ hk=>hk.2) (.slice Ao39 x106001_1.length co39)) (fun _ hk=>trivial),bH⟩

/-! ### laws_envOf: function 8 -/
def laws_envOf.l0:Nat → Int → List Int → Int → Int → List (List Int) → Option (List Int)
 | 0,_,_,_,_,_=>none
 | k + 1,x5,x6,x7,x114000,x114001=>if x7 < 12 then (if x114000 = 0 then (none) else (if x6.length < 17592186044416 then (laws_envOf.l0 k (IntKind.u64.wrap ((IntKind.u64.wrap (x5 * 6364136223846793005)) + 1442695040888963407)) (x6 ++ [Int.tmod (wrap64 ((IntKind.u64.wrap ((IntKind.u64.wrap (x5 * 6364136223846793005)) + 1442695040888963407)) / 1099511627776)) x114000]) (wrap64 (x7 + 1)) x114000 x114001) else (none))) else (some x6)
def laws_envOf.f (k:Nat) (a0_0:Int) (l0_1:List (List Int)) (l1:List Int):Option (List Int):=(laws_numberOf.f k l1).bind fun t114=>(laws_envOf.l0 k (IntKind.u64.wrap ((IntKind.u64.wrap (t114)) + 3)) ([]:List Int) 0 a0_0 l0_1)
theorem laws_envOf.mono_l:∀ k,(∀ y0 y1 y2 y3 y4,LeO (laws_envOf.l0 k y0 y1 y2 y3 y4) (laws_envOf.l0 (k + 1) y0 y1 y2 y3 y4))
 | 0=>fun _ _ _ _ _ r h=>by simp [laws_envOf.l0] at h
 | k + 1=>by
  have ih0:=laws_envOf.mono_l k
  ·intro y0 y1 y2 y3 y4
   unfold laws_envOf.l0
   have m0:=@laws_numberOf.mono
   exact mO
theorem laws_envOf.mono:∀ a0 a1 a2 k,LeO (laws_envOf.f k a0 a1 a2) (laws_envOf.f (k + 1) a0 a1 a2):=by
 intro a0 a1 a2 k
 have ih0:=laws_envOf.mono_l k
 unfold laws_envOf.f
 have m0:=@laws_numberOf.mono
 exact mO
set_option maxHeartbeats 8000000 in
set_option maxRecDepth 100000 in
theorem laws_envOf.calls (k:Nat) (a0_0:Int) (A0_1:Option Addr) (c0_1:Nat) (l0_1:List (List Int)) (A1:Option Addr) (c1:Nat) (l1:List Int) (r:List Int) (w:World) (hr0_1:Kd.C (Kd.slice 3 (Kd.int .i64)) w A0_1 l0_1.length l0_1) (hc0_1:l0_1.length ≤ c0_1) (hr1:Kd.C (Kd.int .u8) w A1 l1.length l1) (hc1:l1.length ≤ c1) (h:laws_envOf.f k a0_0 l0_1 l1 = some r) :
  Calls Try.prog 8 #[.agg #[.int .i64 a0_0,.slice A0_1 l0_1.length c0_1],.slice A1 l1.length c1] w fun e w'=>∃ v0_:Value,e = .returned (v0_) ∧ Kd.R (Kd.int .i64) 3 w' w.heap.size (fun _=>True) v0_ r ∧ Below w.heap.size w w':=by
 have hu31:=Try.underlying31
 have HR0_1:=Aside0.mk hr0_1
 have HC0_1:=Aside0.mk hc0_1
 clear hr0_1 hc0_1
 have HR1:=Aside0.mk hr1
 have HC1:=Aside0.mk hc1
 clear hr1 hc1
 have HB:=Aside0.mk (Below.refl w.heap.size w)
 have H:((laws_numberOf.f k l1).bind fun t114=>(laws_envOf.l0 k (IntKind.u64.wrap ((IntKind.u64.wrap (t114)) + 3)) ([]:List Int) 0 a0_0 l0_1)) = some r:=h
 clear h
 replace H:=bI H;obtain ⟨t114,A3,H⟩:=H
 have H':=Aside0.mk H
 clear H
 go_enter Try.func8,Try.ntmps8
 go_wp2_with (first|(refine xB 2 #[.int .i64 a0_0,.slice A0_1 l0_1.length c0_1] 31 ?_;intro gb113 hg w4 hbox hb;have BK113:=Aside0.mk (hbox);have GW113:=gZ w gb113;have GE113:=GW113;replace HB:=bS hb;clear hb hbox hg)|((with_reducible refine gate_callee (f:=38) rfl ?_);refine goesL_ (some 9) rfl rfl Try.func38 (by kernel_rfl) rfl #[.slice A1 l1.length c1] rfl Ya ?_;(with_reducible refine (laws_numberOf.calls k _ _ l1 t114 _ ?side1 ?side2 A3.out).mono ?_);(case side1=>exact sC HR1);(case side2=>exact HC1.out);rintro e w' ⟨rfl,⟨nd,rfl⟩⟩;refine ⟨_,rfl,?_⟩))
 go_loopg [5,6,7] k (fun kq v5 v6 v7 w'=>∃ (x5_1:Int) (x6_1:List Int) (x7_1:Int),v5 = .int .u64 x5_1 ∧ v7 = .int .i64 x7_1 ∧ Aside0 (laws_envOf.l0 kq x5_1 x6_1 x7_1 a0_0 l0_1 = some r) ∧ Aside0 (kq ≤ k) ∧ Aside0 (Kd.R (Kd.int .i64) 3 w' w.heap.size (fun _=>True) v6 x6_1) ∧ Aside0 (w'.heap[gb113]? = some (.cells #[.int .i64 a0_0,(.slice A0_1 l0_1.length c0_1)] 31 (0,0))) ∧ Aside0 (Below w.heap.size w w'))
 case atStart=>exact ⟨(IntKind.u64.wrap ((IntKind.u64.wrap (t114)) + 3)),(([]:List Int)),(0),Yd,Yd,H',⟨Nat.le_refl _⟩,⟨Yi⟩,⟨by (with_reducible repeat (first|refine blk_drewN ?_ _|refine blk_drew ?_|refine blk_alloc ?_ _));exact BK113.out⟩,⟨bH⟩⟩
 case round =>
  clear H'
  (try clear c1)
  obtain ⟨x5_1,x6_1,x7_1,rfl,rfl,HA,HK1,HO_6,BK113,HB⟩:=hrel
  cases gk with
  | zero=>exact absurd HA.out (by simp [laws_envOf.l0])
  | succ k1 =>
   have H:=HA.out
   clear HA
   simp only [laws_envOf.l0] at H
   by_cases c5:x7_1 < 12
   ·rw [if_pos c5] at H
    have c5b0:=decide_eq_true c5
    clear c5
    by_cases c6:a0_0 = 0
    ·rw [if_pos c6] at H
     exact absurd H (by simp)
    ·rw [if_neg c6] at H
     have c6b0:(a0_0 == 0) = false:=beq_eq_false_iff_ne.mpr c6
     have c6b1:(a0_0 != 0) = true:=bne_iff_ne.mpr c6
     replace H:=gK H;obtain ⟨LMc7,H⟩:=H
     obtain ⟨y115,hy115⟩:∃ y_:List Int,y_ = (x6_1 ++ [Int.tmod (wrap64 ((IntKind.u64.wrap ((IntKind.u64.wrap (x5_1 * 6364136223846793005)) + 1442695040888963407)) / 1099511627776)) a0_0]):=⟨_,rfl⟩
     replace H:(laws_envOf.l0 k1 (IntKind.u64.wrap ((IntKind.u64.wrap (x5_1 * 6364136223846793005)) + 1442695040888963407)) y115 (wrap64 (x7_1 + 1)) a0_0 l0_1) = some r:=by first|(rw [hy115];with_reducible exact H)|(have H2_:=(Option.bind_some _ _).symm.trans H;rw [hy115];with_reducible exact H2_)|(have H2_:=(Option.bind_some _ _).symm.trans H;with_reducible exact H2_)|with_reducible exact H|(rw [hy115];exact H)|exact H
     have Ny115:=Aside0.mk hy115
     clear hy115
     have H':=Aside0.mk H
     clear H
     have hcz8_0:=qc2_0 BK113
     have hcz8_1:=qc2_1 BK113
     have hfz8_0:=fz BK113 0
     have hfz8_1:=fz BK113 1
     go_wp2_with (first|((with_reducible refine gate_builtin (b:=.append) (xs:=#[.tmp 19,.tmp 26]) rfl ?_);at_builtin;refine Kd.R_append (Kd.int .i64) (w0:=w) w.heap.size rfl (.tmp 19) (.tmp 26) 24 3 (.int .i64 0) 8 rfl Try.underlying24 info3 rfl (by decide) YP u6 x6_1 (Int.tmod (wrap64 ((IntKind.u64.wrap ((IntKind.u64.wrap (x5_1 * 6364136223846793005)) + 1442695040888963407)) / 1099511627776)) a0_0) [.int .i64 (Int.tmod (wrap64 ((IntKind.u64.wrap ((IntKind.u64.wrap (x5_1 * 6364136223846793005)) + 1442695040888963407)) / 1099511627776)) a0_0)] (fun _=>True) (fun _=>False) rfl rfl ?aP (fun _ hk=>hk.elim) ?aF ?aO ?aB ?aS ?aL ?_;(case aP=>exact rfl);(case aB=>exact bH);(case aF=>exact (fun _ _=>trivial));(case aO=>exact (rR HO_6));(case aS=>exact YR);(case aL=>have:=LMc7.out;omega);intro v116 w9 ho hb hg hat;rw [← Ny115.out] at ho;have n0_:=Aside0.mk (blk_grown (bB BK113) hg (Kd.R_ne HO_6.out BK113.out (by decide)));have n1_:=Aside0.mk (hb);have n2_:=Aside0.mk (ho);clear BK113;clear HB;clear HO_6;have BK113:=n0_;have HB:=n1_;have HO117:=n2_;clear n0_ n1_ n2_;clear ho hb hg hat))
     go_roundg k1
     case measure=>have:=HK1.out;omega
     case rel=>exact ⟨(IntKind.u64.wrap ((IntKind.u64.wrap (x5_1 * 6364136223846793005)) + 1442695040888963407)),(y115),(wrap64 (x7_1 + 1)),Yd,Yd,H',⟨YH⟩,⟨rR HO117⟩,⟨by (with_reducible repeat (first|refine blk_drewN ?_ _|refine blk_drew ?_|refine blk_alloc ?_ _));exact BK113.out⟩,⟨bH⟩⟩
   ·rw [if_neg c5] at H
    have c5b0:decide (x7_1 < 12) = false:=decide_eq_false c5
    clear c5
    obtain rfl:=Option.some.inj H
    go_wp2
    go_ret
    exact ⟨_,Yb,rR HO_6,bH⟩

/-! ### impl_GoodSign_1: function 94 -/
def impl_GoodSign_1.f (a0:Int):Option (Bool):=if a0 < 0 then (some true) else (some (decide (a0 > 3)))
set_option maxHeartbeats 8000000 in
set_option maxRecDepth 100000 in
theorem impl_GoodSign_1.calls (a0:Int) (r:Bool) (w:World) (h:impl_GoodSign_1.f a0 = some r) :
  Calls Try.prog 94 #[.int .i64 a0] w fun e w'=>e = .returned (.bool r) ∧ Drawn0 w w':=by
 have H:(if a0 < 0 then (some true) else (some (decide (a0 > 3)))) = some r:=h
 clear h
 by_cases c2:a0 < 0
 ·rw [if_pos c2] at H
  have c2b0:=decide_eq_true c2
  clear c2
  obtain rfl:=Option.some.inj H
  go_enter Try.func94,Try.ntmps94
  go_wp2
  go_ret
  exact ⟨Yd,Yh⟩
 ·rw [if_neg c2] at H
  have c2b0:decide (a0 < 0) = false:=decide_eq_false c2
  clear c2
  obtain rfl:=Option.some.inj H
  go_enter Try.func94,Try.ntmps94
  go_wp2
  go_ret
  exact ⟨Yd,Yh⟩

/-! ### slices.ContainsFunc and IndexFunc, told -/
/-- The place of the first element of which f holds, told from i on; -1. -/
def idxO {α:Type} (f:α → Option Bool):Int → List α → Option Int
 | _,[]=>some (-1)
 | i,x :: t=>(f x).bind fun b=>if b = true then some i else idxO f (i + 1) t
/-- Does f hold of an element? -/
def anyO {α:Type} (f:α → Option Bool):List α → Option Bool
 | []=>some false
 | x :: t=>(f x).bind fun b=>if b = true then some true else anyO f t
theorem idxO_any {α:Type} (f:α → Option Bool) (l:List α):∀ (i:Int) (r:Bool),0 ≤ i → anyO f l = some r → ∃ j,idxO f i l = some j ∧ r = decide (0 ≤ j):=by
 induction l with
 | nil=>intro i r hi h;exact ⟨-1,rfl,by simpa [anyO] using h.symm⟩
 | cons x t ih =>
  intro i r hi h
  simp only [anyO] at h
  simp only [idxO]
  cases hx:f x with
  | none=>rw [hx] at h;simp at h
  | some b =>
   rw [hx] at h
   cases b with
   | true=>simp at h;exact ⟨i,by simp,by simp [hi,← h]⟩
   | false =>
    simp at h
    obtain ⟨j,h1,h2⟩:=ih (i + 1) r (by omega) h
    exact ⟨j,by simpa using h1,h2⟩
theorem anyO_mono {α:Type} {f g:α → Option Bool} (h:∀ x,LeO (f x) (g x)) (l:List α):LeO (anyO f l) (anyO g l):=by
 induction l with
 | nil=>exact LeO.refl _
 | cons x t ih =>
  simp only [anyO]
  exact LeO.bind (h x) (fun b=>LeO.ite (LeO.refl _) ih)
theorem idxO_mono {α:Type} {f g:α → Option Bool} (h:∀ x,LeO (f x) (g x)) (l:List α):∀ i,LeO (idxO f i l) (idxO g i l):=by
 induction l with
 | nil=>exact fun _=>LeO.refl _
 | cons x t ih =>
  intro i
  simp only [idxO]
  exact LeO.bind (h x) (fun b=>LeO.ite (LeO.refl _) (ih _))

/-! ### slices_IndexFunc: function 118 -/
set_option maxHeartbeats 2000000 in
set_option maxRecDepth 100000 in
theorem idx118 (g:Nat) (lb:Array Value) (eg:∀ args w,(callFunc g args).run Try.prog w = .ok (.enter g args) w) (f:Int → Option Bool) (A:Option Addr) (c:Nat) (l:List Int) (r:Int) (w:World) (hr:Kd.C (Kd.int .i64) w A l.length l) (hc:l.length ≤ c)
  (hp:∀ (W:World) (x:Int) (b:Bool),Below w.heap.size w W → f x = some b → Calls Try.prog g (#[.int .i64 x] ++ lb) W fun e w'=>e = .returned (.bool b) ∧ Below W.heap.size W w')
  (h:idxO f 0 l = some r) :
  Calls Try.prog 118 #[.slice A l.length c,.func (.func g) #[] lb] w fun e w'=>e = .returned (.int .i64 r) ∧ Below w.heap.size w w':=by
 have HR:=Aside0.mk hr
 have HP:=Aside0.mk hp
 have HL:=Aside0.mk hr.2.1
 have H:=Aside0.mk h
 clear hr hp h hc
 go_enter Try.func118,Try.ntmps118
 go_wp2
 go_loopg [5,8] (l.length + 1) (fun kq _ v8 w'=>∃ kk:Nat,v8 = .int .i64 kk ∧ Aside0 (kk ≤ l.length ∧ l.length + 1 ≤ kq + kk) ∧ Aside0 (idxO f kk (l.drop kk) = some r) ∧ Aside0 (Below w.heap.size w w'))
 case atStart=>exact ⟨0,rfl,⟨Nat.zero_le _,by omega⟩,⟨by simpa using H.out⟩,⟨Below.refl _ _⟩⟩
 case round =>
  obtain ⟨kk,rfl,HK,HI,HB⟩:=hrel
  have hkk:=HK.out.1
  by_cases hlt:kk < l.length
  ·have hd:l.drop kk = l[kk] :: l.drop (kk + 1):=List.drop_eq_getElem_cons hlt
   have hi:=HI.out
   rw [hd] at hi
   simp only [idxO] at hi
   obtain ⟨b,hb,hi⟩:=Option.bind_eq_some_iff.1 hi
   have HW:=Aside0.mk (show wrap64 ((kk:Int) + 1) = ((kk + 1:Nat):Int) from by have:=HL.out;unfold wrap64;omega)
   have p:0 ≤ (kk:Int):=by omega
   have q:(kk:Int) < (l.length:Int):=by omega
   have q1:decide (kk < l.length) = true:=decide_eq_true hlt
   have q2:decide ((kk:Int) < (l.length:Int)) = true:=decide_eq_true q
   obtain ⟨ad,e1,hx0⟩:=Kd.at_int HR.out (kk:Int) p q
   cases e1
   have hrd:rd l (kk:Int) = l[kk]:=by unfold rd;simp [List.getD_eq_getElem?_getD,List.getElem?_eq_getElem hlt]
   rw [hrd] at hx0
   clear hrd
   replace hx0:=(HB.out.cell (World.block_lt_of_cell? w _ hx0)).trans hx0
   rw [Int.toNat_natCast] at hx0
   generalize hy:l[kk] = y at hx0 hb
   clear hy hd
   have HC:=Aside0.mk (HP.out wr y b HB.out hb)
   clear HI hkk
   cases b with
   | true =>
    have HE:=Aside0.mk (Option.some.inj hi)
    clear hi hb
    go_wp2_with fail
    refine HC.out.mono ?_
    rintro e w' ⟨rfl,hb'⟩
    have HB2:=Aside0.mk (below_step HB.out hb')
    clear HB hb' HC hx0
    have HB:=HB2
    clear HB2
    go_wp2_with fail
    go_ret
    exact ⟨by rw [← HE.out];rfl,HB.out⟩
   | false =>
    have HE:=Aside0.mk hi
    clear hi hb
    go_wp2_with fail
    refine HC.out.mono ?_
    rintro e w' ⟨rfl,hb'⟩
    have HB2:=Aside0.mk (below_step HB.out hb')
    clear HB hb' HC hx0
    have HB:=HB2
    clear HB2
    go_wp2_with fail
    go_roundg (l.length - kk)
    case measure=>have:=HK.out;omega
    case rel=>exact ⟨kk + 1,by rw [HW.out],⟨by have:=HK.out;omega⟩,⟨by rw [show ((kk + 1:Nat):Int) = (kk:Int) + 1 from by omega];simpa using HE.out⟩,HB⟩
  ·have HE:=Aside0.mk (show -1 = r from Zc)
   have q1:decide (kk < l.length) = false:=decide_eq_false hlt
   have q2:decide ((kk:Int) < (l.length:Int)) = false:=decide_eq_false (by omega)
   clear HI hkk
   go_wp2
   go_ret
   exact ⟨by rw [← HE.out];rfl,HB.out⟩

/-! ### slices_ContainsFunc: function 93 -/
set_option maxHeartbeats 2000000 in
theorem any93 (g:Nat) (lb:Array Value) (eg:∀ args w,(callFunc g args).run Try.prog w = .ok (.enter g args) w) (f:Int → Option Bool) (A:Option Addr) (c:Nat) (l:List Int) (r:Bool) (w:World) (hr:Kd.C (Kd.int .i64) w A l.length l) (hc:l.length ≤ c)
  (hp:∀ (W:World) (x:Int) (b:Bool),Below w.heap.size w W → f x = some b → Calls Try.prog g (#[.int .i64 x] ++ lb) W fun e w'=>e = .returned (.bool b) ∧ Below W.heap.size W w')
  (h:anyO f l = some r) :
  Calls Try.prog 93 #[.slice A l.length c,.func (.func g) #[] lb] w fun e w'=>e = .returned (.bool r) ∧ Below w.heap.size w w':=by
 obtain ⟨j,hj,hr2⟩:=idxO_any f l 0 r (Int.le_refl _) h
 have HR:=Aside0.mk hr2
 have HC:=Aside0.mk (fun W hW=>idx118 g lb eg f A c l j W (Kd.C_below hr hW) hc (fun W' x b h1=>hp W' x b (hW.trans (h1.mono hW.size))) hj)
 clear hr hp h hc hj hr2 eg
 go_enter Try.func93,Try.ntmps93
 go_wp2_with fail
 refine (HC.out _ (Below.refl _ _)).mono ?_
 rintro e w' ⟨rfl,hb⟩
 have HB:=Aside0.mk hb
 clear hb HC
 go_wp2
 go_ret
 exact ⟨by rw [HR.out];rfl,HB.out⟩

/-! ### impl_GoodSign_1_any: function 1000000 -/
def impl_GoodSign_1_any.f (l0:List Int):Option (Bool):=anyO (fun x=>impl_GoodSign_1.f x) l0
theorem impl_GoodSign_1_any.calls (A0:Option Addr) (c0:Nat) (l0:List Int) (r:Bool) (w:World) (hr0:Kd.C (Kd.int .i64) w A0 l0.length l0) (hc0:l0.length ≤ c0) (h:impl_GoodSign_1_any.f l0 = some r) :
  Calls Try.prog 93 #[.slice A0 l0.length c0,.func (.func 94) #[] #[]] w fun e w'=>e = .returned (.bool r) ∧ Below w.heap.size w w':=by
 exact any93 94 #[] (enters_of Try.func94 (by kernel_rfl) rfl) (fun x=>impl_GoodSign_1.f x) A0 c0 l0 r w hr0 hc0 (fun W x b hW hx=>(impl_GoodSign_1.calls x b W    hx).mono fun _ _ h_=>⟨h_.1,h_.2.below⟩) h

/-! ### impl_GoodSign: function 54 -/
def impl_GoodSign.f (l0_0:List Int):Option (Bool):=if (l0_0.length:Int) < 1 then (some false) else (if (l0_0.length:Int) > 10 then (some false) else (if 0 < (l0_0.length:Int) then (if (rd l0_0 0) = 0 then ((impl_GoodSign_1_any.f l0_0).bind fun t120=>(some (!t120))) else (some false)) else (none)))
set_option maxHeartbeats 8000000 in
set_option maxRecDepth 100000 in
theorem impl_GoodSign.calls (A0_0:Option Addr) (c0_0:Nat) (l0_0:List Int) (r:Bool) (w:World) (hr0_0:Kd.C (Kd.int .i64) w A0_0 l0_0.length l0_0) (hc0_0:l0_0.length ≤ c0_0) (h:impl_GoodSign.f l0_0 = some r) :
  Calls Try.prog 54 #[.agg #[.slice A0_0 l0_0.length c0_0]] w fun e w'=>e = .returned (.bool r) ∧ Below w.heap.size w w':=by
 have hu26:=Try.underlying26
 have HR0_0:=Aside0.mk hr0_0
 have HC0_0:=Aside0.mk hc0_0
 clear hr0_0 hc0_0
 have HB:=Aside0.mk (Below.refl w.heap.size w)
 have H:(if (l0_0.length:Int) < 1 then (some false) else (if (l0_0.length:Int) > 10 then (some false) else (if 0 < (l0_0.length:Int) then (if (rd l0_0 0) = 0 then ((impl_GoodSign_1_any.f l0_0).bind fun t120=>(some (!t120))) else (some false)) else (none)))) = some r:=h
 clear h
 by_cases c2:(l0_0.length:Int) < 1
 ·rw [if_pos c2] at H
  have c2b0:=decide_eq_true c2
  have c2b1:decide (l0_0.length < 1) = true:=decide_eq_true (by omega)
  clear c2
  obtain rfl:=Option.some.inj H
  go_enter Try.func54,Try.ntmps54
  go_wp2_with (first|((with_reducible refine gate_dst (N:=1) rfl ?_);(try (refine gate_guard (by rfl) ?_;dsimp only));refine box_event ?hg (N:=1) ?hd (cs:=#[.slice A0_0 l0_0.length c0_0]) (t:=26) ?hr ?_;(case hd=>rfl);(case hg=>rfl);(case hr=>exact Yc);intro gb118 hg w3 hbox hb;have BK118:=Aside0.mk (hbox);have GW118:=gZ w gb118;have GE118:=GW118;replace HB:=bS hb;clear hb hbox hg;have hcz4_0:=qc1_0 BK118;have hfz4_0:=fz BK118 0))
  go_ret
  exact ⟨Yb,bH⟩
 ·rw [if_neg c2] at H
  have c2b0:decide ((l0_0.length:Int) < 1) = false:=decide_eq_false c2
  have c2b1:decide (l0_0.length < 1) = false:=decide_eq_false (by omega)
  clear c2
  by_cases c5:(l0_0.length:Int) > 10
  ·rw [if_pos c5] at H
   have c5b0:decide (10 < (l0_0.length:Int)) = true:=decide_eq_true c5
   have c5b1:decide (10 < l0_0.length) = true:=decide_eq_true (by omega)
   clear c5
   obtain rfl:=Option.some.inj H
   go_enter Try.func54,Try.ntmps54
   go_wp2_with (first|((with_reducible refine gate_dst (N:=1) rfl ?_);(try (refine gate_guard (by rfl) ?_;dsimp only));refine box_event ?hg (N:=1) ?hd (cs:=#[.slice A0_0 l0_0.length c0_0]) (t:=26) ?hr ?_;(case hd=>rfl);(case hg=>rfl);(case hr=>exact Yc);intro gb118 hg w6 hbox hb;have BK118:=Aside0.mk (hbox);have GW118:=gZ w gb118;have GE118:=GW118;replace HB:=bS hb;clear hb hbox hg;have hcz7_0:=qc1_0 BK118;have hfz7_0:=fz BK118 0))
   go_ret
   exact ⟨Yb,bH⟩
  ·rw [if_neg c5] at H
   have c5b0:decide (10 < (l0_0.length:Int)) = false:=decide_eq_false c5
   have c5b1:decide (10 < l0_0.length) = false:=decide_eq_false (by omega)
   clear c5
   replace H:=gJ H;obtain ⟨c8,H⟩:=H
   have c8b0:=decide_eq_true c8
   have c8b1:decide (0 < l0_0.length) = true:=decide_eq_true (by omega)
   clear c8
   by_cases c9:(rd l0_0 0) = 0
   ·rw [if_pos c9] at H
    have c9b0:((rd l0_0 0) == 0) = true:=beq_iff_eq.mpr c9
    have c9b1:((rd l0_0 0) != 0) = false:=bne_eq_false_iff_eq.mpr c9
    clear c9
    replace H:=bI H;obtain ⟨t120,A10,H⟩:=H
    obtain rfl:=Option.some.inj H
    go_enter Try.func54,Try.ntmps54
    go_wp2_with (first|((with_reducible refine gate_dst (N:=1) rfl ?_);(try (refine gate_guard (by rfl) ?_;dsimp only));refine box_event ?hg (N:=1) ?hd (cs:=#[.slice A0_0 l0_0.length c0_0]) (t:=26) ?hr ?_;(case hd=>rfl);(case hg=>rfl);(case hr=>exact Yc);intro gb118 hg w11 hbox hb;have BK118:=Aside0.mk (hbox);have GW118:=gZ w gb118;have GE118:=GW118;replace HB:=bS hb;clear hb hbox hg;have hcz12_0:=qc1_0 BK118;have hfz12_0:=fz BK118 0;have p119:0 ≤ (0:Int):=(by omega);have q119:0 < (l0_0.length:Int):=oD;obtain ⟨ad119,e119,hx119_0⟩:=Kd.at_int HR0_0.out 0 p119 q119;cases e119;have qi119:(0 < l0_0.length) = True:=eq_true (by omega);(try rw [show ((0:Int)).toNat = 0 from rfl] at hx119_0);(try rw [Addr.add_zero'] at hx119_0);replace hx119_0:=(HB.out.cell (World.block_lt_of_cell? w _ hx119_0)).trans hx119_0;replace p119:=eq_true p119;replace q119:=eq_true q119)|(go_at_call 93;(with_reducible refine (impl_GoodSign_1_any.calls _ _ l0_0 t120 _ ?side1 ?side2 A10.out).mono ?_);(case side1=>exact Yx);(case side2=>exact Yw);rintro e w13 ⟨rfl,hb⟩;replace BK118:=bb BK118 hb;replace HB:=bS hb;clear hb))
    go_ret
    exact ⟨Yb,bH⟩
   ·rw [if_neg c9] at H
    have c9b0:((rd l0_0 0) == 0) = false:=beq_eq_false_iff_ne.mpr c9
    have c9b1:((rd l0_0 0) != 0) = true:=bne_iff_ne.mpr c9
    obtain rfl:=Option.some.inj H
    go_enter Try.func54,Try.ntmps54
    go_wp2_with (first|((with_reducible refine gate_dst (N:=1) rfl ?_);(try (refine gate_guard (by rfl) ?_;dsimp only));refine box_event ?hg (N:=1) ?hd (cs:=#[.slice A0_0 l0_0.length c0_0]) (t:=26) ?hr ?_;(case hd=>rfl);(case hg=>rfl);(case hr=>exact Yc);intro gb118 hg w14 hbox hb;have BK118:=Aside0.mk (hbox);have GW118:=gZ w gb118;have GE118:=GW118;replace HB:=bS hb;clear hb hbox hg;have hcz15_0:=qc1_0 BK118;have hfz15_0:=fz BK118 0;have p119:0 ≤ (0:Int):=(by omega);have q119:0 < (l0_0.length:Int):=oD;obtain ⟨ad119,e119,hx119_0⟩:=Kd.at_int HR0_0.out 0 p119 q119;cases e119;have qi119:(0 < l0_0.length) = True:=eq_true (by omega);(try rw [show ((0:Int)).toNat = 0 from rfl] at hx119_0);(try rw [Addr.add_zero'] at hx119_0);replace hx119_0:=(HB.out.cell (World.block_lt_of_cell? w _ hx119_0)).trans hx119_0;replace p119:=eq_true p119;replace q119:=eq_true q119))
    go_ret
    exact ⟨Yb,bH⟩

/-! ### impl_areElements_1: function 116 -/
def impl_areElements_1.f (a0:Int) (a1:Int):Option (Bool):=if a0 < 0 then (some true) else (some (decide (a0 ≥ a1)))
set_option maxHeartbeats 8000000 in
set_option maxRecDepth 100000 in
theorem impl_areElements_1.calls (a0:Int) (g1_:Nat) (a1:Int) (r:Bool) (w:World) (hg1:w.heap[g1_]? = some (.cells #[.int .i64 a1] 3 (0,0))) (h:impl_areElements_1.f a0 a1 = some r) :
  Calls Try.prog 116 #[.int .i64 a0,.pointer (some ⟨g1_,0,none⟩)] w fun e w'=>e = .returned (.bool r) ∧ Below w.heap.size w w':=by
 have BK1:=Aside0.mk hg1
 clear hg1
 have HB:=Aside0.mk (Below.refl w.heap.size w)
 have H:(if a0 < 0 then (some true) else (some (decide (a0 ≥ a1)))) = some r:=h
 clear h
 by_cases c3:a0 < 0
 ·rw [if_pos c3] at H
  have c3b0:=decide_eq_true c3
  clear c3
  obtain rfl:=Option.some.inj H
  go_enter Try.func116,Try.ntmps116
  go_wp2
  go_ret
  exact ⟨Yb,bH⟩
 ·rw [if_neg c3] at H
  have c3b0:decide (a0 < 0) = false:=decide_eq_false c3
  clear c3
  obtain rfl:=Option.some.inj H
  have hcz4_0:=qc1_0 BK1
  have hfz4_0:=fz BK1 0
  go_enter Try.func116,Try.ntmps116
  go_wp2
  go_ret
  exact ⟨Yb,bH⟩


/-! ### impl_areElements_1_any: function 1000001 -/
def impl_areElements_1_any.f (l0:List Int) (a1:Int):Option (Bool):=anyO (fun x=>impl_areElements_1.f x a1) l0
theorem impl_areElements_1_any.calls (A0:Option Addr) (c0:Nat) (l0:List Int) (a1:Int) (g1_:Nat) (r:Bool) (w:World) (hr0:Kd.C (Kd.int .i64) w A0 l0.length l0) (hc0:l0.length ≤ c0) (hg1:w.heap[g1_]? = some (.cells #[.int .i64 a1] 3 (0,0))) (h:impl_areElements_1_any.f l0 a1 = some r) :
  Calls Try.prog 93 #[.slice A0 l0.length c0,.func (.func 116) #[] #[.pointer (some ⟨g1_,0,none⟩)]] w fun e w'=>e = .returned (.bool r) ∧ Below w.heap.size w w':=by
 exact any93 116 #[.pointer (some ⟨g1_,0,none⟩)] (enters_of Try.func116 (by kernel_rfl) rfl) (fun x=>impl_areElements_1.f x a1) A0 c0 l0 r w hr0 hc0 (fun W x b hW hx=>(impl_areElements_1.calls x g1_ a1 b W   ((hW.block _ (Array.getElem?_eq_some_iff.1 hg1).1).trans hg1) hx).mono fun _ _ h_=>⟨h_.1,h_.2⟩) h

end Go.Proofs.Ytmgkflkfoccgkaa.QFnTidied
