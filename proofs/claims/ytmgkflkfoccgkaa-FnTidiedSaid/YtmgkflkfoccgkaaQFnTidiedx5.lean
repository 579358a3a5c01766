-- Written by this session's own program (wip/x/xprint.py, over the kit's printer); Lean checks it.
import Derived.Test.YtmgkflkfoccgkaaQFnTidiedx0
import Derived.Test.YtmgkflkfoccgkaaQFnTidiedx1
import Derived.Test.YtmgkflkfoccgkaaQFnTidiedx4
namespace Go.Proofs.Ytmgkflkfoccgkaa.QFnTidied
open Go.RowKit Go.Proofs.YtmgkflkfoccgkaaW.PrintWords Go.Proofs.YtmgkflkfoccgkaaW.PrintLast Go.Proofs.YtmgkflkfoccgkaaW.PrintMore
attribute [local go_sem] max2_int min2_int max_two min_two max_three min_three max_four min_four   -- for this text's walks alone
set_option linter.unusedVariables false
set_option linter.unusedSimpArgs false

/-! ### impl_Sign_holdsAt_1: function 91 -/
def impl_Sign_holdsAt_1.f (k:Nat) (a0_0:Bool) (l0_1:List Int) (l0_2:List Int) (l1_0:List Int) (a2_0:Int) (l2_1:List (List Int)) (l3:List Int):Option (Bool):=(impl_Sign_value.f k l1_0 a2_0 l2_1 l0_1 l3).bind fun t163=>((impl_Sign_value.f k l1_0 a2_0 l2_1 l0_2 l3).bind fun t164=>(some ((t163 == t164) == a0_0)))
theorem impl_Sign_holdsAt_1.mono:∀ a0 a1 a2 a3 a4 a5 a6 k,LeO (impl_Sign_holdsAt_1.f k a0 a1 a2 a3 a4 a5 a6) (impl_Sign_holdsAt_1.f (k + 1) a0 a1 a2 a3 a4 a5 a6):=by
 intro a0 a1 a2 a3 a4 a5 a6 k
 unfold impl_Sign_holdsAt_1.f
 have m0:=@impl_Sign_value.mono
 exact mO
def impl_Sign_holdsAt_1.T1:Bool × List (List Nat × List Nat):=(true,[([],[]),([],[]),([],[]),([2],[2]),([],[]),([0,1,3,4],[0,1,3,4]),([],[]),([],[]),([],[]),([8],[8]),([],[]),([6,7,9,10,5],[6,7,9,10]),([5,11],[5,11]),([],[]),([13],[13]),([12,14],[12,14]),([15,11,0,1,2,3,4,5,6,7,8,9,10,11,12,13,14,15],[15])])
def impl_Sign_holdsAt_1.B1:List Nat:=[0,0,0,4,0,31,0,0,0,256,0,2047,4095,0,8192,32767,65535]
theorem impl_Sign_holdsAt_1.tab1:rtab .any (opsOf Try.f91 1) = impl_Sign_holdsAt_1.T1:=by kernel_rfl
theorem impl_Sign_holdsAt_1.bits1:waitsOk impl_Sign_holdsAt_1.T1.2 impl_Sign_holdsAt_1.B1 = true:=by kernel_rfl
set_option maxHeartbeats 8000000 in
set_option maxRecDepth 100000 in
theorem impl_Sign_holdsAt_1.calls (k:Nat) (a0_0:Bool) (A0_1:Option Addr) (c0_1:Nat) (l0_1:List Int) (A0_2:Option Addr) (c0_2:Nat) (l0_2:List Int) (g1_:Nat) (A1_0:Option Addr) (c1_0:Nat) (l1_0:List Int) (g2_:Nat) (a2_0:Int) (A2_1:Option Addr) (c2_1:Nat) (l2_1:List (List Int)) (g3_:Nat) (A3:Option Addr) (c3:Nat) (l3:List Int) (r:Bool) (w:World) (hr0_1:Kd.C (Kd.int .i64) w A0_1 l0_1.length l0_1) (hc0_1:l0_1.length ≤ c0_1) (hr0_2:Kd.C (Kd.int .i64) w A0_2 l0_2.length l0_2) (hc0_2:l0_2.length ≤ c0_2) (hr1_0:Kd.C (Kd.int .i64) w A1_0 l1_0.length l1_0) (hc1_0:l1_0.length ≤ c1_0) (hr2_1:Kd.C (Kd.slice 3 (Kd.int .i64)) w A2_1 l2_1.length l2_1) (hc2_1:l2_1.length ≤ c2_1) (hr3:Kd.C (Kd.int .i64) w A3 l3.length l3) (hc3:l3.length ≤ c3) (hg1:w.heap[g1_]? = some (.cells #[.slice A1_0 l1_0.length c1_0] 26 (0,0))) (hg2:w.heap[g2_]? = some (.cells #[.int .i64 a2_0,.slice A2_1 l2_1.length c2_1] 31 (0,0))) (hg3:w.heap[g3_]? = some (.cells #[.slice A3 l3.length c3] 24 (0,0))) (h:impl_Sign_holdsAt_1.f k a0_0 l0_1 l0_2 l1_0 a2_0 l2_1 l3 = some r) :
  Calls Try.prog 91 #[.agg #[.bool a0_0,.slice A0_1 l0_1.length c0_1,.slice A0_2 l0_2.length c0_2],.pointer (some ⟨g1_,0,none⟩),.pointer (some ⟨g2_,0,none⟩),.pointer (some ⟨g3_,0,none⟩)] w fun e w'=>e = .returned (.bool r) ∧ Below w.heap.size w w':=by
 have hu83:=Try.underlying83
 have hu26:=Try.underlying26
 have hu31:=Try.underlying31
 have HR0_1:=Aside0.mk hr0_1
 have HC0_1:=Aside0.mk hc0_1
 clear hr0_1 hc0_1
 have HR0_2:=Aside0.mk hr0_2
 have HC0_2:=Aside0.mk hc0_2
 clear hr0_2 hc0_2
 have HR1_0:=Aside0.mk hr1_0
 have HC1_0:=Aside0.mk hc1_0
 clear hr1_0 hc1_0
 have HR2_1:=Aside0.mk hr2_1
 have HC2_1:=Aside0.mk hc2_1
 clear hr2_1 hc2_1
 have HR3:=Aside0.mk hr3
 have HC3:=Aside0.mk hc3
 clear hr3 hc3
 have BK1:=Aside0.mk hg1
 have BK2:=Aside0.mk hg2
 have BK3:=Aside0.mk hg3
 have NB1_2:=Aside0.mk (show g1_ ≠ g2_ from fun e_=>by have h_:=hg1;rw [e_,hg2] at h_;simp at h_)
 have NB1_3:=Aside0.mk (show g1_ ≠ g3_ from fun e_=>by have h_:=hg1;rw [e_,hg3] at h_;simp at h_)
 have NB2_1:=Aside0.mk (show g2_ ≠ g1_ from fun e_=>by have h_:=hg2;rw [e_,hg1] at h_;simp at h_)
 have NB2_3:=Aside0.mk (show g2_ ≠ g3_ from fun e_=>by have h_:=hg2;rw [e_,hg3] at h_;simp at h_)
 have NB3_1:=Aside0.mk (show g3_ ≠ g1_ from fun e_=>by have h_:=hg3;rw [e_,hg1] at h_;simp at h_)
 have NB3_2:=Aside0.mk (show g3_ ≠ g2_ from fun e_=>by have h_:=hg3;rw [e_,hg2] at h_;simp at h_)
 clear hg1
 clear hg2
 clear hg3
 have HB:=Aside0.mk (Below.refl w.heap.size w)
 have H:((impl_Sign_value.f k l1_0 a2_0 l2_1 l0_1 l3).bind fun t163=>((impl_Sign_value.f k l1_0 a2_0 l2_1 l0_2 l3).bind fun t164=>(some ((t163 == t164) == a0_0)))) = some r:=h
 clear h
 replace H:=bI H;obtain ⟨t163,A5,H⟩:=H
 replace H:=bI H;obtain ⟨t164,A6,H⟩:=H
 obtain rfl:=Option.some.inj H
 go_enter Try.func91,Try.ntmps91
 try go_wp2_with (first|(refine xB 4 #[.bool a0_0,.slice A0_1 l0_1.length c0_1,.slice A0_2 l0_2.length c0_2] 83 ?_;intro gb162 hg w7 hbox hb;have BK162:=Aside0.mk (hbox);have GW162:=gZ w gb162;have GE162:=GW162;replace HB:=bS hb;have NB1_162:=nl BK1 g1_ gb162;have NB162_1:=nr NB1_162;replace BK1:=bb BK1 hb;have NB2_162:=nl BK2 g2_ gb162;have NB162_2:=nr NB2_162;replace BK2:=bb BK2 hb;have NB3_162:=nl BK3 g3_ gb162;have NB162_3:=nr NB3_162;replace BK3:=bb BK3 hb;clear hb hbox hg))
 replace BK1:=Aside0.mk (blk_drew BK1.out);replace BK2:=Aside0.mk (blk_drew BK2.out);replace BK3:=Aside0.mk (blk_drew BK3.out);replace BK162:=Aside0.mk (blk_drew BK162.out);replace HB:=Aside0.mk (below_drew1 HB.out)
 refine start_ (n:=17) (S:=fun w'=>w'.cell? ⟨g1_,0,none⟩ = some (.slice A1_0 l1_0.length c1_0) ∧ w'.cell? ⟨g2_,0,none⟩ = some (.int .i64 a2_0) ∧ w'.cell? ⟨g2_,1,none⟩ = some (.slice A2_1 l2_1.length c2_1) ∧ w'.cell? ⟨gb162,0,none⟩ = some (.bool a0_0) ∧ w'.cell? ⟨gb162,1,none⟩ = some (.slice A0_1 l0_1.length c0_1) ∧ w'.cell? ⟨gb162,2,none⟩ = some (.slice A0_2 l0_2.length c0_2) ∧ w'.cell? ⟨g3_,0,none⟩ = some (.slice A3 l3.length c3)) (ds:=[]) #[false,false,false,false,false,false,false,false,false,false,false,false,false,false,false,false,false] (by kernel_rfl) rfl rfl ⟨(blk_cell BK1.out 0).trans rfl,(blk_cell BK2.out 0).trans rfl,(blk_cell BK2.out 1).trans rfl,(blk_cell BK162.out 0).trans rfl,(blk_cell BK162.out 1).trans rfl,(blk_cell BK162.out 2).trans rfl,(blk_cell BK3.out 0).trans rfl⟩ (fun hHeld=>?_);refine with_tabW impl_Sign_holdsAt_1.tab1 impl_Sign_holdsAt_1.bits1 (fun HT_ HW_=>?_)
 generalize w7.drew = w8 at BK1 BK2 BK3 BK162 HB hHeld ⊢
 refine pV 2 (some 8) (bs 17 4) HT_ ?_
 refine pV 8 (some 14) (bs 17 260) HT_ ?_
 refine pV 13 (some 19) (bs 17 8452) HT_ ?_
 refine tV7 0 (some 6) (bs 17 8453) HT_ HW_ hHeld ?_
 refine tV7 1 (some 7) (bs 17 8455) HT_ HW_ hHeld ?_
 refine tV7 3 (some 9) (bs 17 8463) HT_ HW_ hHeld ?_
 refine tV7 4 (some 10) (bs 17 8479) HT_ HW_ hHeld ?_
 refine tV7 6 (some 12) (bs 17 8543) HT_ HW_ hHeld ?_
 refine tV7 7 (some 13) (bs 17 8671) HT_ HW_ hHeld ?_
 refine tV7 9 (some 15) (bs 17 9183) HT_ HW_ hHeld ?_
 refine tV7 10 (some 16) (bs 17 10207) HT_ HW_ hHeld ?_
 refine tV7 14 (some 20) (bs 17 26591) HT_ HW_ hHeld ?_
 refine oN 5 (some 11) (bs 17 26623) HT_ fun K hK=>?_
 refine goes_ Try.func43 (by kernel_rfl) rfl #[.agg #[.slice A1_0 l1_0.length c1_0],.agg #[.int .i64 a2_0,.slice A2_1 l2_1.length c2_1],.slice A0_1 l0_1.length c0_1,.slice A3 l3.length c3] (by rfl) rfl rfl Ya ?_
 with_reducible refine (impl_Sign_value.calls k _ _ l1_0 a2_0 _ _ l2_1 _ _ l0_1 _ _ l3 t163 _ ?side1 ?side2 ?side3 ?side4 ?side5 ?side6 ?side7 ?side8 A5.out).mono ?_
 (case side1=>exact sC HR1_0)
 (case side2=>exact HC1_0.out)
 (case side3=>exact sC HR2_1)
 (case side4=>exact HC2_1.out)
 (case side5=>exact sC HR0_1)
 (case side6=>exact HC0_1.out)
 (case side7=>exact sC HR3)
 (case side8=>exact HC3.out)
 rintro e w9 ⟨rfl,hb⟩
 refine ⟨_,rfl,?_⟩
 replace BK1:=bb BK1 hb;replace BK2:=bb BK2 hb;replace BK3:=bb BK3 hb;replace BK162:=bb BK162 hb;replace HB:=bS hb
 (try clear hb)
 refine hK.out _ _ ⟨(blk_cell BK1.out 0).trans rfl,(blk_cell BK2.out 0).trans rfl,(blk_cell BK2.out 1).trans rfl,(blk_cell BK162.out 0).trans rfl,(blk_cell BK162.out 1).trans rfl,(blk_cell BK162.out 2).trans rfl,(blk_cell BK3.out 0).trans rfl⟩ (fun hHeld=>?_)
 clear hK K
 refine nM (N:=some 11) ?_
 refine oN 11 (some 17) (bs 17 28671) HT_ fun K hK=>?_
 refine goes_ Try.func43 (by kernel_rfl) rfl #[.agg #[.slice A1_0 l1_0.length c1_0],.agg #[.int .i64 a2_0,.slice A2_1 l2_1.length c2_1],.slice A0_2 l0_2.length c0_2,.slice A3 l3.length c3] (by rfl) rfl rfl Ya ?_
 with_reducible refine (impl_Sign_value.calls k _ _ l1_0 a2_0 _ _ l2_1 _ _ l0_2 _ _ l3 t164 _ ?side1 ?side2 ?side3 ?side4 ?side5 ?side6 ?side7 ?side8 A6.out).mono ?_
 (case side1=>exact sC HR1_0)
 (case side2=>exact HC1_0.out)
 (case side3=>exact sC HR2_1)
 (case side4=>exact HC2_1.out)
 (case side5=>exact sC HR0_2)
 (case side6=>exact HC0_2.out)
 (case side7=>exact sC HR3)
 (case side8=>exact HC3.out)
 rintro e w10 ⟨rfl,hb⟩
 refine ⟨_,rfl,?_⟩
 replace BK1:=bb BK1 hb;replace BK2:=bb BK2 hb;replace BK3:=bb BK3 hb;replace BK162:=bb BK162 hb;replace HB:=bS hb
 (try clear hb)
 refine hK.out _ _ ⟨(blk_cell BK1.out 0).trans rfl,(blk_cell BK2.out 0).trans rfl,(blk_cell BK2.out 1).trans rfl,(blk_cell BK162.out 0).trans rfl,(blk_cell BK162.out 1).trans rfl,(blk_cell BK162.out 2).trans rfl,(blk_cell BK3.out 0).trans rfl⟩ (fun hHeld=>?_)
 clear hK K
 refine nM (N:=some 17) ?_
 refine pV 12 (some 18) (bs 17 32767) HT_ ?_
 refine pV 15 (some 21) (bs 17 65535) HT_ ?_
 refine pV 16 (some 5) (bs 17 131071) HT_ ?_
 refine done_ (done_of HT_.out (by kernel_rfl)) ?_
 try go_wp2
 go_ret
 exact ⟨Yb,bH⟩


/-! ### impl_Sign_holdsAt_1_any: function 1000003 -/
def impl_Sign_holdsAt_1_any.f (k:Nat) (l0:List (S83)) (l1_0:List Int) (a2_0:Int) (l2_1:List (List Int)) (l3:List Int):Option (Bool):=anyO (fun x=>impl_Sign_holdsAt_1.f k x.f0 x.f1 x.f2 l1_0 a2_0 l2_1 l3) l0
theorem impl_Sign_holdsAt_1_any.mono:∀ a0 a1 a2 a3 a4 k,LeO (impl_Sign_holdsAt_1_any.f k a0 a1 a2 a3 a4) (impl_Sign_holdsAt_1_any.f (k + 1) a0 a1 a2 a3 a4):=by
 intro a0 a1 a2 a3 a4 k
 unfold impl_Sign_holdsAt_1_any.f
 exact anyO_mono (fun x=>impl_Sign_holdsAt_1.mono _ _ _ _ _ _ _ k) _
theorem impl_Sign_holdsAt_1_any.calls (k:Nat) (A0:Option Addr) (c0:Nat) (l0:List (S83)) (A1_0:Option Addr) (c1_0:Nat) (l1_0:List Int) (a2_0:Int) (A2_1:Option Addr) (c2_1:Nat) (l2_1:List (List Int)) (A3:Option Addr) (c3:Nat) (l3:List Int) (g1_:Nat) (g2_:Nat) (g3_:Nat) (r:Bool) (w:World) (hr0:Kd.C k83 w A0 l0.length l0) (hc0:l0.length ≤ c0) (hr1_0:Kd.C (Kd.int .i64) w A1_0 l1_0.length l1_0) (hc1_0:l1_0.length ≤ c1_0) (hr2_1:Kd.C (Kd.slice 3 (Kd.int .i64)) w A2_1 l2_1.length l2_1) (hc2_1:l2_1.length ≤ c2_1) (hr3:Kd.C (Kd.int .i64) w A3 l3.length l3) (hc3:l3.length ≤ c3) (hg1:w.heap[g1_]? = some (.cells #[.slice A1_0 l1_0.length c1_0] 26 (0,0))) (hg2:w.heap[g2_]? = some (.cells #[.int .i64 a2_0,.slice A2_1 l2_1.length c2_1] 31 (0,0))) (hg3:w.heap[g3_]? = some (.cells #[.slice A3 l3.length c3] 24 (0,0))) (h:impl_Sign_holdsAt_1_any.f k l0 l1_0 a2_0 l2_1 l3 = some r) :
  Calls Try.prog 88 #[.slice A0 l0.length c0,.func (.func 91) #[] #[.pointer (some ⟨g1_,0,none⟩),.pointer (some ⟨g2_,0,none⟩),.pointer (some ⟨g3_,0,none⟩)]] w fun e w'=>e = .returned (.bool r) ∧ Below w.heap.size w w':=by
 exact any88 91 #[.pointer (some ⟨g1_,0,none⟩),.pointer (some ⟨g2_,0,none⟩),.pointer (some ⟨g3_,0,none⟩)] (enters_of Try.func91 (by kernel_rfl) rfl) (fun x=>impl_Sign_holdsAt_1.f k x.f0 x.f1 x.f2 l1_0 a2_0 l2_1 l3) A0 c0 l0 r w hr0 hc0 (fun W x b E1 e1 E2 e2 hW hE1 he1 hE2 he2 hx=>(impl_Sign_holdsAt_1.calls k x.f0 E1 e1 x.f1 E2 e2 x.f2 g1_ A1_0 c1_0 l1_0 g2_ a2_0 A2_1 c2_1 l2_1 g3_ A3 c3 l3 b W hE1 he1 hE2 he2 (Kd.C_below hr1_0 hW) hc1_0 (Kd.C_below hr2_1 hW) hc2_1 (Kd.C_below hr3 hW) hc3 ((hW.block _ (Array.getElem?_eq_some_iff.1 hg1).1).trans hg1) ((hW.block _ (Array.getElem?_eq_some_iff.1 hg2).1).trans hg2) ((hW.block _ (Array.getElem?_eq_some_iff.1 hg3).1).trans hg3) hx).mono fun _ _ h_=>⟨h_.1,h_.2⟩) h

/-! ### impl_Sign_holdsAt: function 51 -/
def impl_Sign_holdsAt.f (k:Nat) (l0_0:List Int) (a1_0:Int) (l1_1:List (List Int)) (l2:List (S83)) (l3:List Int):Option (Bool):=(impl_Sign_holdsAt_1_any.f k l2 l0_0 a1_0 l1_1 l3).bind fun t168=>(some t168)
theorem impl_Sign_holdsAt.mono:∀ a0 a1 a2 a3 a4 k,LeO (impl_Sign_holdsAt.f k a0 a1 a2 a3 a4) (impl_Sign_holdsAt.f (k + 1) a0 a1 a2 a3 a4):=by
 intro a0 a1 a2 a3 a4 k
 unfold impl_Sign_holdsAt.f
 have m0:=@impl_Sign_holdsAt_1_any.mono
 exact mO
set_option maxHeartbeats 8000000 in
set_option maxRecDepth 100000 in
theorem impl_Sign_holdsAt.calls (k:Nat) (A0_0:Option Addr) (c0_0:Nat) (l0_0:List Int) (a1_0:Int) (A1_1:Option Addr) (c1_1:Nat) (l1_1:List (List Int)) (A2:Option Addr) (c2:Nat) (l2:List (S83)) (A3:Option Addr) (c3:Nat) (l3:List Int) (r:Bool) (w:World) (hr0_0:Kd.C (Kd.int .i64) w A0_0 l0_0.length l0_0) (hc0_0:l0_0.length ≤ c0_0) (hr1_1:Kd.C (Kd.slice 3 (Kd.int .i64)) w A1_1 l1_1.length l1_1) (hc1_1:l1_1.length ≤ c1_1) (hr2:Kd.C k83 w A2 l2.length l2) (hc2:l2.length ≤ c2) (hr3:Kd.C (Kd.int .i64) w A3 l3.length l3) (hc3:l3.length ≤ c3) (h:impl_Sign_holdsAt.f k l0_0 a1_0 l1_1 l2 l3 = some r) :
  Calls Try.prog 51 #[.agg #[.slice A0_0 l0_0.length c0_0],.agg #[.int .i64 a1_0,.slice A1_1 l1_1.length c1_1],.slice A2 l2.length c2,.slice A3 l3.length c3] w fun e w'=>e = .returned (.bool r) ∧ Below w.heap.size w w':=by
 have hu26:=Try.underlying26
 have hu31:=Try.underlying31
 have HR0_0:=Aside0.mk hr0_0
 have HC0_0:=Aside0.mk hc0_0
 clear hr0_0 hc0_0
 have HR1_1:=Aside0.mk hr1_1
 have HC1_1:=Aside0.mk hc1_1
 clear hr1_1 hc1_1
 have HR2:=Aside0.mk hr2
 have HC2:=Aside0.mk hc2
 clear hr2 hc2
 have HR3:=Aside0.mk hr3
 have HC3:=Aside0.mk hc3
 clear hr3 hc3
 have HB:=Aside0.mk (Below.refl w.heap.size w)
 have H:((impl_Sign_holdsAt_1_any.f k l2 l0_0 a1_0 l1_1 l3).bind fun t168=>(some t168)) = some r:=h
 clear h
 replace H:=bI H;obtain ⟨t168,A5,H⟩:=H
 obtain rfl:=Option.some.inj H
 go_enter Try.func51,Try.ntmps51
 go_wp2_with (first|(refine xB 4 #[.slice A0_0 l0_0.length c0_0] 26 ?_;intro gb165 hg w6 hbox hb;have BK165:=Aside0.mk (hbox);have GW165:=gZ w gb165;have GE165:=GW165;replace HB:=bS hb;clear hb hbox hg)|(refine xB 5 #[.int .i64 a1_0,.slice A1_1 l1_1.length c1_1] 31 ?_;intro gb166 hg w7 hbox hb;have BK166:=Aside0.mk (hbox);have GW166:=gZ w gb166;have GE166:=GW166;replace HB:=bS hb;have NB165_166:=nl BK165 gb165 gb166;have NB166_165:=nr NB165_166;replace BK165:=bb BK165 hb;clear hb hbox hg)|(refine xB 7 #[.slice A3 l3.length c3] 24 ?_;intro gb167 hg w8 hbox hb;have BK167:=Aside0.mk (hbox);have GW167:=gZ w gb167;have GE167:=GW167;replace HB:=bS hb;have NB165_167:=nl BK165 gb165 gb167;have NB167_165:=nr NB165_167;replace BK165:=bb BK165 hb;have NB166_167:=nl BK166 gb166 gb167;have NB167_166:=nr NB166_167;replace BK166:=bb BK166 hb;clear hb hbox hg)|(go_at_call 88;(with_reducible refine (impl_Sign_holdsAt_1_any.calls k _ _ l2 A0_0 c0_0 l0_0 a1_0 A1_1 c1_1 l1_1 A3 c3 l3 gb165 gb166 gb167 t168 _ ?side1 ?side2 ?side3 ?side4 ?side5 ?side6 ?side7 ?side8 ?side9 ?side10 ?side11 A5.out).mono ?_);(case side1=>exact sC HR2);(case side2=>exact HC2.out);(case side3=>exact Yx);(case side4=>exact Yw);(case side5=>exact YY);(case side6=>exact YW);(case side7=>exact sC HR3);(case side8=>exact HC3.out);(case side9=>(with_reducible repeat (first|refine blk_drewN ?_ _|refine blk_drew ?_|refine blk_alloc ?_ _));exact BK165.out);(case side10=>(with_reducible repeat (first|refine blk_drewN ?_ _|refine blk_drew ?_|refine blk_alloc ?_ _));exact BK166.out);(case side11=>(with_reducible repeat (first|refine blk_drewN ?_ _|refine blk_drew ?_|refine blk_alloc ?_ _));exact BK167.out);rintro e w9 ⟨rfl,hb⟩;replace BK165:=bb BK165 hb;replace BK166:=bb BK166 hb;replace BK167:=bb BK167 hb;replace HB:=bS hb;clear hb))
 go_ret
 exact ⟨Yb,bH⟩

/-! ### impl_HoldsAt: function 14 -/
def impl_HoldsAt.f (k:Nat) (l0_0:List Int) (a1_0:Int) (l1_1:List (List Int)) (l2:List (S83)) (l3:List Int):Option (Bool × Bool):=(impl_GoodWorld.f k l0_0 a1_0 l1_1).bind fun t171=>(if t171 = true then ((impl_Sign_isClause.f k l0_0 l2).bind fun t172=>(if t172 = true then ((impl_World_isEnv.f a1_0 l1_1 l3).bind fun t173=>(if t173 = true then ((impl_Sign_holdsAt.f k l0_0 a1_0 l1_1 l2 l3).bind fun t174=>(some (t174,true))) else (some (false,false)))) else (some (false,false)))) else (some (false,false)))
theorem impl_HoldsAt.mono:∀ a0 a1 a2 a3 a4 k,LeO (impl_HoldsAt.f k a0 a1 a2 a3 a4) (impl_HoldsAt.f (k + 1) a0 a1 a2 a3 a4):=by
 intro a0 a1 a2 a3 a4 k
 unfold impl_HoldsAt.f
 have m0:=@impl_GoodWorld.mono
 have m1:=@impl_Sign_holdsAt.mono
 have m2:=@impl_Sign_isClause.mono
 exact mO
set_option maxHeartbeats 8000000 in
set_option maxRecDepth 100000 in
theorem impl_HoldsAt.calls (k:Nat) (A0_0:Option Addr) (c0_0:Nat) (l0_0:List Int) (a1_0:Int) (A1_1:Option Addr) (c1_1:Nat) (l1_1:List (List Int)) (A2:Option Addr) (c2:Nat) (l2:List (S83)) (A3:Option Addr) (c3:Nat) (l3:List Int) (r1:Bool) (r2:Bool) (w:World) (hr0_0:Kd.C (Kd.int .i64) w A0_0 l0_0.length l0_0) (hc0_0:l0_0.length ≤ c0_0) (hr1_1:Kd.C (Kd.slice 3 (Kd.int .i64)) w A1_1 l1_1.length l1_1) (hc1_1:l1_1.length ≤ c1_1) (hr2:Kd.C k83 w A2 l2.length l2) (hc2:l2.length ≤ c2) (hr3:Kd.C (Kd.int .i64) w A3 l3.length l3) (hc3:l3.length ≤ c3) (h:impl_HoldsAt.f k l0_0 a1_0 l1_1 l2 l3 = some (r1,r2)) :
  Calls Try.prog 14 #[.agg #[.slice A0_0 l0_0.length c0_0],.agg #[.int .i64 a1_0,.slice A1_1 l1_1.length c1_1],.slice A2 l2.length c2,.slice A3 l3.length c3] w fun e w'=>e = .returned (.tuple #[.bool r1,.bool r2]) ∧ Below w.heap.size w w':=by
 have hu26:=Try.underlying26
 have hu31:=Try.underlying31
 have HR0_0:=Aside0.mk hr0_0
 have HC0_0:=Aside0.mk hc0_0
 clear hr0_0 hc0_0
 have HR1_1:=Aside0.mk hr1_1
 have HC1_1:=Aside0.mk hc1_1
 clear hr1_1 hc1_1
 have HR2:=Aside0.mk hr2
 have HC2:=Aside0.mk hc2
 clear hr2 hc2
 have HR3:=Aside0.mk hr3
 have HC3:=Aside0.mk hc3
 clear hr3 hc3
 have HB:=Aside0.mk (Below.refl w.heap.size w)
 have H:((impl_GoodWorld.f k l0_0 a1_0 l1_1).bind fun t171=>(if t171 = true then ((impl_Sign_isClause.f k l0_0 l2).bind fun t172=>(if t172 = true then ((impl_World_isEnv.f a1_0 l1_1 l3).bind fun t173=>(if t173 = true then ((impl_Sign_holdsAt.f k l0_0 a1_0 l1_1 l2 l3).bind fun t174=>(some (t174,true))) else (some (false,false)))) else (some (false,false)))) else (some (false,false)))) = some (r1,r2):=h
 clear h
 replace H:=bI H;obtain ⟨t171,A5,H⟩:=H
 by_cases c6:t171 = true
 ·subst c6
  replace H:=pT H
  replace H:=bI H;obtain ⟨t172,A7,H⟩:=H
  by_cases c8:t172 = true
  ·subst c8
   replace H:=pT H
   replace H:=bI H;obtain ⟨t173,A9,H⟩:=H
   by_cases c10:t173 = true
   ·subst c10
    replace H:=pT H
    replace H:=bI H;obtain ⟨t174,A11,H⟩:=H
    simp only [Option.some.injEq,Prod.mk.injEq] at H
    obtain ⟨rfl,rfl⟩:=H
    go_enter Try.func14,Try.ntmps14
    go_wp2_with (first|(refine xB 4 #[.slice A0_0 l0_0.length c0_0] 26 ?_;intro gb169 hg w12 hbox hb;have BK169:=Aside0.mk (hbox);have GW169:=gZ w gb169;have GE169:=GW169;replace HB:=bS hb;clear hb hbox hg)|(refine xB 5 #[.int .i64 a1_0,.slice A1_1 l1_1.length c1_1] 31 ?_;intro gb170 hg w13 hbox hb;have BK170:=Aside0.mk (hbox);have GW170:=gZ w gb170;have GE170:=GW170;replace HB:=bS hb;have NB169_170:=nl BK169 gb169 gb170;have NB170_169:=nr NB169_170;replace BK169:=bb BK169 hb;clear hb hbox hg;have hnb14:=NB169_170.out;have hnc14:=NB170_169.out;have hcz15_0:=qc1_0 BK169;have hfz15_0:=fz BK169 0;have hcz16_0:=qc2_0 BK170;have hcz16_1:=qc2_1 BK170;have hfz16_0:=fz BK170 0;have hfz16_1:=fz BK170 1)|((with_reducible refine gate_callee (f:=16) rfl ?_);refine goesL_ (some 12) rfl rfl Try.func16 (by kernel_rfl) rfl #[.agg #[.slice A0_0 l0_0.length c0_0],.agg #[.int .i64 a1_0,.slice A1_1 l1_1.length c1_1]] rfl Ya ?_;(with_reducible refine (impl_GoodWorld.calls k _ _ l0_0 a1_0 _ _ l1_1 true _ ?side1 ?side2 ?side3 ?side4 A5.out).mono ?_);(case side1=>exact Yx);(case side2=>exact Yw);(case side3=>exact YY);(case side4=>exact YW);rintro e w17 ⟨rfl,hb⟩;refine ⟨_,rfl,?_⟩;replace BK169:=bb BK169 hb;replace BK170:=bb BK170 hb;replace HB:=bS hb;(try clear hb);(try clear hb2);(try clear hk);(try clear hi);have hcz18_0:=qc1_0 BK169;have hfz18_0:=fz BK169 0)|(go_at_call 50;(with_reducible refine (impl_Sign_isClause.calls k _ _ l0_0 _ _ l2 true _ ?side1 ?side2 ?side3 ?side4 A7.out).mono ?_);(case side1=>exact Yx);(case side2=>exact Yw);(case side3=>exact sC HR2);(case side4=>exact HC2.out);rintro e w19 ⟨rfl,hb⟩;replace BK169:=bb BK169 hb;replace BK170:=bb BK170 hb;replace HB:=bS hb;(try clear hb);(try clear hb2);(try clear hk);(try clear hi);have hcz20_0:=qc2_0 BK170;have hcz20_1:=qc2_1 BK170;have hfz20_0:=fz BK170 0;have hfz20_1:=fz BK170 1)|(go_at_call 42;(with_reducible refine (impl_World_isEnv.calls a1_0 _ _ l1_1 _ _ l3 true _ ?side1 ?side2 ?side3 ?side4 A9.out).mono ?_);(case side1=>exact YY);(case side2=>exact YW);(case side3=>exact sC HR3);(case side4=>exact HC3.out);rintro e w21 ⟨rfl,hb⟩;replace BK169:=bb BK169 hb;replace BK170:=bb BK170 hb;replace HB:=bS hb;(try clear hb);(try clear hb2);(try clear hk);(try clear hi);have hcz22_0:=qc1_0 BK169;have hfz22_0:=fz BK169 0;have hcz23_0:=qc2_0 BK170;have hcz23_1:=qc2_1 BK170;have hfz23_0:=fz BK170 0;have hfz23_1:=fz BK170 1)|((with_reducible refine gate_callee (f:=51) rfl ?_);refine goesL_ (some 30) rfl rfl Try.func51 (by kernel_rfl) rfl #[.agg #[.slice A0_0 l0_0.length c0_0],.agg #[.int .i64 a1_0,.slice A1_1 l1_1.length c1_1],.slice A2 l2.length c2,.slice A3 l3.length c3] rfl Ya ?_;(with_reducible refine (impl_Sign_holdsAt.calls k _ _ l0_0 a1_0 _ _ l1_1 _ _ l2 _ _ l3 t174 _ ?side1 ?side2 ?side3 ?side4 ?side5 ?side6 ?side7 ?side8 A11.out).mono ?_);(case side1=>exact Yx);(case side2=>exact Yw);(case side3=>exact YY);(case side4=>exact YW);(case side5=>exact sC HR2);(case side6=>exact HC2.out);(case side7=>exact sC HR3);(case side8=>exact HC3.out);rintro e w24 ⟨rfl,hb⟩;refine ⟨_,rfl,?_⟩;replace BK169:=bb BK169 hb;replace BK170:=bb BK170 hb;replace HB:=bS hb;clear hb))
    go_ret2
    exact ⟨Yb,bH⟩
   ·replace c10:=Bool.eq_false_iff.mpr c10
    subst c10
    replace H:=pF H
    simp only [Option.some.injEq,Prod.mk.injEq] at H
    obtain ⟨rfl,rfl⟩:=H
    go_enter Try.func14,Try.ntmps14
    go_wp2_with (first|(refine xB 4 #[.slice A0_0 l0_0.length c0_0] 26 ?_;intro gb169 hg w25 hbox hb;have BK169:=Aside0.mk (hbox);have GW169:=gZ w gb169;have GE169:=GW169;replace HB:=bS hb;clear hb hbox hg)|(refine xB 5 #[.int .i64 a1_0,.slice A1_1 l1_1.length c1_1] 31 ?_;intro gb170 hg w26 hbox hb;have BK170:=Aside0.mk (hbox);have GW170:=gZ w gb170;have GE170:=GW170;replace HB:=bS hb;have NB169_170:=nl BK169 gb169 gb170;have NB170_169:=nr NB169_170;replace BK169:=bb BK169 hb;clear hb hbox hg;have hnb27:=NB169_170.out;have hnc27:=NB170_169.out;have hcz28_0:=qc1_0 BK169;have hfz28_0:=fz BK169 0;have hcz29_0:=qc2_0 BK170;have hcz29_1:=qc2_1 BK170;have hfz29_0:=fz BK170 0;have hfz29_1:=fz BK170 1)|((with_reducible refine gate_callee (f:=16) rfl ?_);refine goesL_ (some 12) rfl rfl Try.func16 (by kernel_rfl) rfl #[.agg #[.slice A0_0 l0_0.length c0_0],.agg #[.int .i64 a1_0,.slice A1_1 l1_1.length c1_1]] rfl Ya ?_;(with_reducible refine (impl_GoodWorld.calls k _ _ l0_0 a1_0 _ _ l1_1 true _ ?side1 ?side2 ?side3 ?side4 A5.out).mono ?_);(case side1=>exact Yx);(case side2=>exact Yw);(case side3=>exact YY);(case side4=>exact YW);rintro e w30 ⟨rfl,hb⟩;refine ⟨_,rfl,?_⟩;replace BK169:=bb BK169 hb;replace BK170:=bb BK170 hb;replace HB:=bS hb;(try clear hb);(try clear hb2);(try clear hk);(try clear hi);have hcz31_0:=qc1_0 BK169;have hfz31_0:=fz BK169 0)|(go_at_call 50;(with_reducible refine (impl_Sign_isClause.calls k _ _ l0_0 _ _ l2 true _ ?side1 ?side2 ?side3 ?side4 A7.out).mono ?_);(case side1=>exact Yx);(case side2=>exact Yw);(case side3=>exact sC HR2);(case side4=>exact HC2.out);rintro e w32 ⟨rfl,hb⟩;replace BK169:=bb BK169 hb;replace BK170:=bb BK170 hb;replace HB:=bS hb;(try clear hb);(try clear hb2);(try clear hk);(try clear hi);have hcz33_0:=qc2_0 BK170;have hcz33_1:=qc2_1 BK170;have hfz33_0:=fz BK170 0;have hfz33_1:=fz BK170 1)|(go_at_call 42;(with_reducible refine (impl_World_isEnv.calls a1_0 _ _ l1_1 _ _ l3 false _ ?side1 ?side2 ?side3 ?side4 A9.out).mono ?_);(case side1=>exact YY);(case side2=>exact YW);(case side3=>exact sC HR3);(case side4=>exact HC3.out);rintro e w34 ⟨rfl,hb⟩;replace BK169:=bb BK169 hb;replace BK170:=bb BK170 hb;replace HB:=bS hb;clear hb))
    go_ret2
    exact ⟨Yb,bH⟩
  ·replace c8:=Bool.eq_false_iff.mpr c8
   subst c8
   replace H:=pF H
   simp only [Option.some.injEq,Prod.mk.injEq] at H
   obtain ⟨rfl,rfl⟩:=H
   go_enter Try.func14,Try.ntmps14
   go_wp2_with (first|(refine xB 4 #[.slice A0_0 l0_0.length c0_0] 26 ?_;intro gb169 hg w35 hbox hb;have BK169:=Aside0.mk (hbox);have GW169:=gZ w gb169;have GE169:=GW169;replace HB:=bS hb;clear hb hbox hg)|(refine xB 5 #[.int .i64 a1_0,.slice A1_1 l1_1.length c1_1] 31 ?_;intro gb170 hg w36 hbox hb;have BK170:=Aside0.mk (hbox);have GW170:=gZ w gb170;have GE170:=GW170;replace HB:=bS hb;have NB169_170:=nl BK169 gb169 gb170;have NB170_169:=nr NB169_170;replace BK169:=bb BK169 hb;clear hb hbox hg;have hnb37:=NB169_170.out;have hnc37:=NB170_169.out;have hcz38_0:=qc1_0 BK169;have hfz38_0:=fz BK169 0;have hcz39_0:=qc2_0 BK170;have hcz39_1:=qc2_1 BK170;have hfz39_0:=fz BK170 0;have hfz39_1:=fz BK170 1)|((with_reducible refine gate_callee (f:=16) rfl ?_);refine goesL_ (some 12) rfl rfl Try.func16 (by kernel_rfl) rfl #[.agg #[.slice A0_0 l0_0.length c0_0],.agg #[.int .i64 a1_0,.slice A1_1 l1_1.length c1_1]] rfl Ya ?_;(with_reducible refine (impl_GoodWorld.calls k _ _ l0_0 a1_0 _ _ l1_1 true _ ?side1 ?side2 ?side3 ?side4 A5.out).mono ?_);(case side1=>exact Yx);(case side2=>exact Yw);(case side3=>exact YY);(case side4=>exact YW);rintro e w40 ⟨rfl,hb⟩;refine ⟨_,rfl,?_⟩;replace BK169:=bb BK169 hb;replace BK170:=bb BK170 hb;replace HB:=bS hb;(try clear hb);(try clear hb2);(try clear hk);(try clear hi);have hcz41_0:=qc1_0 BK169;have hfz41_0:=fz BK169 0)|(go_at_call 50;(with_reducible refine (impl_Sign_isClause.calls k _ _ l0_0 _ _ l2 false _ ?side1 ?side2 ?side3 ?side4 A7.out).mono ?_);(case side1=>exact Yx);(case side2=>exact Yw);(case side3=>exact sC HR2);(case side4=>exact HC2.out);rintro e w42 ⟨rfl,hb⟩;replace BK169:=bb BK169 hb;replace BK170:=bb BK170 hb;replace HB:=bS hb;clear hb))
   go_ret2
   exact ⟨Yb,bH⟩
 ·replace c6:=Bool.eq_false_iff.mpr c6
  subst c6
  replace H:=pF H
  simp only [Option.some.injEq,Prod.mk.injEq] at H
  obtain ⟨rfl,rfl⟩:=H
  go_enter Try.func14,Try.ntmps14
  go_wp2_with (first|(refine xB 4 #[.slice A0_0 l0_0.length c0_0] 26 ?_;intro gb169 hg w43 hbox hb;have BK169:=Aside0.mk (hbox);have GW169:=gZ w gb169;have GE169:=GW169;replace HB:=bS hb;clear hb hbox hg)|(refine xB 5 #[.int .i64 a1_0,.slice A1_1 l1_1.length c1_1] 31 ?_;intro gb170 hg w44 hbox hb;have BK170:=Aside0.mk (hbox);have GW170:=gZ w gb170;have GE170:=GW170;replace HB:=bS hb;have NB169_170:=nl BK169 gb169 gb170;have NB170_169:=nr NB169_170;replace BK169:=bb BK169 hb;clear hb hbox hg;have hnb45:=NB169_170.out;have hnc45:=NB170_169.out;have hcz46_0:=qc1_0 BK169;have hfz46_0:=fz BK169 0;have hcz47_0:=qc2_0 BK170;have hcz47_1:=qc2_1 BK170;have hfz47_0:=fz BK170 0;have hfz47_1:=fz BK170 1)|((with_reducible refine gate_callee (f:=16) rfl ?_);refine goesL_ (some 12) rfl rfl Try.func16 (by kernel_rfl) rfl #[.agg #[.slice A0_0 l0_0.length c0_0],.agg #[.int .i64 a1_0,.slice A1_1 l1_1.length c1_1]] rfl Ya ?_;(with_reducible refine (impl_GoodWorld.calls k _ _ l0_0 a1_0 _ _ l1_1 false _ ?side1 ?side2 ?side3 ?side4 A5.out).mono ?_);(case side1=>exact Yx);(case side2=>exact Yw);(case side3=>exact YY);(case side4=>exact YW);rintro e w48 ⟨rfl,hb⟩;refine ⟨_,rfl,?_⟩;replace BK169:=bb BK169 hb;replace BK170:=bb BK170 hb;replace HB:=bS hb;clear hb))
  go_ret2
  exact ⟨Yb,bH⟩

/-- A state of type 60 at block g of W; what its slices lead to came in by w0. -/
def IsS60 (w0 W:World) (g:Nat) (f0:List Int) (f1:Int) (f2:Int):Prop:=∃ A0 c0,W.heap[g]? = some (.cells #[.slice A0 f0.length c0,.int .i64 f1,.int .u64 f2] 60 (0,0)) ∧ w0.heap.size ≤ g ∧ Kd.C (Kd.int .u8) w0 A0 f0.length f0
theorem IsS60.grown {w0 W:World} {g:Nat} {f0:List Int} {f1:Int} {f2:Int} {W1:World} {row:Option Nat} (h:IsS60 w0 W g f0 f1 f2) (hw:W.grownBy W1 row) (hne:some g ≠ row):IsS60 w0 W1 g f0 f1 f2:=by
 obtain ⟨A0,c0,hb,hg,hr0⟩:=h
 exact ⟨A0,c0,blk_grown hb hw hne,hg,hr0⟩
theorem IsS60.own_neN {w0 W:World} {g:Nat} {f0:List Int} {f1:Int} {f2:Int} {α:Type} {d:Kd α} {e:Nat} {base:Nat} {ok:Nat → Prop} {v:Value} {xs:List α} (h:IsS60 w0 W g f0 f1 f2) (ho:Kd.N d e W base ok v xs) (ht:e ≠ 60):some g ≠ v.ownBlock:=by
 obtain ⟨A0,c0,hb,hg,hr0⟩:=h
 exact Kd.N_ne ho hb ht
theorem IsS60.fresh {w0 W:World} {g:Nat} {f0:List Int} {f1:Int} {f2:Int} (h:IsS60 w0 W g f0 f1 f2):∀ k,W.heap.size ≤ k → k ≠ g:=by
 obtain ⟨A0,c0,hb,hg,hr0⟩:=h
 exact Kd.freshB hb
theorem IsS60.kept {w0 W:World} {g:Nat} {f0:List Int} {f1:Int} {f2:Int} {W1:World} {S:Nat → Prop} (h:IsS60 w0 W g f0 f1 f2) (hk:Kept W W1 S) (hne:¬ S g):IsS60 w0 W1 g f0 f1 f2:=by
 obtain ⟨A0,c0,hb,hg,hr0⟩:=h
 exact ⟨A0,c0,blk_kept hb hk hne,hg,hr0⟩
theorem IsS60.below {w0 W:World} {g:Nat} {f0:List Int} {f1:Int} {f2:Int} {W1:World} (h:IsS60 w0 W g f0 f1 f2) (hw:Below W.heap.size W W1):IsS60 w0 W1 g f0 f1 f2:=h.grown (grown_of_below hw none) (by simp)
theorem iB60 {w0 W:World} {g:Nat} {f0:List Int} {f1:Int} {f2:Int} {W1:World} (hb:Below W.heap.size W W1) (h:IsS60 w0 W g f0 f1 f2:=by exact iIsS60):Aside0 (IsS60 w0 W1 g f0 f1 f2):=⟨IsS60.below h hb⟩
theorem IsS60.alloc {w0 W:World} {g:Nat} {f0:List Int} {f1:Int} {f2:Int} (h:IsS60 w0 W g f0 f1 f2) (o:Obj):IsS60 w0 (W.alloc o) g f0 f1 f2:=h.below (below_alloc (Below.refl _ _) o)
theorem IsS60.drewN {w0 W:World} {g:Nat} {f0:List Int} {f1:Int} {f2:Int} (h:IsS60 w0 W g f0 f1 f2) (m:Nat):IsS60 w0 (W.drewN m) g f0 f1 f2:=h
theorem IsS60.drew {w0 W:World} {g:Nat} {f0:List Int} {f1:Int} {f2:Int} (h:IsS60 w0 W g f0 f1 f2):IsS60 w0 W.drew g f0 f1 f2:=h
theorem IsS60.at_ {w0 W:World} {g:Nat} {f0:List Int} {f1:Int} {f2:Int} {w':World} {m:Nat} (hq:W.drewN m = w') (h:IsS60 w0 W g f0 f1 f2):IsS60 w0 w' g f0 f1 f2:=by subst hq;exact IsS60.drewN h m
theorem IsS60.apart {w0 W:World} {g:Nat} {f0:List Int} {f1:Int} {f2:Int} {α:Type} {d:Kd α} {e:Nat} {base:Nat} {ok:Nat → Prop} {v:Value} {xs:List α} (h:IsS60 w0 W g f0 f1 f2) (ho:d.R e W base ok v xs) (ht:∀ q,q ∈ e :: d.E → q ≠ 60):d.R e W base (fun k=>ok k ∧ k ≠ g) v xs:=by
 obtain ⟨A0,c0,hb,hg,hr0⟩:=h
 exact Kd.R_types ho hb ht
theorem IsS60.own_ne {w0 W:World} {g:Nat} {f0:List Int} {f1:Int} {f2:Int} {α:Type} {d:Kd α} {e:Nat} {base:Nat} {ok:Nat → Prop} {v:Value} {xs:List α} (h:IsS60 w0 W g f0 f1 f2) (ho:d.R e W base ok v xs) (ht:e ≠ 60):some g ≠ v.ownBlock:=by
 obtain ⟨A0,c0,hb,hg,hr0⟩:=h
 exact Kd.R_ne ho hb ht
theorem IsS60.apartQ {w0 W:World} {g:Nat} {f0:List Int} {f1:Int} {f2:Int} {α:Type} {d:Kd α} {e:Nat} {base:Nat} {ok:Nat → Prop} {v:Value} {xs:List α} (h:IsS60 w0 W g f0 f1 f2) (ho:d.Q e W base ok v xs) (ht:∀ q,q ∈ e :: d.E → q ≠ 60):d.Q e W base (fun k=>ok k ∧ k ≠ g) v xs:=by
 obtain ⟨A0,c0,hb,hg,hr0⟩:=h
 exact Kd.Q_types ho hb ht
theorem IsS60.own_neQ {w0 W:World} {g:Nat} {f0:List Int} {f1:Int} {f2:Int} {α:Type} {d:Kd α} {e:Nat} {base:Nat} {ok:Nat → Prop} {v:Value} {xs:List α} (h:IsS60 w0 W g f0 f1 f2) (ho:d.Q e W base ok v xs) (ht:e ≠ 60):some g ≠ v.ownBlock:=by
 obtain ⟨A0,c0,hb,hg,hr0⟩:=h
 exact Kd.Q_ne ho hb ht
theorem IsS60.apartS {w0 W:World} {g:Nat} {f0:List Int} {f1:Int} {f2:Int} {α:Type} {d:Kd α} {e:Nat} {base:Nat} {ok:Nat → Prop} {v:Value} {xs:List α} (h:IsS60 w0 W g f0 f1 f2) (ho:d.S e W base ok v xs) (ht:∀ q,q ∈ e :: d.E → q ≠ 60):d.S e W base (fun k=>ok k ∧ k ≠ g) v xs:=by
 obtain ⟨A0,c0,hb,hg,hr0⟩:=h
 exact Kd.S_types ho hb ht
theorem IsS60.own_neS {w0 W:World} {g:Nat} {f0:List Int} {f1:Int} {f2:Int} {α:Type} {d:Kd α} {e:Nat} {base:Nat} {ok:Nat → Prop} {v:Value} {xs:List α} (h:IsS60 w0 W g f0 f1 f2) (ho:d.S e W base ok v xs) (ht:e ≠ 60):some g ≠ v.ownBlock:=by
 obtain ⟨A0,c0,hb,hg,hr0⟩:=h
 exact Kd.S_ne ho hb ht
theorem IsS60.lt {w0 W:World} {g:Nat} {f0:List Int} {f1:Int} {f2:Int} (h:IsS60 w0 W g f0 f1 f2):g < W.heap.size:=by
 obtain ⟨A0,c0,hb,hg,hr0⟩:=h
 exact blk_lt hb
theorem IsS60.ge {w0 W:World} {g:Nat} {f0:List Int} {f1:Int} {f2:Int} (h:IsS60 w0 W g f0 f1 f2):w0.heap.size ≤ g:=by
 obtain ⟨A0,c0,hb,hg,hr0⟩:=h
 exact hg
theorem IsS60.ne_blk {w0 W:World} {g:Nat} {f0:List Int} {f1:Int} {f2:Int} {a:Nat} {cs:Array Value} {t:TypeId} {fr:Nat × Nat} (h:IsS60 w0 W g f0 f1 f2) (hb2:W.heap[a]? = some (.cells cs t fr)) (ht:t ≠ 60):g ≠ a:=by
 obtain ⟨A0,c0,hb,hg,hr0⟩:=h
 rintro rfl
 rw [hb] at hb2
 injection hb2 with hb2
 injection hb2 with _ ht2
 exact ht ht2.symm
theorem IsS60.far {w0 W:World} {g:Nat} {f0:List Int} {f1:Int} {f2:Int} {p:Addr} (h:IsS60 w0 W g f0 f1 f2) (hne:g ≠ p.block) (u:Value):IsS60 w0 (W.setCell p u) g f0 f1 f2:=by
 obtain ⟨A0,c0,hb,hg,hr0⟩:=h
 exact ⟨A0,c0,blk_far hb hne u,hg,hr0⟩
theorem cellS60_0 {W:World} {g:Nat} {A0:Option Addr} {c0:Nat} {f0:List Int} {f1:Int} {f2:Int} (h:W.heap[g]? = some (.cells #[.slice A0 f0.length c0,.int .i64 f1,.int .u64 f2] 60 (0,0))):W.cell? ⟨g,0,none⟩ = some (.slice A0 f0.length c0):=(blk_cell h 0).trans rfl
theorem cellS60_1 {W:World} {g:Nat} {A0:Option Addr} {c0:Nat} {f0:List Int} {f1:Int} {f2:Int} (h:W.heap[g]? = some (.cells #[.slice A0 f0.length c0,.int .i64 f1,.int .u64 f2] 60 (0,0))):W.cell? ⟨g,1,none⟩ = some (.int .i64 f1):=(blk_cell h 1).trans rfl
theorem IsS60.set_1 {w0 W:World} {g:Nat} {f0:List Int} {f1:Int} {f2:Int} (h:IsS60 w0 W g f0 f1 f2) (x:Int):IsS60 w0 (W.setCell ⟨g,1,none⟩ (.int .i64 x)) g f0 x f2:=by
 obtain ⟨A0,c0,hb,hg,hr0⟩:=h
 exact ⟨A0,c0,by simpa using blk_set hb 1 (.int .i64 x),hg,hr0⟩
theorem cellS60_2 {W:World} {g:Nat} {A0:Option Addr} {c0:Nat} {f0:List Int} {f1:Int} {f2:Int} (h:W.heap[g]? = some (.cells #[.slice A0 f0.length c0,.int .i64 f1,.int .u64 f2] 60 (0,0))):W.cell? ⟨g,2,none⟩ = some (.int .u64 f2):=(blk_cell h 2).trans rfl
theorem IsS60.set_2 {w0 W:World} {g:Nat} {f0:List Int} {f1:Int} {f2:Int} (h:IsS60 w0 W g f0 f1 f2) (x:Int):IsS60 w0 (W.setCell ⟨g,2,none⟩ (.int .u64 x)) g f0 f1 x:=by
 obtain ⟨A0,c0,hb,hg,hr0⟩:=h
 exact ⟨A0,c0,by simpa using blk_set hb 2 (.int .u64 x),hg,hr0⟩
theorem IsS60.new (w0 W:World) (A0:Option Addr) (c0:Nat) (f0:List Int) (f1:Int) (f2:Int) (hB:Below w0.heap.size w0 W) (hr0:Kd.C (Kd.int .u8) w0 A0 f0.length f0):IsS60 w0 (W.alloc (.cells #[.slice A0 f0.length c0,.int .i64 f1,.int .u64 f2] 60)) W.heap.size f0 f1 f2:=⟨A0,c0,by simpa using heap_alloc_new W _,hB.size,hr0⟩

/-! ### spec_l1Cur_next: function 114 -/
def spec_l1Cur_next.f (s0_0:List Int) (s0_1:Int) (s0_2:Int):Option (Int × Int × Int):=if s0_1 < (s0_0.length:Int) then (if 0 ≤ s0_1 then (if (wrap64 (s0_1 + 1)) ≤ (s0_0.length:Int) then (some (wrap64 (rd s0_0 s0_1),wrap64 (s0_1 + 1),IntKind.u64.wrap ((IntKind.u64.wrap ((IntKind.u64.wrap (s0_2 * 6364136223846793005)) + (IntKind.u64.wrap (wrap64 (rd s0_0 s0_1))))) + 1442695040888963407))) else (some (wrap64 (Go.bits .and .u64 ((IntKind.u64.wrap ((IntKind.u64.wrap ((IntKind.u64.wrap (s0_2 * 6364136223846793005)) + (IntKind.u64.wrap (wrap64 (rd s0_0 s0_1))))) + 1442695040888963407)) / 1099511627776) 255),wrap64 (s0_1 + 1),IntKind.u64.wrap ((IntKind.u64.wrap ((IntKind.u64.wrap (s0_2 * 6364136223846793005)) + (IntKind.u64.wrap (wrap64 (rd s0_0 s0_1))))) + 1442695040888963407)))) else (none)) else (if (wrap64 (s0_1 + 1)) ≤ (s0_0.length:Int) then (some (0,wrap64 (s0_1 + 1),IntKind.u64.wrap ((IntKind.u64.wrap (IntKind.u64.wrap (s0_2 * 6364136223846793005))) + 1442695040888963407))) else (some (wrap64 (Go.bits .and .u64 ((IntKind.u64.wrap ((IntKind.u64.wrap (IntKind.u64.wrap (s0_2 * 6364136223846793005))) + 1442695040888963407)) / 1099511627776) 255),wrap64 (s0_1 + 1),IntKind.u64.wrap ((IntKind.u64.wrap (IntKind.u64.wrap (s0_2 * 6364136223846793005))) + 1442695040888963407))))
set_option maxHeartbeats 8000000 in
set_option maxRecDepth 100000 in
theorem spec_l1Cur_next.calls (g:Nat) (s0_0:List Int) (s0_1:Int) (s0_2:Int) (r1:Int) (r2:Int) (r3:Int) (w0 w:World) (hI:IsS60 w0 w g s0_0 s0_1 s0_2) (hB:Below w0.heap.size w0 w) (h:spec_l1Cur_next.f s0_0 s0_1 s0_2 = some (r1,r2,r3)) :
  Calls Try.prog 114 #[.pointer (some ⟨g,0,none⟩)] w fun e w'=>e = .returned (.int .i64 r1) ∧ IsS60 w0 w' g s0_0 r2 r3 ∧ Below w0.heap.size w0 w' ∧ KeepBut w w' g none:=by
 have HI0:=Aside0.mk hI
 have HK:=Aside0.mk (KeepBut.refl w g none)
 have HL:=Aside0.mk hB.size
 clear hI
 have HW0:=Aside0.mk hB.size
 have HB:=Aside0.mk hB
 clear hB
 have H:(if s0_1 < (s0_0.length:Int) then (if 0 ≤ s0_1 then (if (wrap64 (s0_1 + 1)) ≤ (s0_0.length:Int) then (some (wrap64 (rd s0_0 s0_1),wrap64 (s0_1 + 1),IntKind.u64.wrap ((IntKind.u64.wrap ((IntKind.u64.wrap (s0_2 * 6364136223846793005)) + (IntKind.u64.wrap (wrap64 (rd s0_0 s0_1))))) + 1442695040888963407))) else (some (wrap64 (Go.bits .and .u64 ((IntKind.u64.wrap ((IntKind.u64.wrap ((IntKind.u64.wrap (s0_2 * 6364136223846793005)) + (IntKind.u64.wrap (wrap64 (rd s0_0 s0_1))))) + 1442695040888963407)) / 1099511627776) 255),wrap64 (s0_1 + 1),IntKind.u64.wrap ((IntKind.u64.wrap ((IntKind.u64.wrap (s0_2 * 6364136223846793005)) + (IntKind.u64.wrap (wrap64 (rd s0_0 s0_1))))) + 1442695040888963407)))) else (none)) else (if (wrap64 (s0_1 + 1)) ≤ (s0_0.length:Int) then (some (0,wrap64 (s0_1 + 1),IntKind.u64.wrap ((IntKind.u64.wrap (IntKind.u64.wrap (s0_2 * 6364136223846793005))) + 1442695040888963407))) else (some (wrap64 (Go.bits .and .u64 ((IntKind.u64.wrap ((IntKind.u64.wrap (IntKind.u64.wrap (s0_2 * 6364136223846793005))) + 1442695040888963407)) / 1099511627776) 255),wrap64 (s0_1 + 1),IntKind.u64.wrap ((IntKind.u64.wrap (IntKind.u64.wrap (s0_2 * 6364136223846793005))) + 1442695040888963407))))) = some (r1,r2,r3):=h
 clear h
 by_cases c2:s0_1 < (s0_0.length:Int)
 ·rw [if_pos c2] at H
  have c2b0:=decide_eq_true c2
  clear c2
  replace H:=gI H;obtain ⟨c3b0,H⟩:=H
  by_cases c4:(wrap64 (s0_1 + 1)) ≤ (s0_0.length:Int)
  ·rw [if_pos c4] at H
   have c4b0:=decide_eq_true c4
   clear c4
   simp only [Option.some.injEq,Prod.mk.injEq] at H
   obtain ⟨rfl,rfl,rfl⟩:=H
   obtain ⟨ASz5_0,cSz5_0,HGz5,hgz5,HSz5_0⟩:=HI0.out
   have hcz5_0:=cellS60_0 HGz5
   have hcz5_1:=cellS60_1 HGz5
   have hcz5_2:=cellS60_2 HGz5
   have hfz5_1:=blk_frozen HGz5 1
   have hfz5_2:=blk_frozen HGz5 2
   clear HGz5 hgz5
   have p175:0 ≤ (s0_1:Int):=oD
   have q175:s0_1 < (s0_0.length:Int):=oD
   obtain ⟨ad175,e175,hx175_0⟩:=Kd.at_int HSz5_0 s0_1 p175 q175
   cases e175
   replace hx175_0:=pw_cell_below HB.out hx175_0
   replace p175:=eq_true p175
   replace q175:=eq_true q175
   go_enter Try.func114,Try.ntmps114
   go_wp2
   repeat (go_quiet (fail);try go_wp2)
   go_ret
   exact ⟨Yb,iIsS60,bH,kB⟩
  ·rw [if_neg c4] at H
   have c4b0:decide ((wrap64 (s0_1 + 1)) ≤ (s0_0.length:Int)) = false:=decide_eq_false c4
   clear c4
   simp only [Option.some.injEq,Prod.mk.injEq] at H
   obtain ⟨rfl,rfl,rfl⟩:=H
   obtain ⟨ASz6_0,cSz6_0,HGz6,hgz6,HSz6_0⟩:=HI0.out
   have hcz6_0:=cellS60_0 HGz6
   have hcz6_1:=cellS60_1 HGz6
   have hcz6_2:=cellS60_2 HGz6
   have hfz6_1:=blk_frozen HGz6 1
   have hfz6_2:=blk_frozen HGz6 2
   clear HGz6 hgz6
   have p175:0 ≤ (s0_1:Int):=oD
   have q175:s0_1 < (s0_0.length:Int):=oD
   obtain ⟨ad175,e175,hx175_0⟩:=Kd.at_int HSz6_0 s0_1 p175 q175
   cases e175
   replace hx175_0:=pw_cell_below HB.out hx175_0
   replace p175:=eq_true p175
   replace q175:=eq_true q175
   go_enter Try.func114,Try.ntmps114
   go_wp2
   repeat (go_quiet (fail);try go_wp2)
   go_ret
   exact ⟨Yb,iIsS60,bH,kB⟩
 ·rw [if_neg c2] at H
  have c2b0:decide (s0_1 < (s0_0.length:Int)) = false:=decide_eq_false c2
  clear c2
  by_cases c7:(wrap64 (s0_1 + 1)) ≤ (s0_0.length:Int)
  ·rw [if_pos c7] at H
   have c7b0:=decide_eq_true c7
   clear c7
   simp only [Option.some.injEq,Prod.mk.injEq] at H
   obtain ⟨rfl,rfl,rfl⟩:=H
   obtain ⟨ASz8_0,cSz8_0,HGz8,hgz8,HSz8_0⟩:=HI0.out
   have hcz8_0:=cellS60_0 HGz8
   have hcz8_1:=cellS60_1 HGz8
   have hcz8_2:=cellS60_2 HGz8
   have hfz8_1:=blk_frozen HGz8 1
   have hfz8_2:=blk_frozen HGz8 2
   clear HGz8 hgz8
   go_enter Try.func114,Try.ntmps114
   go_wp2
   repeat (go_quiet (fail);try go_wp2)
   go_ret
   exact ⟨Yb,iIsS60,bH,kB⟩
  ·rw [if_neg c7] at H
   have c7b0:decide ((wrap64 (s0_1 + 1)) ≤ (s0_0.length:Int)) = false:=decide_eq_false c7
   clear c7
   simp only [Option.some.injEq,Prod.mk.injEq] at H
   obtain ⟨rfl,rfl,rfl⟩:=H
   obtain ⟨ASz9_0,cSz9_0,HGz9,hgz9,HSz9_0⟩:=HI0.out
   have hcz9_0:=cellS60_0 HGz9
   have hcz9_1:=cellS60_1 HGz9
   have hcz9_2:=cellS60_2 HGz9
   have hfz9_1:=blk_frozen HGz9 1
   have hfz9_2:=blk_frozen HGz9 2
   clear HGz9 hgz9
   go_enter Try.func114,Try.ntmps114
   go_wp2
   repeat (go_quiet (fail);try go_wp2)
   go_ret
   exact ⟨Yb,iIsS60,bH,kB⟩

/-! ### spec_l1Cur_pick: function 73 -/
def spec_l1Cur_pick.f (s0_0:List Int) (s0_1:Int) (s0_2:Int) (a1:Int):Option (Int × Int × Int):=if a1 ≤ 1 then (some (0,s0_1,s0_2)) else ((spec_l1Cur_next.f s0_0 s0_1 s0_2).bind fun bt176=>(if a1 > 200 then ((spec_l1Cur_next.f s0_0 bt176.2.1 bt176.2.2).bind fun bt179=>(if a1 = 0 then (none) else (some (Int.tmod (wrap64 ((wrap64 (bt176.1 * 256)) + bt179.1)) a1,bt179.2.1,bt179.2.2)))) else (if a1 = 0 then (none) else (some (Int.tmod bt176.1 a1,bt176.2.1,bt176.2.2)))))
set_option maxHeartbeats 8000000 in
set_option maxRecDepth 100000 in
theorem spec_l1Cur_pick.calls (g:Nat) (s0_0:List Int) (s0_1:Int) (s0_2:Int) (a1:Int) (r1:Int) (r2:Int) (r3:Int) (w0 w:World) (hI:IsS60 w0 w g s0_0 s0_1 s0_2) (hB:Below w0.heap.size w0 w) (h:spec_l1Cur_pick.f s0_0 s0_1 s0_2 a1 = some (r1,r2,r3)) :
  Calls Try.prog 73 #[.pointer (some ⟨g,0,none⟩),.int .i64 a1] w fun e w'=>e = .returned (.int .i64 r1) ∧ IsS60 w0 w' g s0_0 r2 r3 ∧ Below w0.heap.size w0 w' ∧ KeepBut w w' g none:=by
 have HI0:=Aside0.mk hI
 have HK:=Aside0.mk (KeepBut.refl w g none)
 have HL:=Aside0.mk hB.size
 clear hI
 have HW0:=Aside0.mk hB.size
 have HB:=Aside0.mk hB
 clear hB
 have H:(if a1 ≤ 1 then (some (0,s0_1,s0_2)) else ((spec_l1Cur_next.f s0_0 s0_1 s0_2).bind fun bt176=>(if a1 > 200 then ((spec_l1Cur_next.f s0_0 bt176.2.1 bt176.2.2).bind fun bt179=>(if a1 = 0 then (none) else (some (Int.tmod (wrap64 ((wrap64 (bt176.1 * 256)) + bt179.1)) a1,bt179.2.1,bt179.2.2)))) else (if a1 = 0 then (none) else (some (Int.tmod bt176.1 a1,bt176.2.1,bt176.2.2)))))) = some (r1,r2,r3):=h
 clear h
 by_cases c3:a1 ≤ 1
 ·rw [if_pos c3] at H
  have c3b0:=decide_eq_true c3
  clear c3
  simp only [Option.some.injEq,Prod.mk.injEq] at H
  obtain ⟨rfl,rfl,rfl⟩:=H
  go_enter Try.func73,Try.ntmps73
  go_wp2
  go_ret
  exact ⟨Yb,iIsS60,bH,kB⟩
 ·rw [if_neg c3] at H
  have c3b0:decide (a1 ≤ 1) = false:=decide_eq_false c3
  clear c3
  replace H:=bI H;obtain ⟨⟨t176,t177,t178⟩,A4,H⟩:=H
  dsimp only at H
  by_cases c5:a1 > 200
  ·rw [if_pos c5] at H
   have c5b0:decide (200 < a1) = true:=decide_eq_true c5
   clear c5
   replace H:=bI H;obtain ⟨⟨t179,t180,t181⟩,A6,H⟩:=H
   dsimp only at H
   by_cases c7:a1 = 0
   ·rw [if_pos c7] at H
    exact absurd H (by simp)
   ·rw [if_neg c7] at H
    have c7b0:(a1 == 0) = false:=beq_eq_false_iff_ne.mpr c7
    have c7b1:(a1 != 0) = true:=bne_iff_ne.mpr c7
    simp only [Option.some.injEq,Prod.mk.injEq] at H
    obtain ⟨rfl,rfl,rfl⟩:=H
    go_enter Try.func73,Try.ntmps73
    go_wp2_with (first|((with_reducible refine gate_callee (f:=114) rfl ?_);refine goesL_ (some 9) rfl rfl Try.func114 (by kernel_rfl) rfl #[.pointer (some ⟨g,0,none⟩)] rfl Ya ?_;(with_reducible refine (spec_l1Cur_next.calls g s0_0 s0_1 s0_2 t176 t177 t178 w0 _ ?side1 ?side2 A4.out).mono ?_);(case side1=>exact iIsS60);(case side2=>exact bH);rintro e w8 ⟨rfl,hi,hb,hk⟩;refine ⟨_,rfl,?_⟩;replace HK:=Aside0.mk (KeepBut.trans kB hk (.inl rfl));replace HB:=Aside0.mk (hb);replace HI0:=Aside0.mk (hi);clear hb hk hi)|((with_reducible refine gate_callee (f:=114) rfl ?_);refine goesL_ (some 15) rfl rfl Try.func114 (by kernel_rfl) rfl #[.pointer (some ⟨g,0,none⟩)] rfl Ya ?_;(with_reducible refine (spec_l1Cur_next.calls g s0_0 t177 t178 t179 t180 t181 w0 _ ?side1 ?side2 A6.out).mono ?_);(case side1=>exact iIsS60);(case side2=>exact bH);rintro e w9 ⟨rfl,hi,hb,hk⟩;refine ⟨_,rfl,?_⟩;replace HK:=Aside0.mk (KeepBut.trans kB hk (.inl rfl));replace HB:=Aside0.mk (hb);replace HI0:=Aside0.mk (hi);clear hb hk hi))
    go_ret
    exact ⟨Yb,iIsS60,bH,kB⟩
  ·rw [if_neg c5] at H
   have c5b0:decide (200 < a1) = false:=decide_eq_false c5
   clear c5
   by_cases c10:a1 = 0
   ·rw [if_pos c10] at H
    exact absurd H (by simp)
   ·rw [if_neg c10] at H
    have c10b0:(a1 == 0) = false:=beq_eq_false_iff_ne.mpr c10
    have c10b1:(a1 != 0) = true:=bne_iff_ne.mpr c10
    simp only [Option.some.injEq,Prod.mk.injEq] at H
    obtain ⟨rfl,rfl,rfl⟩:=H
    go_enter Try.func73,Try.ntmps73
    go_wp2_with (first|((with_reducible refine gate_callee (f:=114) rfl ?_);refine goesL_ (some 9) rfl rfl Try.func114 (by kernel_rfl) rfl #[.pointer (some ⟨g,0,none⟩)] rfl Ya ?_;(with_reducible refine (spec_l1Cur_next.calls g s0_0 s0_1 s0_2 t176 t177 t178 w0 _ ?side1 ?side2 A4.out).mono ?_);(case side1=>exact iIsS60);(case side2=>exact bH);rintro e w11 ⟨rfl,hi,hb,hk⟩;refine ⟨_,rfl,?_⟩;replace HK:=Aside0.mk (KeepBut.trans kB hk (.inl rfl));replace HB:=Aside0.mk (hb);replace HI0:=Aside0.mk (hi);clear hb hk hi))
    go_ret
    exact ⟨Yb,iIsS60,bH,kB⟩

/-! ### spec_l1Cur_sign: function 35 -/
def spec_l1Cur_sign.f (s0_0:List Int) (s0_1:Int) (s0_2:Int):Option (List Int × Int × Int):=(spec_l1Cur_pick.f s0_0 s0_1 s0_2 40).bind fun bt187=>(if bt187.1 = 0 then (some ((([0,1,2,3,0]:List Int)),bt187.2.1,bt187.2.2)) else (if bt187.1 = 1 then (some (([]:List Int),bt187.2.1,bt187.2.2)) else (if bt187.1 = 2 then (some ((([1,0]:List Int)),bt187.2.1,bt187.2.2)) else (some ((([0,0,0,1,1,2]:List Int)),bt187.2.1,bt187.2.2)))))
set_option maxHeartbeats 8000000 in
set_option maxRecDepth 100000 in
theorem spec_l1Cur_sign.calls (g:Nat) (s0_0:List Int) (s0_1:Int) (s0_2:Int) (r1:List Int) (r2:Int) (r3:Int) (w0 w:World) (hI:IsS60 w0 w g s0_0 s0_1 s0_2) (hB:Below w0.heap.size w0 w) (h:spec_l1Cur_sign.f s0_0 s0_1 s0_2 = some (r1,r2,r3)) :
  Calls Try.prog 35 #[.pointer (some ⟨g,0,none⟩)] w fun e w'=>∃ v0_:Value,e = .returned (.agg #[v0_]) ∧ Kd.R (Kd.int .i64) 3 w' w.heap.size (fun _=>True) v0_ r1 ∧ IsS60 w0 w' g s0_0 r2 r3 ∧ Below w0.heap.size w0 w' ∧ KeepBut w w' g none:=by
 have hu26:=Try.underlying26
 have HI0:=Aside0.mk hI
 have HK:=Aside0.mk (KeepBut.refl w g none)
 have HL:=Aside0.mk hB.size
 clear hI
 have HW0:=Aside0.mk hB.size
 have HB:=Aside0.mk hB
 clear hB
 have H:((spec_l1Cur_pick.f s0_0 s0_1 s0_2 40).bind fun bt187=>(if bt187.1 = 0 then (some ((([0,1,2,3,0]:List Int)),bt187.2.1,bt187.2.2)) else (if bt187.1 = 1 then (some (([]:List Int),bt187.2.1,bt187.2.2)) else (if bt187.1 = 2 then (some ((([1,0]:List Int)),bt187.2.1,bt187.2.2)) else (some ((([0,0,0,1,1,2]:List Int)),bt187.2.1,bt187.2.2)))))) = some (r1,r2,r3):=h
 clear h
 obtain ⟨y183,hy183⟩:∃ y_:List Int,y_ = (([0,0,0,1,1,2]:List Int)):=⟨_,rfl⟩
 replace H:((spec_l1Cur_pick.f s0_0 s0_1 s0_2 40).bind fun bt187=>(if bt187.1 = 0 then (some ((([0,1,2,3,0]:List Int)),bt187.2.1,bt187.2.2)) else (if bt187.1 = 1 then (some (([]:List Int),bt187.2.1,bt187.2.2)) else (if bt187.1 = 2 then (some ((([1,0]:List Int)),bt187.2.1,bt187.2.2)) else (some (y183,bt187.2.1,bt187.2.2)))))) = some (r1,r2,r3):=by first|(rw [hy183];with_reducible exact H)|(have H2_:=(Option.bind_some _ _).symm.trans H;rw [hy183];with_reducible exact H2_)|(have H2_:=(Option.bind_some _ _).symm.trans H;with_reducible exact H2_)|with_reducible exact H|(rw [hy183];exact H)|exact H
 have Ny183:=Aside0.mk hy183
 clear hy183
 replace H:=bI H;obtain ⟨⟨t187,t188,t189⟩,A2,H⟩:=H
 dsimp only at H
 by_cases c3:t187 = 0
 ·rw [if_pos c3] at H
  have c3b0:(t187 == 0) = true:=beq_iff_eq.mpr c3
  have c3b1:(t187 != 0) = false:=bne_eq_false_iff_eq.mpr c3
  clear c3
  obtain ⟨y190,hy190⟩:∃ y_:List Int,y_ = (([0,1,2,3,0]:List Int)):=⟨_,rfl⟩
  replace H:(some (y190,t188,t189)) = some (r1,r2,r3):=by first|(rw [hy190];with_reducible exact H)|(have H2_:=(Option.bind_some _ _).symm.trans H;rw [hy190];with_reducible exact H2_)|(have H2_:=(Option.bind_some _ _).symm.trans H;with_reducible exact H2_)|with_reducible exact H|(rw [hy190];exact H)|exact H
  have Ny190:=Aside0.mk hy190
  clear hy190
  simp only [Option.some.injEq,Prod.mk.injEq] at H
  obtain ⟨rfl,rfl,rfl⟩:=H
  go_enter Try.func35,Try.ntmps35
  go_wp2_with (first|(refine xB 2 #[.slice none 0 0] 26 ?_;intro gb182 hg w4 hbox hb;replace HB:=bS hb;have BK182:=Aside0.mk (hbox);have GW182:=gY w gb182;have GE182:=gX HW0 GW182;replace HK:=kT w g hb;have NB0_182:=iN60 g gb182;have NB182_0:=nr NB0_182;replace HI0:=iB60 hb;clear hb hbox hg)|((with_reducible refine gate_dst (N:=4) rfl ?_);refine Kd.R_lit (Kd.int .i64) _ 3 ?hg (N:=4) ?hd (xs:=([0,0,0,1,1,2]:List Int)) (inner:=[.int .i64 0,.int .i64 0,.int .i64 0,.int .i64 1,.int .i64 1,.int .i64 2]) (ok:=fun _=>True) (okp:=fun _=>True) ?hr ?hp (fun _ hk=>hk) trivial (Below.refl _ _) (Nat.le_refl _) (by simp) ?_;(case hd=>rfl);(case hg=>rfl);(case hr=>exact Yc);(case hp=>exact Yj);intro v184 w5 ho6 hb hg_ hnew_;clear hg_ hnew_;(first|rw [← Ny183.out] at ho6|(simp only [Int.reduceToNat] at ho6;rw [← Ny183.out] at ho6));have HO185:=Aside0.mk (Kd.R_lower ho6 (keep_size (w:=w) (g:=g) (row:=none) kB));replace BK182:=bb BK182 hb;replace HK:=kT w g hb;replace HB:=bS hb;replace HI0:=iB60 hb;clear hb ho6;obtain ⟨Ao7,co7,eo7⟩:=Kd.R_slice HO185.out;subst eo7)|(refine xB 3 #[.slice none 0 0] 26 ?_;intro gb186 hg w8 hbox hb;replace HO185:=rB HO185 hb;replace HB:=bS hb;have BK186:=Aside0.mk (hbox);have GW186:=gY w gb186;have GE186:=gX HW0 GW186;replace HK:=kT w g hb;have NB182_186:=nl BK182 gb182 gb186;have NB186_182:=nr NB182_186;replace BK182:=bb BK182 hb;have NB0_186:=iN60 g gb186;have NB186_0:=nr NB0_186;replace HI0:=iB60 hb;clear hb hbox hg;have hnb9:=NB186_182.out;have hnc9:=NB182_186.out;have hnb10:=NB186_0.out;have hnc10:=NB0_186.out;have hcz11_0:=qc1_0 BK186;have hfz11_0:=fz BK186 0)|((with_reducible refine gate_callee (f:=73) rfl ?_);refine goesL_ (some 7) rfl rfl Try.func73 (by kernel_rfl) rfl #[.pointer (some ⟨g,0,none⟩),.int .i64 40] rfl Ya ?_;(with_reducible refine (spec_l1Cur_pick.calls g s0_0 s0_1 s0_2 40 t187 t188 t189 w0 _ ?side1 ?side2 A2.out).mono ?_);(case side1=>exact iIsS60);(case side2=>exact bH);rintro e w12 ⟨rfl,hi,hb,hk⟩;refine ⟨_,rfl,?_⟩;replace BK182:=kU (o:=.cells #[.slice none 0 0] 26 (0,0)) hk NB182_0 Yt;replace HO185:=Aside0.mk (Kd.R_mono (Kd.R_keep (IsS60.apart (show IsS60 w0 _ g s0_0 s0_1 s0_2 from iIsS60) (by (with_reducible repeat (first|apply Kd.R_alloc|apply Kd.R_drewN|apply Kd.R_drew));exact (Kd.R_mono (Kd.R_far (p:=⟨gb186,0,none⟩) (Kd.R_types HO185.out BK186.out (by decide)) (fun _ hk=>hk.2) (.slice Ao7 y183.length co7)) (fun _ h_=>h_.1))) (by decide)) hk (fun _ h=>h.2)) (fun _ h=>h.1));replace BK186:=kU (o:=.cells #[.slice Ao7 y183.length co7] 26 (0,0)) hk NB186_0 Yq;replace HK:=Aside0.mk (KeepBut.trans kB hk (.inl rfl));replace HB:=Aside0.mk (hb);replace HI0:=Aside0.mk (hi);(try clear hb);(try clear hb2);(try clear hk);(try clear hi))|((with_reducible refine gate_dst (N:=10) rfl ?_);refine Kd.R_lit (Kd.int .i64) _ 3 ?hg (N:=10) ?hd (xs:=([0,1,2,3,0]:List Int)) (inner:=[.int .i64 0,.int .i64 1,.int .i64 2,.int .i64 3,.int .i64 0]) (ok:=fun _=>True) (okp:=fun _=>True) ?hr ?hp (fun _ hk=>hk) trivial (Below.refl _ _) (Nat.le_refl _) (by simp) ?_;(case hd=>rfl);(case hg=>rfl);(case hr=>exact Yc);(case hp=>exact (Reps.one (show Kd.M (Kd.int .i64) _ _ _ 0 [.int .i64 0] from rfl) (Reps.one (show Kd.M (Kd.int .i64) _ _ _ 1 [.int .i64 1] from rfl) (Reps.one (show Kd.M (Kd.int .i64) _ _ _ 2 [.int .i64 2] from rfl) (Reps.one (show Kd.M (Kd.int .i64) _ _ _ 3 [.int .i64 3] from rfl) (Reps.one (show Kd.M (Kd.int .i64) _ _ _ 0 [.int .i64 0] from rfl) (Reps.none _ _)))))));intro v191 w13 ho14 hb hg_ hnew_;clear hg_ hnew_;(first|rw [← Ny190.out] at ho14|(simp only [Int.reduceToNat] at ho14;rw [← Ny190.out] at ho14));have HO192:=Aside0.mk (Kd.R_lower (Kd.R_new' ho14 (Kd.R_lt (rR HO185))) (keep_size (w:=w) (g:=g) (row:=none) kB));replace HO185:=Aside0.mk (Kd.R_elder' (rR HO185) (Kd.R_base ho14) hb);replace BK182:=bb BK182 hb;replace BK186:=bb BK186 hb;replace HK:=kT w g hb;replace HB:=bS hb;replace HI0:=iB60 hb;clear hb ho14;obtain ⟨Ao15,co15,eo15⟩:=Kd.R_slice HO192.out;subst eo15;have hcz16_0:=qc1_0 BK186;have hfz16_0:=fz BK186 0;have hnb17:=NB182_0.out;have hnc17:=NB0_182.out;have hcz18_0:=qc1_0 BK182;have hfz18_0:=fz BK182 0))
  refine bodyPost_ret (results_cell_row rfl _ _ gb182 26 #[.slice Ao15 y190.length co15] (0,0) _ rfl Yp Try.underlying26 rfl (by kernel_rfl)) rfl ?_
  exact ⟨_,Yb,by (with_reducible repeat (first|apply Kd.R_alloc|apply Kd.R_drewN|apply Kd.R_drew));exact Kd.R_mono (Kd.R_far (p:=⟨gb182,0,none⟩) (Kd.R_far (p:=⟨gb186,0,none⟩) (Kd.R_types (Kd.R_types HO192.out BK186.out (by decide)) BK182.out (by decide)) (fun _ hk=>hk.1.2) (.slice Ao15 y190.length co15)) (fun _ hk=>hk.2) (.slice Ao15 y190.length co15)) (fun _ hk=>trivial),iIsS60,bH,kB⟩
 ·rw [if_neg c3] at H
  have c3b0:(t187 == 0) = false:=beq_eq_false_iff_ne.mpr c3
  have c3b1:(t187 != 0) = true:=bne_iff_ne.mpr c3
  by_cases c19:t187 = 1
  ·rw [if_pos c19] at H
   have c19b0:(t187 == 1) = true:=beq_iff_eq.mpr c19
   have c19b1:(t187 != 1) = false:=bne_eq_false_iff_eq.mpr c19
   clear c19
   simp only [Option.some.injEq,Prod.mk.injEq] at H
   obtain ⟨rfl,rfl,rfl⟩:=H
   go_enter Try.func35,Try.ntmps35
   go_wp2_with (first|(refine xB 2 #[.slice none 0 0] 26 ?_;intro gb182 hg w20 hbox hb;replace HB:=bS hb;have BK182:=Aside0.mk (hbox);have GW182:=gY w gb182;have GE182:=gX HW0 GW182;replace HK:=kT w g hb;have NB0_182:=iN60 g gb182;have NB182_0:=nr NB0_182;replace HI0:=iB60 hb;clear hb hbox hg)|((with_reducible refine gate_dst (N:=4) rfl ?_);refine Kd.R_lit (Kd.int .i64) _ 3 ?hg (N:=4) ?hd (xs:=([0,0,0,1,1,2]:List Int)) (inner:=[.int .i64 0,.int .i64 0,.int .i64 0,.int .i64 1,.int .i64 1,.int .i64 2]) (ok:=fun _=>True) (okp:=fun _=>True) ?hr ?hp (fun _ hk=>hk) trivial (Below.refl _ _) (Nat.le_refl _) (by simp) ?_;(case hd=>rfl);(case hg=>rfl);(case hr=>exact Yc);(case hp=>exact Yj);intro v184 w21 ho22 hb hg_ hnew_;clear hg_ hnew_;(first|rw [← Ny183.out] at ho22|(simp only [Int.reduceToNat] at ho22;rw [← Ny183.out] at ho22));have HO185:=Aside0.mk (Kd.R_lower ho22 (keep_size (w:=w) (g:=g) (row:=none) kB));replace BK182:=bb BK182 hb;replace HK:=kT w g hb;replace HB:=bS hb;replace HI0:=iB60 hb;clear hb ho22;obtain ⟨Ao23,co23,eo23⟩:=Kd.R_slice HO185.out;subst eo23)|(refine xB 3 #[.slice none 0 0] 26 ?_;intro gb186 hg w24 hbox hb;replace HO185:=rB HO185 hb;replace HB:=bS hb;have BK186:=Aside0.mk (hbox);have GW186:=gY w gb186;have GE186:=gX HW0 GW186;replace HK:=kT w g hb;have NB182_186:=nl BK182 gb182 gb186;have NB186_182:=nr NB182_186;replace BK182:=bb BK182 hb;have NB0_186:=iN60 g gb186;have NB186_0:=nr NB0_186;replace HI0:=iB60 hb;clear hb hbox hg;have hnb25:=NB186_182.out;have hnc25:=NB182_186.out;have hnb26:=NB186_0.out;have hnc26:=NB0_186.out;have hcz27_0:=qc1_0 BK186;have hfz27_0:=fz BK186 0)|((with_reducible refine gate_callee (f:=73) rfl ?_);refine goesL_ (some 7) rfl rfl Try.func73 (by kernel_rfl) rfl #[.pointer (some ⟨g,0,none⟩),.int .i64 40] rfl Ya ?_;(with_reducible refine (spec_l1Cur_pick.calls g s0_0 s0_1 s0_2 40 t187 t188 t189 w0 _ ?side1 ?side2 A2.out).mono ?_);(case side1=>exact iIsS60);(case side2=>exact bH);rintro e w28 ⟨rfl,hi,hb,hk⟩;refine ⟨_,rfl,?_⟩;replace BK182:=kU (o:=.cells #[.slice none 0 0] 26 (0,0)) hk NB182_0 Yt;replace HO185:=Aside0.mk (Kd.R_mono (Kd.R_keep (IsS60.apart (show IsS60 w0 _ g s0_0 s0_1 s0_2 from iIsS60) (by (with_reducible repeat (first|apply Kd.R_alloc|apply Kd.R_drewN|apply Kd.R_drew));exact (Kd.R_mono (Kd.R_far (p:=⟨gb186,0,none⟩) (Kd.R_types HO185.out BK186.out (by decide)) (fun _ hk=>hk.2) (.slice Ao23 y183.length co23)) (fun _ h_=>h_.1))) (by decide)) hk (fun _ h=>h.2)) (fun _ h=>h.1));replace BK186:=kU (o:=.cells #[.slice Ao23 y183.length co23] 26 (0,0)) hk NB186_0 Yq;replace HK:=Aside0.mk (KeepBut.trans kB hk (.inl rfl));replace HB:=Aside0.mk (hb);replace HI0:=Aside0.mk (hi);(try clear hb);(try clear hb2);(try clear hk);(try clear hi);have hcz29_0:=qc1_0 BK186;have hfz29_0:=fz BK186 0;have hnb30:=NB182_0.out;have hnc30:=NB0_182.out;have hcz31_0:=qc1_0 BK182;have hfz31_0:=fz BK182 0))
   refine bodyPost_ret (results_cell_row rfl _ _ gb182 26 #[.slice none 0 0] (0,0) _ rfl Yp Try.underlying26 rfl (by kernel_rfl)) rfl ?_
   exact ⟨_,Yb,Yi,iIsS60,bH,kB⟩
  ·rw [if_neg c19] at H
   have c19b0:(t187 == 1) = false:=beq_eq_false_iff_ne.mpr c19
   have c19b1:(t187 != 1) = true:=bne_iff_ne.mpr c19
   by_cases c32:t187 = 2
   ·rw [if_pos c32] at H
    have c32b0:(t187 == 2) = true:=beq_iff_eq.mpr c32
    have c32b1:(t187 != 2) = false:=bne_eq_false_iff_eq.mpr c32
    clear c32
    obtain ⟨y193,hy193⟩:∃ y_:List Int,y_ = (([1,0]:List Int)):=⟨_,rfl⟩
    replace H:(some (y193,t188,t189)) = some (r1,r2,r3):=by first|(rw [hy193];with_reducible exact H)|(have H2_:=(Option.bind_some _ _).symm.trans H;rw [hy193];with_reducible exact H2_)|(have H2_:=(Option.bind_some _ _).symm.trans H;with_reducible exact H2_)|with_reducible exact H|(rw [hy193];exact H)|exact H
    have Ny193:=Aside0.mk hy193
    clear hy193
    simp only [Option.some.injEq,Prod.mk.injEq] at H
    obtain ⟨rfl,rfl,rfl⟩:=H
    go_enter Try.func35,Try.ntmps35
    go_wp2_with (first|(refine xB 2 #[.slice none 0 0] 26 ?_;intro gb182 hg w33 hbox hb;replace HB:=bS hb;have BK182:=Aside0.mk (hbox);have GW182:=gY w gb182;have GE182:=gX HW0 GW182;replace HK:=kT w g hb;have NB0_182:=iN60 g gb182;have NB182_0:=nr NB0_182;replace HI0:=iB60 hb;clear hb hbox hg)|((with_reducible refine gate_dst (N:=4) rfl ?_);refine Kd.R_lit (Kd.int .i64) _ 3 ?hg (N:=4) ?hd (xs:=([0,0,0,1,1,2]:List Int)) (inner:=[.int .i64 0,.int .i64 0,.int .i64 0,.int .i64 1,.int .i64 1,.int .i64 2]) (ok:=fun _=>True) (okp:=fun _=>True) ?hr ?hp (fun _ hk=>hk) trivial (Below.refl _ _) (Nat.le_refl _) (by simp) ?_;(case hd=>rfl);(case hg=>rfl);(case hr=>exact Yc);(case hp=>exact Yj);intro v184 w34 ho35 hb hg_ hnew_;clear hg_ hnew_;(first|rw [← Ny183.out] at ho35|(simp only [Int.reduceToNat] at ho35;rw [← Ny183.out] at ho35));have HO185:=Aside0.mk (Kd.R_lower ho35 (keep_size (w:=w) (g:=g) (row:=none) kB));replace BK182:=bb BK182 hb;replace HK:=kT w g hb;replace HB:=bS hb;replace HI0:=iB60 hb;clear hb ho35;obtain ⟨Ao36,co36,eo36⟩:=Kd.R_slice HO185.out;subst eo36)|(refine xB 3 #[.slice none 0 0] 26 ?_;intro gb186 hg w37 hbox hb;replace HO185:=rB HO185 hb;replace HB:=bS hb;have BK186:=Aside0.mk (hbox);have GW186:=gY w gb186;have GE186:=gX HW0 GW186;replace HK:=kT w g hb;have NB182_186:=nl BK182 gb182 gb186;have NB186_182:=nr NB182_186;replace BK182:=bb BK182 hb;have NB0_186:=iN60 g gb186;have NB186_0:=nr NB0_186;replace HI0:=iB60 hb;clear hb hbox hg;have hnb38:=NB186_182.out;have hnc38:=NB182_186.out;have hnb39:=NB186_0.out;have hnc39:=NB0_186.out;have hcz40_0:=qc1_0 BK186;have hfz40_0:=fz BK186 0)|((with_reducible refine gate_callee (f:=73) rfl ?_);refine goesL_ (some 7) rfl rfl Try.func73 (by kernel_rfl) rfl #[.pointer (some ⟨g,0,none⟩),.int .i64 40] rfl Ya ?_;(with_reducible refine (spec_l1Cur_pick.calls g s0_0 s0_1 s0_2 40 t187 t188 t189 w0 _ ?side1 ?side2 A2.out).mono ?_);(case side1=>exact iIsS60);(case side2=>exact bH);rintro e w41 ⟨rfl,hi,hb,hk⟩;refine ⟨_,rfl,?_⟩;replace BK182:=kU (o:=.cells #[.slice none 0 0] 26 (0,0)) hk NB182_0 Yt;replace HO185:=Aside0.mk (Kd.R_mono (Kd.R_keep (IsS60.apart (show IsS60 w0 _ g s0_0 s0_1 s0_2 from iIsS60) (by (with_reducible repeat (first|apply Kd.R_alloc|apply Kd.R_drewN|apply Kd.R_drew));exact (Kd.R_mono (Kd.R_far (p:=⟨gb186,0,none⟩) (Kd.R_types HO185.out BK186.out (by decide)) (fun _ hk=>hk.2) (.slice Ao36 y183.length co36)) (fun _ h_=>h_.1))) (by decide)) hk (fun _ h=>h.2)) (fun _ h=>h.1));replace BK186:=kU (o:=.cells #[.slice Ao36 y183.length co36] 26 (0,0)) hk NB186_0 Yq;replace HK:=Aside0.mk (KeepBut.trans kB hk (.inl rfl));replace HB:=Aside0.mk (hb);replace HI0:=Aside0.mk (hi);(try clear hb);(try clear hb2);(try clear hk);(try clear hi))|((with_reducible refine gate_dst (N:=17) rfl ?_);refine Kd.R_lit (Kd.int .i64) _ 3 ?hg (N:=17) ?hd (xs:=([1,0]:List Int)) (inner:=[.int .i64 1,.int .i64 0]) (ok:=fun _=>True) (okp:=fun _=>True) ?hr ?hp (fun _ hk=>hk) trivial (Below.refl _ _) (Nat.le_refl _) (by simp) ?_;(case hd=>rfl);(case hg=>rfl);(case hr=>exact Yc);(case hp=>exact (Reps.one (show Kd.M (Kd.int .i64) _ _ _ 1 [.int .i64 1] from rfl) (Reps.one (show Kd.M (Kd.int .i64) _ _ _ 0 [.int .i64 0] from rfl) (Reps.none _ _))));intro v194 w42 ho43 hb hg_ hnew_;clear hg_ hnew_;(first|rw [← Ny193.out] at ho43|(simp only [Int.reduceToNat] at ho43;rw [← Ny193.out] at ho43));have HO195:=Aside0.mk (Kd.R_lower (Kd.R_new' ho43 (Kd.R_lt (rR HO185))) (keep_size (w:=w) (g:=g) (row:=none) kB));replace HO185:=Aside0.mk (Kd.R_elder' (rR HO185) (Kd.R_base ho43) hb);replace BK182:=bb BK182 hb;replace BK186:=bb BK186 hb;replace HK:=kT w g hb;replace HB:=bS hb;replace HI0:=iB60 hb;clear hb ho43;obtain ⟨Ao44,co44,eo44⟩:=Kd.R_slice HO195.out;subst eo44;have hcz45_0:=qc1_0 BK186;have hfz45_0:=fz BK186 0;have hnb46:=NB182_0.out;have hnc46:=NB0_182.out;have hcz47_0:=qc1_0 BK182;have hfz47_0:=fz BK182 0))
    refine bodyPost_ret (results_cell_row rfl _ _ gb182 26 #[.slice Ao44 y193.length co44] (0,0) _ rfl Yp Try.underlying26 rfl (by kernel_rfl)) rfl ?_
    exact ⟨_,Yb,by (with_reducible repeat (first|apply Kd.R_alloc|apply Kd.R_drewN|apply Kd.R_drew));exact Kd.R_mono (Kd.R_far (p:=⟨gb182,0,none⟩) (Kd.R_far (p:=⟨gb186,0,none⟩) (Kd.R_types (Kd.R_types HO195.out BK186.out (by decide)) BK182.out (by decide)) (fun _ hk=>hk.1.2) (.slice Ao44 y193.length co44)) (fun _ hk=>hk.2) (.slice Ao44 y193.length co44)) (fun _ hk=>trivial),iIsS60,bH,kB⟩
   ·rw [if_neg c32] at H
    have c32b0:(t187 == 2) = false:=beq_eq_false_iff_ne.mpr c32
    have c32b1:(t187 != 2) = true:=bne_iff_ne.mpr c32
    simp only [Option.some.injEq,Prod.mk.injEq] at H
    obtain ⟨rfl,rfl,rfl⟩:=H
    go_enter Try.func35,Try.ntmps35
    go_wp2_with (first|(refine xB 2 #[.slice none 0 0] 26 ?_;intro gb182 hg w48 hbox hb;replace HB:=bS hb;have BK182:=Aside0.mk (hbox);have GW182:=gY w gb182;have GE182:=gX HW0 GW182;replace HK:=kT w g hb;have NB0_182:=iN60 g gb182;have NB182_0:=nr NB0_182;replace HI0:=iB60 hb;clear hb hbox hg)|((with_reducible refine gate_dst (N:=4) rfl ?_);refine Kd.R_lit (Kd.int .i64) _ 3 ?hg (N:=4) ?hd (xs:=([0,0,0,1,1,2]:List Int)) (inner:=[.int .i64 0,.int .i64 0,.int .i64 0,.int .i64 1,.int .i64 1,.int .i64 2]) (ok:=fun _=>True) (okp:=fun _=>True) ?hr ?hp (fun _ hk=>hk) trivial (Below.refl _ _) (Nat.le_refl _) (by simp) ?_;(case hd=>rfl);(case hg=>rfl);(case hr=>exact Yc);(case hp=>exact Yj);intro v184 w49 ho50 hb hg_ hnew_;clear hg_ hnew_;(first|rw [← Ny183.out] at ho50|(simp only [Int.reduceToNat] at ho50;rw [← Ny183.out] at ho50));have HO185:=Aside0.mk (Kd.R_lower ho50 (keep_size (w:=w) (g:=g) (row:=none) kB));replace BK182:=bb BK182 hb;replace HK:=kT w g hb;replace HB:=bS hb;replace HI0:=iB60 hb;clear hb ho50;obtain ⟨Ao51,co51,eo51⟩:=Kd.R_slice HO185.out;subst eo51)|(refine xB 3 #[.slice none 0 0] 26 ?_;intro gb186 hg w52 hbox hb;replace HO185:=rB HO185 hb;replace HB:=bS hb;have BK186:=Aside0.mk (hbox);have GW186:=gY w gb186;have GE186:=gX HW0 GW186;replace HK:=kT w g hb;have NB182_186:=nl BK182 gb182 gb186;have NB186_182:=nr NB182_186;replace BK182:=bb BK182 hb;have NB0_186:=iN60 g gb186;have NB186_0:=nr NB0_186;replace HI0:=iB60 hb;clear hb hbox hg;have hnb53:=NB186_182.out;have hnc53:=NB182_186.out;have hnb54:=NB186_0.out;have hnc54:=NB0_186.out;have hcz55_0:=qc1_0 BK186;have hfz55_0:=fz BK186 0)|((with_reducible refine gate_callee (f:=73) rfl ?_);refine goesL_ (some 7) rfl rfl Try.func73 (by kernel_rfl) rfl #[.pointer (some ⟨g,0,none⟩),.int .i64 40] rfl Ya ?_;(with_reducible refine (spec_l1Cur_pick.calls g s0_0 s0_1 s0_2 40 t187 t188 t189 w0 _ ?side1 ?side2 A2.out).mono ?_);(case side1=>exact iIsS60);(case side2=>exact bH);rintro e w56 ⟨rfl,hi,hb,hk⟩;refine ⟨_,rfl,?_⟩;replace BK182:=kU (o:=.cells #[.slice none 0 0] 26 (0,0)) hk NB182_0 Yt;replace HO185:=Aside0.mk (Kd.R_mono (Kd.R_keep (IsS60.apart (show IsS60 w0 _ g s0_0 s0_1 s0_2 from iIsS60) (by (with_reducible repeat (first|apply Kd.R_alloc|apply Kd.R_drewN|apply Kd.R_drew));exact (Kd.R_mono (Kd.R_far (p:=⟨gb186,0,none⟩) (Kd.R_types HO185.out BK186.out (by decide)) (fun _ hk=>hk.2) (.slice Ao51 y183.length co51)) (fun _ h_=>h_.1))) (by decide)) hk (fun _ h=>h.2)) (fun _ h=>h.1));replace BK186:=kU (o:=.cells #[.slice Ao51 y183.length co51] 26 (0,0)) hk NB186_0 Yq;replace HK:=Aside0.mk (KeepBut.trans kB hk (.inl rfl));replace HB:=Aside0.mk (hb);replace HI0:=Aside0.mk (hi);(try clear hb);(try clear hb2);(try clear hk);(try clear hi);have hcz57_0:=qc1_0 BK186;have hfz57_0:=fz BK186 0;have hnb58:=NB182_0.out;have hnc58:=NB0_182.out;have hcz59_0:=qc1_0 BK182;have hfz59_0:=fz BK182 0))
    refine bodyPost_ret (results_cell_row rfl _ _ gb182 26 #[.slice Ao51 y183.length co51] (0,0) _ rfl (by (with_reducible repeat (first|refine blk_drewN ?_ _|refine blk_drew ?_|refine blk_alloc ?_ _));refine blk_put (cs:=#[.slice none 0 0]) ?_ 0 _ rfl;(with_reducible repeat (first|refine blk_drewN ?_ _|refine blk_drew ?_|refine blk_alloc ?_ _));exact BK182.out) Try.underlying26 rfl (by kernel_rfl)) rfl ?_
    exact ⟨_,Yb,by (with_reducible repeat (first|apply Kd.R_alloc|apply Kd.R_drewN|apply Kd.R_drew));exact Kd.R_mono (Kd.R_far (p:=⟨gb182,0,none⟩) (Kd.R_types HO185.out BK182.out (by decide)) (fun _ hk=>hk.2) (.slice Ao51 y183.length co51)) (fun _ hk=>trivial),iIsS60,bH,kB⟩

/-! ### spec_l1Cur_one: function 75 -/
def spec_l1Cur_one.f (s0_0:List Int) (s0_1:Int) (s0_2:Int) (a1:Int):Option (Bool × Int × Int):=(spec_l1Cur_pick.f s0_0 s0_1 s0_2 a1).bind fun bt196=>(some ((bt196.1 == 0),bt196.2.1,bt196.2.2))
set_option maxHeartbeats 8000000 in
set_option maxRecDepth 100000 in
theorem spec_l1Cur_one.calls (g:Nat) (s0_0:List Int) (s0_1:Int) (s0_2:Int) (a1:Int) (r1:Bool) (r2:Int) (r3:Int) (w0 w:World) (hI:IsS60 w0 w g s0_0 s0_1 s0_2) (hB:Below w0.heap.size w0 w) (h:spec_l1Cur_one.f s0_0 s0_1 s0_2 a1 = some (r1,r2,r3)) :
  Calls Try.prog 75 #[.pointer (some ⟨g,0,none⟩),.int .i64 a1] w fun e w'=>e = .returned (.bool r1) ∧ IsS60 w0 w' g s0_0 r2 r3 ∧ Below w0.heap.size w0 w' ∧ KeepBut w w' g none:=by
 have HI0:=Aside0.mk hI
 have HK:=Aside0.mk (KeepBut.refl w g none)
 have HL:=Aside0.mk hB.size
 clear hI
 have HW0:=Aside0.mk hB.size
 have HB:=Aside0.mk hB
 clear hB
 have H:((spec_l1Cur_pick.f s0_0 s0_1 s0_2 a1).bind fun bt196=>(some ((bt196.1 == 0),bt196.2.1,bt196.2.2))) = some (r1,r2,r3):=h
 clear h
 replace H:=bI H;obtain ⟨⟨t196,t197,t198⟩,A3,H⟩:=H
 dsimp only at H
 simp only [Option.some.injEq,Prod.mk.injEq] at H
 obtain ⟨rfl,rfl,rfl⟩:=H
 go_enter Try.func75,Try.ntmps75
 go_wp2_with (first|((with_reducible refine gate_callee (f:=73) rfl ?_);refine goesL_ (some 7) rfl rfl Try.func73 (by kernel_rfl) rfl #[.pointer (some ⟨g,0,none⟩),.int .i64 a1] rfl Ya ?_;(with_reducible refine (spec_l1Cur_pick.calls g s0_0 s0_1 s0_2 a1 t196 t197 t198 w0 _ ?side1 ?side2 A3.out).mono ?_);(case side1=>exact iIsS60);(case side2=>exact bH);rintro e w4 ⟨rfl,hi,hb,hk⟩;refine ⟨_,rfl,?_⟩;replace HK:=Aside0.mk (KeepBut.trans kB hk (.inl rfl));replace HB:=Aside0.mk (hb);replace HI0:=Aside0.mk (hi);clear hb hk hi))
 go_ret
 exact ⟨Yb,iIsS60,bH,kB⟩

/-! ### spec_l1Cur_among: function 76 -/
def spec_l1Cur_among.f (s0_0:List Int) (s0_1:Int) (s0_2:Int) (l1:List Int):Option (Int × Int × Int):=(spec_l1Cur_pick.f s0_0 s0_1 s0_2 (l1.length:Int)).bind fun bt199=>(if 0 ≤ bt199.1 then (if bt199.1 < (l1.length:Int) then (some (rd l1 bt199.1,bt199.2.1,bt199.2.2)) else (none)) else (none))
set_option maxHeartbeats 8000000 in
set_option maxRecDepth 100000 in
theorem spec_l1Cur_among.calls (g:Nat) (s0_0:List Int) (s0_1:Int) (s0_2:Int) (A1:Option Addr) (c1:Nat) (l1:List Int) (r1:Int) (r2:Int) (r3:Int) (w0 w:World) (hI:IsS60 w0 w g s0_0 s0_1 s0_2) (hB:Below w0.heap.size w0 w) (hr1:Kd.C (Kd.int .i64) w A1 l1.length l1) (hc1:l1.length ≤ c1) (hf1:∀ ad,A1 = some ad → 0 < l1.length → ad.block ≠ g) (h:spec_l1Cur_among.f s0_0 s0_1 s0_2 l1 = some (r1,r2,r3)) :
  Calls Try.prog 76 #[.pointer (some ⟨g,0,none⟩),.slice A1 l1.length c1] w fun e w'=>e = .returned (.int .i64 r1) ∧ IsS60 w0 w' g s0_0 r2 r3 ∧ Below w0.heap.size w0 w' ∧ KeepBut w w' g none:=by
 have HR1:=Aside0.mk hr1
 have HC1:=Aside0.mk hc1
 clear hr1 hc1
 have HI0:=Aside0.mk hI
 have HK:=Aside0.mk (KeepBut.refl w g none)
 have HL:=Aside0.mk hB.size
 clear hI
 have HW0:=Aside0.mk hB.size
 have HB:=Aside0.mk hB
 clear hB
 have H:((spec_l1Cur_pick.f s0_0 s0_1 s0_2 (l1.length:Int)).bind fun bt199=>(if 0 ≤ bt199.1 then (if bt199.1 < (l1.length:Int) then (some (rd l1 bt199.1,bt199.2.1,bt199.2.2)) else (none)) else (none))) = some (r1,r2,r3):=h
 clear h
 replace H:=bI H;obtain ⟨⟨t199,t200,t201⟩,A3,H⟩:=H
 dsimp only at H
 replace H:=gI H;obtain ⟨c4b0,H⟩:=H
 replace H:=gI H;obtain ⟨c5b0,H⟩:=H
 simp only [Option.some.injEq,Prod.mk.injEq] at H
 obtain ⟨rfl,rfl,rfl⟩:=H
 go_enter Try.func76,Try.ntmps76
 go_wp2_with (first|((with_reducible refine gate_callee (f:=73) rfl ?_);refine goesL_ (some 9) rfl rfl Try.func73 (by kernel_rfl) rfl #[.pointer (some ⟨g,0,none⟩),.int .i64 (l1.length:Int)] rfl Ya ?_;(with_reducible refine (spec_l1Cur_pick.calls g s0_0 s0_1 s0_2 (l1.length:Int) t199 t200 t201 w0 _ ?side1 ?side2 A3.out).mono ?_);(case side1=>exact iIsS60);(case side2=>exact bH);rintro e w6 ⟨rfl,hi,hb,hk⟩;refine ⟨_,rfl,?_⟩;replace HK:=Aside0.mk (KeepBut.trans kB hk (.inl rfl));replace HB:=Aside0.mk (hb);replace HI0:=Aside0.mk (hi);(try clear hb);(try clear hb2);(try clear hk);(try clear hi);have p202:0 ≤ (t199:Int):=oD;have q202:t199 < (l1.length:Int):=oD;obtain ⟨ad202,e202,hx202_0⟩:=Kd.at_int HR1.out t199 p202 q202;cases e202;replace hx202_0:=keep_cell HK.out hx202_0 (by first|(rw [add_block];exact hf1 _ rfl (by omega))|exact hf1 _ rfl (by omega)|exact hf1 ad202 rfl (by omega));replace p202:=eq_true p202;replace q202:=eq_true q202))
 go_ret
 exact ⟨Yb,iIsS60,bH,kB⟩

end Go.Proofs.Ytmgkflkfoccgkaa.QFnTidied
