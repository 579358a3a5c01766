-- Written by this session's own program (wip/x/xprint.py, over the kit's printer); Lean checks it.
import Derived.Test.YtlgnanbnicmdaaaQFnExactIsRedundantx0
import Derived.Test.YtlgnanbnicmdaaaQFnExactIsRedundantx2
import Derived.Test.YtlgnanbnicmdaaaQFnExactIsRedundantx8
import Derived.Test.YtlgnanbnicmdaaaQFnExactIsRedundantx9
import Derived.Test.YtlgnanbnicmdaaaQFnExactIsRedundantx10
namespace Go.Proofs.Ytlgnanbnicmdaaa.QFnExactIsRedundant
open Go.RowKit Go.Proofs.YtlgnanbnicmdaaaW.PrintWords Go.Proofs.YtlgnanbnicmdaaaW.PrintLast Go.Proofs.YtlgnanbnicmdaaaW.PrintMore
attribute [local go_sem] max2_int min2_int max_two min_two max_three min_three max_four min_four   -- for this text's walks alone
set_option linter.unusedVariables false
set_option linter.unusedSimpArgs false

/-! ### impl_Sign_isRedundant_1: function 105 -/
def impl_Sign_isRedundant_1.f (k:Nat) (l0:List (S72)) (l1_0:List Int) (l2:List (S72)):Option (Bool):=(impl_Sign_subsumes.f k l1_0 l0 l2).bind fun bt283=>(some bt283.2)
theorem impl_Sign_isRedundant_1.mono:∀ a0 a1 a2 k,LeO (impl_Sign_isRedundant_1.f k a0 a1 a2) (impl_Sign_isRedundant_1.f (k + 1) a0 a1 a2):=by
 intro a0 a1 a2 k
 unfold impl_Sign_isRedundant_1.f
 repeat' first
   | (with_reducible exact impl_Sign_subsumes.mono _ _ _ _)
   | (with_reducible exact LeO.refl _)
   | (with_reducible exact LeO.none _)
   | (with_reducible refine LeO.ite ?_ ?_)
   | (with_reducible refine LeO.bind ?_ (fun _=>?_))
   | exact impl_Sign_subsumes.mono _ _ _ _
   | exact LeO.none _
   | refine LeO.ite ?_ ?_
   | refine LeO.bind ?_ (fun _=>?_)
set_option maxHeartbeats 8000000 in
set_option maxRecDepth 100000 in
theorem impl_Sign_isRedundant_1.calls (k:Nat) (A0:Option Addr) (c0:Nat) (l0:List (S72)) (g1_:Nat) (A1_0:Option Addr) (c1_0:Nat) (l1_0:List Int) (g2_:Nat) (A2:Option Addr) (c2:Nat) (l2:List (S72)) (r:Bool) (w:World) (hr0:Kd.C k72 w A0 l0.length l0) (hc0:l0.length ≤ c0) (hr1_0:Kd.C (Kd.int .i64) w A1_0 l1_0.length l1_0) (hc1_0:l1_0.length ≤ c1_0) (hr2:Kd.C k72 w A2 l2.length l2) (hc2:l2.length ≤ c2) (hg1:w.heap[g1_]? = some (.cells #[.slice A1_0 l1_0.length c1_0] 30 (0,0))) (hg2:w.heap[g2_]? = some (.cells #[.slice A2 l2.length c2] 32 (0,0))) (h:impl_Sign_isRedundant_1.f k l0 l1_0 l2 = some r) :
  Calls Try.prog 105 #[.slice A0 l0.length c0,.pointer (some ⟨g1_,0,none⟩),.pointer (some ⟨g2_,0,none⟩)] w fun e w'=>e = .returned (.bool r) ∧ Below w.heap.size w w':=by
 have hu30:=Try.underlying30
 have HR0:=Aside0.mk hr0
 have HC0:=Aside0.mk hc0
 clear hr0 hc0
 have HR1_0:=Aside0.mk hr1_0
 have HC1_0:=Aside0.mk hc1_0
 clear hr1_0 hc1_0
 have HR2:=Aside0.mk hr2
 have HC2:=Aside0.mk hc2
 clear hr2 hc2
 have BK1:=Aside0.mk hg1
 have BK2:=Aside0.mk hg2
 have NB1_2:=Aside0.mk (show g1_ ≠ g2_ from fun e_=>by have h_:=hg1;rw [e_,hg2] at h_;simp at h_)
 have NB2_1:=Aside0.mk (show g2_ ≠ g1_ from fun e_=>by have h_:=hg2;rw [e_,hg1] at h_;simp at h_)
 clear hg1
 clear hg2
 have HB:=Aside0.mk (Below.refl w.heap.size w)
 have H:((impl_Sign_subsumes.f k l1_0 l0 l2).bind fun bt283=>(some bt283.2)) = some r:=h
 clear h
 replace H:=Option.bind_eq_some_iff.mp H
 obtain ⟨⟨t283,t286⟩,A40,H⟩:=H
 replace H:(some t286) = some r:=H
 have A4:=Aside0.mk A40
 clear A40
 obtain rfl:=Option.some.inj H
 have hnb5:=NB1_2.out
 have hnc5:=NB2_1.out
 have hcz6_0:w.cell? ⟨g1_,0,none⟩ = some (.slice A1_0 l1_0.length c1_0):=(blk_cell BK1.out 0).trans rfl
 have hfz6_0:=blk_frozen BK1.out 0
 have hcz7_0:w.cell? ⟨g2_,0,none⟩ = some (.slice A2 l2.length c2):=(blk_cell BK2.out 0).trans rfl
 have hfz7_0:=blk_frozen BK2.out 0
 go_enter Try.func105,Try.ntmps105
 go_wp2_with (first|((with_reducible refine gate_callee (f:=70) rfl ?_);refine goesL_ (some 11) rfl rfl Try.func70 (by kernel_rfl) rfl #[.agg #[.slice A1_0 l1_0.length c1_0],.slice A0 l0.length c0,.slice A2 l2.length c2] rfl (by (try simp only [List.map_toArray,List.map_cons,List.map_nil]);first|done|rfl|(simp only [List.length_drop,List.length_take];rfl)) ?_;(with_reducible refine (impl_Sign_subsumes.calls k _ _ l1_0 _ _ l0 _ _ l2 t283 t286 _ ?side1 ?side2 ?side3 ?side4 ?side5 ?side6 A4.out).mono ?_);(case side1=>repeat (first|exact HR1_0.out|(with_reducible refine Kd.C_alloc ?_ _)|(with_reducible refine Kd.C_drewN ?_ _)|(with_reducible refine Kd.C_drew ?_)));(case side2=>exact HC1_0.out);(case side3=>repeat (first|exact HR0.out|(with_reducible refine Kd.C_alloc ?_ _)|(with_reducible refine Kd.C_drewN ?_ _)|(with_reducible refine Kd.C_drew ?_)));(case side4=>exact HC0.out);(case side5=>repeat (first|exact HR2.out|(with_reducible refine Kd.C_alloc ?_ _)|(with_reducible refine Kd.C_drewN ?_ _)|(with_reducible refine Kd.C_drew ?_)));(case side6=>exact HC2.out);rintro e w8 ⟨v284,rfl,ho0,hb⟩;refine ⟨_,rfl,?_⟩;have n0_:=Aside0.mk (Kd.S_lower ho0 (below_size (by repeat (first|(with_reducible first|exact HB.out|apply below_alloc|apply pw_below_drewN|apply below_drew1|refine below_set ?_ GE1.out|refine below_set ?_ GE2.out)|exact HB.out))));have n1_:=Aside0.mk (blk_below (g:=g1_) (o:=.cells #[.slice A1_0 l1_0.length c1_0] 30 (0,0)) (by (with_reducible repeat (first|refine blk_drewN ?_ _|refine blk_drew ?_|refine blk_alloc ?_ _));exact BK1.out) hb);have n2_:=Aside0.mk (blk_below (g:=g2_) (o:=.cells #[.slice A2 l2.length c2] 32 (0,0)) (by (with_reducible repeat (first|refine blk_drewN ?_ _|refine blk_drew ?_|refine blk_alloc ?_ _));exact BK2.out) hb);have n3_:=Aside0.mk (below_step (by repeat (first|(with_reducible first|exact HB.out|apply below_alloc|apply pw_below_drewN|apply below_drew1|refine below_set ?_ GE1.out|refine below_set ?_ GE2.out)|exact HB.out)) hb);clear BK1;clear BK2;clear HB;have HO285:=n0_;have BK1:=n1_;have BK2:=n2_;have HB:=n3_;clear n0_ n1_ n2_ n3_;(try clear hb);(try clear hb2);(try clear hk);(try clear hi);(try clear ho0)))
 go_ret
 exact ⟨by first|rfl|(simp [errW_none,errW_some] <;> rfl)|(simp [*,errW_none,errW_some] <;> rfl),by repeat (first|(with_reducible first|exact HB.out|apply below_alloc|apply pw_below_drewN|apply below_drew1|refine below_set ?_ GE1.out|refine below_set ?_ GE2.out)|exact HB.out)⟩

/-! ### slices_IndexFunc: function 103 -/
set_option maxHeartbeats 2000000 in
set_option maxRecDepth 100000 in
theorem idx103 (g:Nat) (lb:Array Value) (eg:∀ args w,(callFunc g args).run Try.prog w = .ok (.enter g args) w) (f:List (S72) → Option Bool) (A:Option Addr) (c:Nat) (l:List (List (S72))) (r:Int) (w:World) (hr:Kd.C (Kd.slice 72 k72) w A l.length l) (hc:l.length ≤ c)
    (hp:∀ (W:World) (x:List (S72)) (b:Bool) (E0:Option Addr) (e0:Nat),Below w.heap.size w W → Kd.C k72 W E0 x.length x → x.length ≤ e0 → f x = some b → Calls Try.prog g (#[.slice E0 x.length e0] ++ lb) W fun e w'=>e = .returned (.bool b) ∧ Below W.heap.size W w')
    (h:idxO f 0 l = some r) :
    Calls Try.prog 103 #[.slice A l.length c,.func (.func g) #[] lb] w fun e w'=>e = .returned (.int .i64 r) ∧ Below w.heap.size w w':=by
  have HR:=Aside0.mk hr
  have HP:=Aside0.mk hp
  have HL:=Aside0.mk hr.2.1
  have H:=Aside0.mk h
  clear hr hp h hc
  go_enter Try.func103,Try.ntmps103
  go_wp2
  go_loopg [5,8] (l.length + 1) (fun kq _ v8 w'=>∃ kk:Nat,v8 = .int .i64 kk ∧ Aside0 (kk ≤ l.length ∧ l.length + 1 ≤ kq + kk) ∧ Aside0 (idxO f kk (l.drop kk) = some r) ∧ Aside0 (Below w.heap.size w w'))
  case atStart=>exact ⟨0,rfl,⟨Nat.zero_le _,by omega⟩,⟨by simpa using H.out⟩,⟨Below.refl _ _⟩⟩
  case round =>
    obtain ⟨kk,rfl,HK,HI,HB⟩:=hrel
    have hkk:=HK.out.1
    by_cases hlt:kk < l.length
    · have hd:l.drop kk = l[kk] :: l.drop (kk + 1):=List.drop_eq_getElem_cons hlt
      have hi:=HI.out
      rw [hd] at hi
      simp only [idxO] at hi
      obtain ⟨b,hb,hi⟩:=Option.bind_eq_some_iff.1 hi
      have HW:=Aside0.mk (show wrap64 ((kk:Int) + 1) = ((kk + 1:Nat):Int) from by have:=HL.out;unfold wrap64;omega)
      have p:0 ≤ (kk:Int):=by omega
      have q:(kk:Int) < (l.length:Int):=by omega
      have q1:decide (kk < l.length) = true:=decide_eq_true hlt
      have q2:decide ((kk:Int) < (l.length:Int)) = true:=decide_eq_true q
      obtain ⟨ad,E0,e0,e1,hx0,he0,hE0⟩:=at_L6 HR.out (kk:Int) p q
      cases e1
      have hrd:rd_L6 l (kk:Int) = l[kk]:=by unfold rd_L6;simp [List.getD_eq_getElem?_getD,List.getElem?_eq_getElem hlt]
      rw [hrd] at hx0 he0 hE0
      clear hrd
      replace hx0:=(HB.out.cell (World.block_lt_of_cell? w _ hx0)).trans hx0
      replace hE0:=Kd.C_below hE0 HB.out
      rw [Int.toNat_natCast] at hx0
      generalize hy:l[kk] = y at hx0 he0 hE0 hb
      clear hy hd
      have HC:=Aside0.mk (HP.out wr y b E0 e0 HB.out hE0 he0 hb)
      clear HI hkk
      clear he0 hE0
      cases b with
      | true =>
        have HE:=Aside0.mk (Option.some.inj hi)
        clear hi hb
        go_wp2_with fail
        refine HC.out.mono ?_
        rintro e w' ⟨rfl,hb'⟩
        have HB2:=Aside0.mk (below_step HB.out hb')
        clear HB hb' HC hx0
        have HB:=HB2
        clear HB2
        go_wp2_with fail
        go_ret
        exact ⟨by rw [← HE.out];rfl,HB.out⟩
      | false =>
        have HE:=Aside0.mk hi
        clear hi hb
        go_wp2_with fail
        refine HC.out.mono ?_
        rintro e w' ⟨rfl,hb'⟩
        have HB2:=Aside0.mk (below_step HB.out hb')
        clear HB hb' HC hx0
        have HB:=HB2
        clear HB2
        go_wp2_with fail
        go_roundg (l.length - kk)
        case measure=>have:=HK.out;omega
        case rel=>exact ⟨kk + 1,by rw [HW.out],⟨by have:=HK.out;omega⟩,⟨by rw [show ((kk + 1:Nat):Int) = (kk:Int) + 1 from by omega];simpa using HE.out⟩,HB⟩
    · have HE:=Aside0.mk (show -1 = r from by have:=HI.out;rw [List.drop_eq_nil_of_le (by omega)] at this;simp [idxO] at this;exact this)
      have q1:decide (kk < l.length) = false:=decide_eq_false hlt
      have q2:decide ((kk:Int) < (l.length:Int)) = false:=decide_eq_false (by omega)
      clear HI hkk
      go_wp2
      go_ret
      exact ⟨by rw [← HE.out];rfl,HB.out⟩

/-! ### slices_ContainsFunc: function 72 -/
set_option maxHeartbeats 2000000 in
theorem any72 (g:Nat) (lb:Array Value) (eg:∀ args w,(callFunc g args).run Try.prog w = .ok (.enter g args) w) (f:List (S72) → Option Bool) (A:Option Addr) (c:Nat) (l:List (List (S72))) (r:Bool) (w:World) (hr:Kd.C (Kd.slice 72 k72) w A l.length l) (hc:l.length ≤ c)
    (hp:∀ (W:World) (x:List (S72)) (b:Bool) (E0:Option Addr) (e0:Nat),Below w.heap.size w W → Kd.C k72 W E0 x.length x → x.length ≤ e0 → f x = some b → Calls Try.prog g (#[.slice E0 x.length e0] ++ lb) W fun e w'=>e = .returned (.bool b) ∧ Below W.heap.size W w')
    (h:anyO f l = some r) :
    Calls Try.prog 72 #[.slice A l.length c,.func (.func g) #[] lb] w fun e w'=>e = .returned (.bool r) ∧ Below w.heap.size w w':=by
  obtain ⟨j,hj,hr2⟩:=idxO_any f l 0 r (Int.le_refl _) h
  have HR:=Aside0.mk hr2
  have HC:=Aside0.mk (fun W hW=>idx103 g lb eg f A c l j W (Kd.C_below hr hW) hc (fun W' x b E0 e0 h1=>hp W' x b E0 e0 (hW.trans (h1.mono hW.size))) hj)
  clear hr hp h hc hj hr2 eg
  go_enter Try.func72,Try.ntmps72
  go_wp2_with fail
  refine (HC.out _ (Below.refl _ _)).mono ?_
  rintro e w' ⟨rfl,hb⟩
  have HB:=Aside0.mk hb
  clear hb HC
  go_wp2
  go_ret
  exact ⟨by rw [HR.out];rfl,HB.out⟩

/-! ### impl_Sign_isRedundant_1_any: function 1000003 -/
def impl_Sign_isRedundant_1_any.f (k:Nat) (l0:List (List (S72))) (l1_0:List Int) (l2:List (S72)):Option (Bool):=anyO (fun x=>impl_Sign_isRedundant_1.f k x l1_0 l2) l0
theorem impl_Sign_isRedundant_1_any.mono:∀ a0 a1 a2 k,LeO (impl_Sign_isRedundant_1_any.f k a0 a1 a2) (impl_Sign_isRedundant_1_any.f (k + 1) a0 a1 a2):=by
  intro a0 a1 a2 k
  unfold impl_Sign_isRedundant_1_any.f
  exact anyO_mono (fun x=>impl_Sign_isRedundant_1.mono _ _ _ k) _
theorem impl_Sign_isRedundant_1_any.calls (k:Nat) (A0:Option Addr) (c0:Nat) (l0:List (List (S72))) (A1_0:Option Addr) (c1_0:Nat) (l1_0:List Int) (A2:Option Addr) (c2:Nat) (l2:List (S72)) (g1_:Nat) (g2_:Nat) (r:Bool) (w:World) (hr0:Kd.C (Kd.slice 72 k72) w A0 l0.length l0) (hc0:l0.length ≤ c0) (hr1_0:Kd.C (Kd.int .i64) w A1_0 l1_0.length l1_0) (hc1_0:l1_0.length ≤ c1_0) (hr2:Kd.C k72 w A2 l2.length l2) (hc2:l2.length ≤ c2) (hg1:w.heap[g1_]? = some (.cells #[.slice A1_0 l1_0.length c1_0] 30 (0,0))) (hg2:w.heap[g2_]? = some (.cells #[.slice A2 l2.length c2] 32 (0,0))) (h:impl_Sign_isRedundant_1_any.f k l0 l1_0 l2 = some r) :
    Calls Try.prog 72 #[.slice A0 l0.length c0,.func (.func 105) #[] #[.pointer (some ⟨g1_,0,none⟩),.pointer (some ⟨g2_,0,none⟩)]] w fun e w'=>e = .returned (.bool r) ∧ Below w.heap.size w w':=by
  exact any72 105 #[.pointer (some ⟨g1_,0,none⟩),.pointer (some ⟨g2_,0,none⟩)] (enters_of Try.func105 (by kernel_rfl) rfl) (fun x=>impl_Sign_isRedundant_1.f k x l1_0 l2) A0 c0 l0 r w hr0 hc0 (fun W x b E0 e0 hW hE0 he0 hx=>(impl_Sign_isRedundant_1.calls k E0 e0 x g1_ A1_0 c1_0 l1_0 g2_ A2 c2 l2 b W hE0 he0 (Kd.C_below hr1_0 hW) hc1_0 (Kd.C_below hr2 hW) hc2 ((hW.block _ (Array.getElem?_eq_some_iff.1 hg1).1).trans hg1) ((hW.block _ (Array.getElem?_eq_some_iff.1 hg2).1).trans hg2) hx).mono fun _ _ h_=>⟨h_.1,h_.2⟩) h

/-! ### impl_Sign_isRedundant: function 74 -/
def impl_Sign_isRedundant.f (k:Nat) (l0_0:List Int) (l1:List (S72)) (l2:List (List (S72))):Option (Bool):=(impl_isTautology.f k l1).bind fun t289=>(if t289 = true then (some true) else ((impl_Sign_isRedundant_1_any.f k l2 l0_0 l1).bind fun t290=>(some t290)))
theorem impl_Sign_isRedundant.mono:∀ a0 a1 a2 k,LeO (impl_Sign_isRedundant.f k a0 a1 a2) (impl_Sign_isRedundant.f (k + 1) a0 a1 a2):=by
 intro a0 a1 a2 k
 unfold impl_Sign_isRedundant.f
 repeat' first
   | (with_reducible exact impl_Sign_isRedundant_1_any.mono _ _ _ _)
   | (with_reducible exact impl_isTautology.mono _ _)
   | (with_reducible exact LeO.refl _)
   | (with_reducible exact LeO.none _)
   | (with_reducible refine LeO.ite ?_ ?_)
   | (with_reducible refine LeO.bind ?_ (fun _=>?_))
   | exact impl_Sign_isRedundant_1_any.mono _ _ _ _
   | exact impl_isTautology.mono _ _
   | exact LeO.none _
   | refine LeO.ite ?_ ?_
   | refine LeO.bind ?_ (fun _=>?_)
set_option maxHeartbeats 8000000 in
set_option maxRecDepth 100000 in
theorem impl_Sign_isRedundant.calls (k:Nat) (A0_0:Option Addr) (c0_0:Nat) (l0_0:List Int) (A1:Option Addr) (c1:Nat) (l1:List (S72)) (A2:Option Addr) (c2:Nat) (l2:List (List (S72))) (r:Bool) (w:World) (hr0_0:Kd.C (Kd.int .i64) w A0_0 l0_0.length l0_0) (hc0_0:l0_0.length ≤ c0_0) (hr1:Kd.C k72 w A1 l1.length l1) (hc1:l1.length ≤ c1) (hr2:Kd.C (Kd.slice 72 k72) w A2 l2.length l2) (hc2:l2.length ≤ c2) (h:impl_Sign_isRedundant.f k l0_0 l1 l2 = some r) :
  Calls Try.prog 74 #[.agg #[.slice A0_0 l0_0.length c0_0],.slice A1 l1.length c1,.slice A2 l2.length c2] w fun e w'=>e = .returned (.bool r) ∧ Below w.heap.size w w':=by
 have hu30:=Try.underlying30
 have HR0_0:=Aside0.mk hr0_0
 have HC0_0:=Aside0.mk hc0_0
 clear hr0_0 hc0_0
 have HR1:=Aside0.mk hr1
 have HC1:=Aside0.mk hc1
 clear hr1 hc1
 have HR2:=Aside0.mk hr2
 have HC2:=Aside0.mk hc2
 clear hr2 hc2
 have HB:=Aside0.mk (Below.refl w.heap.size w)
 have H:((impl_isTautology.f k l1).bind fun t289=>(if t289 = true then (some true) else ((impl_Sign_isRedundant_1_any.f k l2 l0_0 l1).bind fun t290=>(some t290)))) = some r:=h
 clear h
 replace H:=Option.bind_eq_some_iff.mp H
 obtain ⟨t289,A40,H⟩:=H
 replace H:(if t289 = true then (some true) else ((impl_Sign_isRedundant_1_any.f k l2 l0_0 l1).bind fun t290=>(some t290))) = some r:=H
 have A4:=Aside0.mk A40
 clear A40
 by_cases c5:t289 = true
 ·subst c5
  have H1:(some true) = some r:=by rw [if_pos rfl] at H;exact H
  clear H
  have H:=H1
  clear H1
  obtain rfl:=Option.some.inj H
  go_enter Try.func74,Try.ntmps74
  go_wp2_with (first|((with_reducible refine gate_dst (N:=3) rfl ?_);refine box_event ?hg (N:=3) ?hd (cs:=#[.slice A0_0 l0_0.length c0_0]) (t:=30) ?hr ?_;(case hd=>rfl);(case hg=>rfl);(case hr=>first|(go_simp;done)|(go_simp;rfl));intro gb287 hg w6 hbox hb;have n0_:=Aside0.mk (below_step (by repeat (first|(with_reducible first|exact HB.out|apply below_alloc|apply pw_below_drewN|apply below_drew1)|exact HB.out)) hb);have n1_:=Aside0.mk (hbox);have n2_:=Aside0.mk ((by rw [hg];exact (below_size (by repeat (first|(with_reducible first|exact HB.out|apply below_alloc|apply pw_below_drewN|apply below_drew1)|exact HB.out))):w.heap.size ≤ gb287));have n3_:=Aside0.mk ((by rw [hg];exact (below_size (by repeat (first|(with_reducible first|exact HB.out|apply below_alloc|apply pw_below_drewN|apply below_drew1)|exact HB.out))):w.heap.size ≤ gb287));clear HB;have HB:=n0_;have BK287:=n1_;have GW287:=n2_;have GE287:=n3_;clear n0_ n1_ n2_ n3_;clear hb hbox hg)|((with_reducible refine gate_dst (N:=4) rfl ?_);refine box_event ?hg (N:=4) ?hd (cs:=#[.slice A1 l1.length c1]) (t:=32) ?hr ?_;(case hd=>rfl);(case hg=>rfl);(case hr=>first|(go_simp;done)|(go_simp;rfl));intro gb288 hg w7 hbox hb;have n0_:=Aside0.mk (blk_below (g:=gb287) (o:=.cells #[.slice A0_0 l0_0.length c0_0] 30 (0,0)) (by (with_reducible repeat (first|refine blk_drewN ?_ _|refine blk_drew ?_|refine blk_alloc ?_ _));exact BK287.out) hb);have n1_:=Aside0.mk (below_step (by repeat (first|(with_reducible first|exact HB.out|apply below_alloc|apply pw_below_drewN|apply below_drew1|refine below_set ?_ GE287.out)|exact HB.out)) hb);have n2_:=Aside0.mk (hbox);have n3_:=Aside0.mk ((by rw [hg];exact (below_size (by repeat (first|(with_reducible first|exact HB.out|apply below_alloc|apply pw_below_drewN|apply below_drew1|refine below_set ?_ GE287.out)|exact HB.out))):w.heap.size ≤ gb288));have n4_:=Aside0.mk ((by rw [hg];exact (below_size (by repeat (first|(with_reducible first|exact HB.out|apply below_alloc|apply pw_below_drewN|apply below_drew1|refine below_set ?_ GE287.out)|exact HB.out))):w.heap.size ≤ gb288));have n5_:=Aside0.mk ((by rw [hg];exact Nat.ne_of_lt (blk_lt (g:=gb287) (o:=.cells #[.slice A0_0 l0_0.length c0_0] 30 (0,0)) (by (with_reducible repeat (first|refine blk_drewN ?_ _|refine blk_drew ?_|refine blk_alloc ?_ _));exact BK287.out)):gb287 ≠ gb288));have n6_:=Aside0.mk ((by rw [hg];exact Nat.ne_of_gt (blk_lt (g:=gb287) (o:=.cells #[.slice A0_0 l0_0.length c0_0] 30 (0,0)) (by (with_reducible repeat (first|refine blk_drewN ?_ _|refine blk_drew ?_|refine blk_alloc ?_ _));exact BK287.out)):gb288 ≠ gb287));clear BK287;clear HB;have BK287:=n0_;have HB:=n1_;have BK288:=n2_;have GW288:=n3_;have GE288:=n4_;have NB287_288:=n5_;have NB288_287:=n6_;clear n0_ n1_ n2_ n3_ n4_ n5_ n6_;clear hb hbox hg;have hnb8:=NB288_287.out;have hnc8:=NB287_288.out;have hcz9_0:w7.cell? ⟨gb288,0,none⟩ = some (.slice A1 l1.length c1):=(blk_cell BK288.out 0).trans rfl;have hfz9_0:=blk_frozen BK288.out 0)|((with_reducible refine gate_callee (f:=104) rfl ?_);refine goesL_ (some 8) rfl rfl Try.func104 (by kernel_rfl) rfl #[.slice A1 l1.length c1] rfl (by (try simp only [List.map_toArray,List.map_cons,List.map_nil]);first|done|rfl|(simp only [List.length_drop,List.length_take];rfl)) ?_;(with_reducible refine (impl_isTautology.calls k _ _ l1 true _ ?side1 ?side2 A4.out).mono ?_);(case side1=>repeat (first|exact (Kd.C_below HR1.out HB.out)|(with_reducible refine Kd.C_alloc ?_ _)|(with_reducible refine Kd.C_drewN ?_ _)|(with_reducible refine Kd.C_drew ?_)));(case side2=>exact HC1.out);rintro e w10 ⟨rfl,hb⟩;refine ⟨_,rfl,?_⟩;have n0_:=Aside0.mk (blk_below (g:=gb287) (o:=.cells #[.slice A0_0 l0_0.length c0_0] 30 (0,0)) (by (with_reducible repeat (first|refine blk_drewN ?_ _|refine blk_drew ?_|refine blk_alloc ?_ _));exact BK287.out) hb);have n1_:=Aside0.mk (blk_below (g:=gb288) (o:=.cells #[.slice A1 l1.length c1] 32 (0,0)) (by (with_reducible repeat (first|refine blk_drewN ?_ _|refine blk_drew ?_|refine blk_alloc ?_ _));exact BK288.out) hb);have n2_:=Aside0.mk (below_step (by repeat (first|(with_reducible first|exact HB.out|apply below_alloc|apply pw_below_drewN|apply below_drew1|refine below_set ?_ GE287.out|refine below_set ?_ GE288.out)|exact HB.out)) hb);clear BK287;clear BK288;clear HB;have BK287:=n0_;have BK288:=n1_;have HB:=n2_;clear n0_ n1_ n2_;(try clear hb);(try clear hb2);(try clear hk);(try clear hi)))
  go_ret
  exact ⟨by first|rfl|(simp [errW_none,errW_some] <;> rfl)|(simp [*,errW_none,errW_some] <;> rfl),by repeat (first|(with_reducible first|exact HB.out|apply below_alloc|apply pw_below_drewN|apply below_drew1|refine below_set ?_ GE287.out|refine below_set ?_ GE288.out)|exact HB.out)⟩
 ·replace c5:=Bool.eq_false_iff.mpr c5
  subst c5
  have H1:((impl_Sign_isRedundant_1_any.f k l2 l0_0 l1).bind fun t290=>(some t290)) = some r:=by rw [if_neg (show ¬ (false = true) by decide)] at H;exact H
  clear H
  have H:=H1
  clear H1
  replace H:=Option.bind_eq_some_iff.mp H
  obtain ⟨t290,A110,H⟩:=H
  replace H:(some t290) = some r:=H
  have A11:=Aside0.mk A110
  clear A110
  obtain rfl:=Option.some.inj H
  go_enter Try.func74,Try.ntmps74
  go_wp2_with (first|((with_reducible refine gate_dst (N:=3) rfl ?_);refine box_event ?hg (N:=3) ?hd (cs:=#[.slice A0_0 l0_0.length c0_0]) (t:=30) ?hr ?_;(case hd=>rfl);(case hg=>rfl);(case hr=>first|(go_simp;done)|(go_simp;rfl));intro gb287 hg w12 hbox hb;have n0_:=Aside0.mk (below_step (by repeat (first|(with_reducible first|exact HB.out|apply below_alloc|apply pw_below_drewN|apply below_drew1)|exact HB.out)) hb);have n1_:=Aside0.mk (hbox);have n2_:=Aside0.mk ((by rw [hg];exact (below_size (by repeat (first|(with_reducible first|exact HB.out|apply below_alloc|apply pw_below_drewN|apply below_drew1)|exact HB.out))):w.heap.size ≤ gb287));have n3_:=Aside0.mk ((by rw [hg];exact (below_size (by repeat (first|(with_reducible first|exact HB.out|apply below_alloc|apply pw_below_drewN|apply below_drew1)|exact HB.out))):w.heap.size ≤ gb287));clear HB;have HB:=n0_;have BK287:=n1_;have GW287:=n2_;have GE287:=n3_;clear n0_ n1_ n2_ n3_;clear hb hbox hg)|((with_reducible refine gate_dst (N:=4) rfl ?_);refine box_event ?hg (N:=4) ?hd (cs:=#[.slice A1 l1.length c1]) (t:=32) ?hr ?_;(case hd=>rfl);(case hg=>rfl);(case hr=>first|(go_simp;done)|(go_simp;rfl));intro gb288 hg w13 hbox hb;have n0_:=Aside0.mk (blk_below (g:=gb287) (o:=.cells #[.slice A0_0 l0_0.length c0_0] 30 (0,0)) (by (with_reducible repeat (first|refine blk_drewN ?_ _|refine blk_drew ?_|refine blk_alloc ?_ _));exact BK287.out) hb);have n1_:=Aside0.mk (below_step (by repeat (first|(with_reducible first|exact HB.out|apply below_alloc|apply pw_below_drewN|apply below_drew1|refine below_set ?_ GE287.out)|exact HB.out)) hb);have n2_:=Aside0.mk (hbox);have n3_:=Aside0.mk ((by rw [hg];exact (below_size (by repeat (first|(with_reducible first|exact HB.out|apply below_alloc|apply pw_below_drewN|apply below_drew1|refine below_set ?_ GE287.out)|exact HB.out))):w.heap.size ≤ gb288));have n4_:=Aside0.mk ((by rw [hg];exact (below_size (by repeat (first|(with_reducible first|exact HB.out|apply below_alloc|apply pw_below_drewN|apply below_drew1|refine below_set ?_ GE287.out)|exact HB.out))):w.heap.size ≤ gb288));have n5_:=Aside0.mk ((by rw [hg];exact Nat.ne_of_lt (blk_lt (g:=gb287) (o:=.cells #[.slice A0_0 l0_0.length c0_0] 30 (0,0)) (by (with_reducible repeat (first|refine blk_drewN ?_ _|refine blk_drew ?_|refine blk_alloc ?_ _));exact BK287.out)):gb287 ≠ gb288));have n6_:=Aside0.mk ((by rw [hg];exact Nat.ne_of_gt (blk_lt (g:=gb287) (o:=.cells #[.slice A0_0 l0_0.length c0_0] 30 (0,0)) (by (with_reducible repeat (first|refine blk_drewN ?_ _|refine blk_drew ?_|refine blk_alloc ?_ _));exact BK287.out)):gb288 ≠ gb287));clear BK287;clear HB;have BK287:=n0_;have HB:=n1_;have BK288:=n2_;have GW288:=n3_;have GE288:=n4_;have NB287_288:=n5_;have NB288_287:=n6_;clear n0_ n1_ n2_ n3_ n4_ n5_ n6_;clear hb hbox hg;have hnb14:=NB288_287.out;have hnc14:=NB287_288.out;have hcz15_0:w13.cell? ⟨gb288,0,none⟩ = some (.slice A1 l1.length c1):=(blk_cell BK288.out 0).trans rfl;have hfz15_0:=blk_frozen BK288.out 0)|((with_reducible refine gate_callee (f:=104) rfl ?_);refine goesL_ (some 8) rfl rfl Try.func104 (by kernel_rfl) rfl #[.slice A1 l1.length c1] rfl (by (try simp only [List.map_toArray,List.map_cons,List.map_nil]);first|done|rfl|(simp only [List.length_drop,List.length_take];rfl)) ?_;(with_reducible refine (impl_isTautology.calls k _ _ l1 false _ ?side1 ?side2 A4.out).mono ?_);(case side1=>repeat (first|exact (Kd.C_below HR1.out HB.out)|(with_reducible refine Kd.C_alloc ?_ _)|(with_reducible refine Kd.C_drewN ?_ _)|(with_reducible refine Kd.C_drew ?_)));(case side2=>exact HC1.out);rintro e w16 ⟨rfl,hb⟩;refine ⟨_,rfl,?_⟩;have n0_:=Aside0.mk (blk_below (g:=gb287) (o:=.cells #[.slice A0_0 l0_0.length c0_0] 30 (0,0)) (by (with_reducible repeat (first|refine blk_drewN ?_ _|refine blk_drew ?_|refine blk_alloc ?_ _));exact BK287.out) hb);have n1_:=Aside0.mk (blk_below (g:=gb288) (o:=.cells #[.slice A1 l1.length c1] 32 (0,0)) (by (with_reducible repeat (first|refine blk_drewN ?_ _|refine blk_drew ?_|refine blk_alloc ?_ _));exact BK288.out) hb);have n2_:=Aside0.mk (below_step (by repeat (first|(with_reducible first|exact HB.out|apply below_alloc|apply pw_below_drewN|apply below_drew1|refine below_set ?_ GE287.out|refine below_set ?_ GE288.out)|exact HB.out)) hb);clear BK287;clear BK288;clear HB;have BK287:=n0_;have BK288:=n1_;have HB:=n2_;clear n0_ n1_ n2_;(try clear hb);(try clear hb2);(try clear hk);(try clear hi))|(go_at_call 72;(with_reducible refine (impl_Sign_isRedundant_1_any.calls k _ _ l2 A0_0 c0_0 l0_0 A1 c1 l1 gb287 gb288 t290 _ ?side1 ?side2 ?side3 ?side4 ?side5 ?side6 ?side7 ?side8 A11.out).mono ?_);(case side1=>repeat (first|exact (Kd.C_below HR2.out HB.out)|(with_reducible refine Kd.C_alloc ?_ _)|(with_reducible refine Kd.C_drewN ?_ _)|(with_reducible refine Kd.C_drew ?_)));(case side2=>exact HC2.out);(case side3=>repeat (first|exact (Kd.C_below HR0_0.out HB.out)|(with_reducible refine Kd.C_alloc ?_ _)|(with_reducible refine Kd.C_drewN ?_ _)|(with_reducible refine Kd.C_drew ?_)));(case side4=>exact HC0_0.out);(case side5=>repeat (first|exact (Kd.C_below HR1.out HB.out)|(with_reducible refine Kd.C_alloc ?_ _)|(with_reducible refine Kd.C_drewN ?_ _)|(with_reducible refine Kd.C_drew ?_)));(case side6=>exact HC1.out);(case side7=>(with_reducible repeat (first|refine blk_drewN ?_ _|refine blk_drew ?_|refine blk_alloc ?_ _));exact BK287.out);(case side8=>(with_reducible repeat (first|refine blk_drewN ?_ _|refine blk_drew ?_|refine blk_alloc ?_ _));exact BK288.out);rintro e w17 ⟨rfl,hb⟩;have n0_:=Aside0.mk (blk_below (g:=gb287) (o:=.cells #[.slice A0_0 l0_0.length c0_0] 30 (0,0)) (by (with_reducible repeat (first|refine blk_drewN ?_ _|refine blk_drew ?_|refine blk_alloc ?_ _));exact BK287.out) hb);have n1_:=Aside0.mk (blk_below (g:=gb288) (o:=.cells #[.slice A1 l1.length c1] 32 (0,0)) (by (with_reducible repeat (first|refine blk_drewN ?_ _|refine blk_drew ?_|refine blk_alloc ?_ _));exact BK288.out) hb);have n2_:=Aside0.mk (below_step (by repeat (first|(with_reducible first|exact HB.out|apply below_alloc|apply pw_below_drewN|apply below_drew1|refine below_set ?_ GE287.out|refine below_set ?_ GE288.out)|exact HB.out)) hb);clear BK287;clear BK288;clear HB;have BK287:=n0_;have BK288:=n1_;have HB:=n2_;clear n0_ n1_ n2_;(try clear hb);(try clear hb2);(try clear hk);(try clear hi)))
  go_ret
  exact ⟨by first|rfl|(simp [errW_none,errW_some] <;> rfl)|(simp [*,errW_none,errW_some] <;> rfl),by repeat (first|(with_reducible first|exact HB.out|apply below_alloc|apply pw_below_drewN|apply below_drew1|refine below_set ?_ GE287.out|refine below_set ?_ GE288.out)|exact HB.out)⟩


/-! ### impl_IsRedundant_1_any: function 1000004 -/
def impl_IsRedundant_1_any.f (k:Nat) (l0:List (List (S72))) (l1_0:List Int):Option (Bool):=anyO (fun x=>impl_IsRedundant_1.f k x l1_0) l0
theorem impl_IsRedundant_1_any.mono:∀ a0 a1 k,LeO (impl_IsRedundant_1_any.f k a0 a1) (impl_IsRedundant_1_any.f (k + 1) a0 a1):=by
  intro a0 a1 k
  unfold impl_IsRedundant_1_any.f
  exact anyO_mono (fun x=>impl_IsRedundant_1.mono _ _ k) _
theorem impl_IsRedundant_1_any.calls (k:Nat) (A0:Option Addr) (c0:Nat) (l0:List (List (S72))) (A1_0:Option Addr) (c1_0:Nat) (l1_0:List Int) (g1_:Nat) (r:Bool) (w:World) (hr0:Kd.C (Kd.slice 72 k72) w A0 l0.length l0) (hc0:l0.length ≤ c0) (hr1_0:Kd.C (Kd.int .i64) w A1_0 l1_0.length l1_0) (hc1_0:l1_0.length ≤ c1_0) (hg1:w.heap[g1_]? = some (.cells #[.slice A1_0 l1_0.length c1_0] 30 (0,0))) (h:impl_IsRedundant_1_any.f k l0 l1_0 = some r) :
    Calls Try.prog 72 #[.slice A0 l0.length c0,.func (.func 73) #[] #[.pointer (some ⟨g1_,0,none⟩)]] w fun e w'=>e = .returned (.bool r) ∧ Below w.heap.size w w':=by
  exact any72 73 #[.pointer (some ⟨g1_,0,none⟩)] (enters_of Try.func73 (by kernel_rfl) rfl) (fun x=>impl_IsRedundant_1.f k x l1_0) A0 c0 l0 r w hr0 hc0 (fun W x b E0 e0 hW hE0 he0 hx=>(impl_IsRedundant_1.calls k E0 e0 x g1_ A1_0 c1_0 l1_0 b W hE0 he0 (Kd.C_below hr1_0 hW) hc1_0 ((hW.block _ (Array.getElem?_eq_some_iff.1 hg1).1).trans hg1) hx).mono fun _ _ h_=>⟨h_.1,h_.2⟩) h

/-! ### impl_IsRedundant: function 39 -/
def impl_IsRedundant.f (k:Nat) (l0_0:List Int) (l1:List (S72)) (l2:List (List (S72))):Option (Bool × Bool):=(impl_GoodClause.f k l0_0 l1).bind fun t292=>(if t292 = true then (if (l2.length:Int) > 200 then (some (false,false)) else ((impl_IsRedundant_1_any.f k l2 l0_0).bind fun t293=>(if t293 = true then (some (false,false)) else ((impl_Sign_isRedundant.f k l0_0 l1 l2).bind fun t294=>(some (t294,true)))))) else (some (false,false)))
theorem impl_IsRedundant.mono:∀ a0 a1 a2 k,LeO (impl_IsRedundant.f k a0 a1 a2) (impl_IsRedundant.f (k + 1) a0 a1 a2):=by
 intro a0 a1 a2 k
 unfold impl_IsRedundant.f
 repeat' first
   | (with_reducible exact impl_GoodClause.mono _ _ _)
   | (with_reducible exact impl_IsRedundant_1_any.mono _ _ _)
   | (with_reducible exact impl_Sign_isRedundant.mono _ _ _ _)
   | (with_reducible exact LeO.refl _)
   | (with_reducible exact LeO.none _)
   | (with_reducible refine LeO.ite ?_ ?_)
   | (with_reducible refine LeO.bind ?_ (fun _=>?_))
   | exact impl_GoodClause.mono _ _ _
   | exact impl_IsRedundant_1_any.mono _ _ _
   | exact impl_Sign_isRedundant.mono _ _ _ _
   | exact LeO.none _
   | refine LeO.ite ?_ ?_
   | refine LeO.bind ?_ (fun _=>?_)
set_option maxHeartbeats 8000000 in
set_option maxRecDepth 100000 in
theorem impl_IsRedundant.calls (k:Nat) (A0_0:Option Addr) (c0_0:Nat) (l0_0:List Int) (A1:Option Addr) (c1:Nat) (l1:List (S72)) (A2:Option Addr) (c2:Nat) (l2:List (List (S72))) (r1:Bool) (r2:Bool) (w:World) (hr0_0:Kd.C (Kd.int .i64) w A0_0 l0_0.length l0_0) (hc0_0:l0_0.length ≤ c0_0) (hr1:Kd.C k72 w A1 l1.length l1) (hc1:l1.length ≤ c1) (hr2:Kd.C (Kd.slice 72 k72) w A2 l2.length l2) (hc2:l2.length ≤ c2) (h:impl_IsRedundant.f k l0_0 l1 l2 = some (r1,r2)) :
  Calls Try.prog 39 #[.agg #[.slice A0_0 l0_0.length c0_0],.slice A1 l1.length c1,.slice A2 l2.length c2] w fun e w'=>e = .returned (.tuple #[.bool r1,.bool r2]) ∧ Below w.heap.size w w':=by
 have hu30:=Try.underlying30
 have HR0_0:=Aside0.mk hr0_0
 have HC0_0:=Aside0.mk hc0_0
 clear hr0_0 hc0_0
 have HR1:=Aside0.mk hr1
 have HC1:=Aside0.mk hc1
 clear hr1 hc1
 have HR2:=Aside0.mk hr2
 have HC2:=Aside0.mk hc2
 clear hr2 hc2
 have HB:=Aside0.mk (Below.refl w.heap.size w)
 have H:((impl_GoodClause.f k l0_0 l1).bind fun t292=>(if t292 = true then (if (l2.length:Int) > 200 then (some (false,false)) else ((impl_IsRedundant_1_any.f k l2 l0_0).bind fun t293=>(if t293 = true then (some (false,false)) else ((impl_Sign_isRedundant.f k l0_0 l1 l2).bind fun t294=>(some (t294,true)))))) else (some (false,false)))) = some (r1,r2):=h
 clear h
 replace H:=Option.bind_eq_some_iff.mp H
 obtain ⟨t292,A40,H⟩:=H
 replace H:(if t292 = true then (if (l2.length:Int) > 200 then (some (false,false)) else ((impl_IsRedundant_1_any.f k l2 l0_0).bind fun t293=>(if t293 = true then (some (false,false)) else ((impl_Sign_isRedundant.f k l0_0 l1 l2).bind fun t294=>(some (t294,true)))))) else (some (false,false))) = some (r1,r2):=H
 have A4:=Aside0.mk A40
 clear A40
 by_cases c5:t292 = true
 ·subst c5
  have H1:(if (l2.length:Int) > 200 then (some (false,false)) else ((impl_IsRedundant_1_any.f k l2 l0_0).bind fun t293=>(if t293 = true then (some (false,false)) else ((impl_Sign_isRedundant.f k l0_0 l1 l2).bind fun t294=>(some (t294,true)))))) = some (r1,r2):=by rw [if_pos rfl] at H;exact H
  clear H
  have H:=H1
  clear H1
  by_cases c6:(l2.length:Int) > 200
  ·rw [if_pos c6] at H
   have c6b0:decide (200 < (l2.length:Int)) = true:=decide_eq_true c6
   have c6b1:decide (200 < l2.length) = true:=decide_eq_true (by omega)
   clear c6
   simp only [Option.some.injEq,Prod.mk.injEq] at H
   obtain ⟨rfl,rfl⟩:=H
   go_enter Try.func39,Try.ntmps39
   go_wp2_with (first|((with_reducible refine gate_dst (N:=3) rfl ?_);(try (refine gate_guard (by rfl) ?_;dsimp only));refine box_event ?hg (N:=3) ?hd (cs:=#[.slice A0_0 l0_0.length c0_0]) (t:=30) ?hr ?_;(case hd=>rfl);(case hg=>rfl);(case hr=>first|(go_simp;done)|(go_simp;rfl));intro gb291 hg w7 hbox hb;have n0_:=Aside0.mk (below_step (by repeat (first|(with_reducible first|exact HB.out|apply below_alloc|apply pw_below_drewN|apply below_drew1)|exact HB.out)) hb);have n1_:=Aside0.mk (hbox);have n2_:=Aside0.mk ((by rw [hg];exact (below_size (by repeat (first|(with_reducible first|exact HB.out|apply below_alloc|apply pw_below_drewN|apply below_drew1)|exact HB.out))):w.heap.size ≤ gb291));have n3_:=Aside0.mk ((by rw [hg];exact (below_size (by repeat (first|(with_reducible first|exact HB.out|apply below_alloc|apply pw_below_drewN|apply below_drew1)|exact HB.out))):w.heap.size ≤ gb291));clear HB;have HB:=n0_;have BK291:=n1_;have GW291:=n2_;have GE291:=n3_;clear n0_ n1_ n2_ n3_;clear hb hbox hg;have hcz8_0:w7.cell? ⟨gb291,0,none⟩ = some (.slice A0_0 l0_0.length c0_0):=(blk_cell BK291.out 0).trans rfl;have hfz8_0:=blk_frozen BK291.out 0)|((with_reducible refine gate_callee (f:=50) rfl ?_);refine goesL_ (some 10) rfl rfl Try.func50 (by kernel_rfl) rfl #[.agg #[.slice A0_0 l0_0.length c0_0],.slice A1 l1.length c1] rfl (by (try simp only [List.map_toArray,List.map_cons,List.map_nil]);first|done|rfl|(simp only [List.length_drop,List.length_take];rfl)) ?_;(with_reducible refine (impl_GoodClause.calls k _ _ l0_0 _ _ l1 true _ ?side1 ?side2 ?side3 ?side4 A4.out).mono ?_);(case side1=>repeat (first|exact (Kd.C_below HR0_0.out HB.out)|(with_reducible refine Kd.C_alloc ?_ _)|(with_reducible refine Kd.C_drewN ?_ _)|(with_reducible refine Kd.C_drew ?_)));(case side2=>exact HC0_0.out);(case side3=>repeat (first|exact (Kd.C_below HR1.out HB.out)|(with_reducible refine Kd.C_alloc ?_ _)|(with_reducible refine Kd.C_drewN ?_ _)|(with_reducible refine Kd.C_drew ?_)));(case side4=>exact HC1.out);rintro e w9 ⟨rfl,hb⟩;refine ⟨_,rfl,?_⟩;have n0_:=Aside0.mk (blk_below (g:=gb291) (o:=.cells #[.slice A0_0 l0_0.length c0_0] 30 (0,0)) (by (with_reducible repeat (first|refine blk_drewN ?_ _|refine blk_drew ?_|refine blk_alloc ?_ _));exact BK291.out) hb);have n1_:=Aside0.mk (below_step (by repeat (first|(with_reducible first|exact HB.out|apply below_alloc|apply pw_below_drewN|apply below_drew1|refine below_set ?_ GE291.out)|exact HB.out)) hb);clear BK291;clear HB;have BK291:=n0_;have HB:=n1_;clear n0_ n1_;(try clear hb);(try clear hb2);(try clear hk);(try clear hi)))
   go_ret2
   exact ⟨by first|rfl|(simp [errW_none,errW_some] <;> rfl)|(simp [*,errW_none,errW_some] <;> rfl),by repeat (first|(with_reducible first|exact HB.out|apply below_alloc|apply pw_below_drewN|apply below_drew1|refine below_set ?_ GE291.out)|exact HB.out)⟩
  ·rw [if_neg c6] at H
   have c6b0:decide (200 < (l2.length:Int)) = false:=decide_eq_false c6
   have c6b1:decide (200 < l2.length) = false:=decide_eq_false (by omega)
   clear c6
   replace H:=Option.bind_eq_some_iff.mp H
   obtain ⟨t293,A100,H⟩:=H
   replace H:(if t293 = true then (some (false,false)) else ((impl_Sign_isRedundant.f k l0_0 l1 l2).bind fun t294=>(some (t294,true)))) = some (r1,r2):=H
   have A10:=Aside0.mk A100
   clear A100
   by_cases c11:t293 = true
   ·subst c11
    have H1:(some (false,false)) = some (r1,r2):=by rw [if_pos rfl] at H;exact H
    clear H
    have H:=H1
    clear H1
    simp only [Option.some.injEq,Prod.mk.injEq] at H
    obtain ⟨rfl,rfl⟩:=H
    go_enter Try.func39,Try.ntmps39
    go_wp2_with (first|((with_reducible refine gate_dst (N:=3) rfl ?_);(try (refine gate_guard (by rfl) ?_;dsimp only));refine box_event ?hg (N:=3) ?hd (cs:=#[.slice A0_0 l0_0.length c0_0]) (t:=30) ?hr ?_;(case hd=>rfl);(case hg=>rfl);(case hr=>first|(go_simp;done)|(go_simp;rfl));intro gb291 hg w12 hbox hb;have n0_:=Aside0.mk (below_step (by repeat (first|(with_reducible first|exact HB.out|apply below_alloc|apply pw_below_drewN|apply below_drew1)|exact HB.out)) hb);have n1_:=Aside0.mk (hbox);have n2_:=Aside0.mk ((by rw [hg];exact (below_size (by repeat (first|(with_reducible first|exact HB.out|apply below_alloc|apply pw_below_drewN|apply below_drew1)|exact HB.out))):w.heap.size ≤ gb291));have n3_:=Aside0.mk ((by rw [hg];exact (below_size (by repeat (first|(with_reducible first|exact HB.out|apply below_alloc|apply pw_below_drewN|apply below_drew1)|exact HB.out))):w.heap.size ≤ gb291));clear HB;have HB:=n0_;have BK291:=n1_;have GW291:=n2_;have GE291:=n3_;clear n0_ n1_ n2_ n3_;clear hb hbox hg;have hcz13_0:w12.cell? ⟨gb291,0,none⟩ = some (.slice A0_0 l0_0.length c0_0):=(blk_cell BK291.out 0).trans rfl;have hfz13_0:=blk_frozen BK291.out 0)|((with_reducible refine gate_callee (f:=50) rfl ?_);refine goesL_ (some 10) rfl rfl Try.func50 (by kernel_rfl) rfl #[.agg #[.slice A0_0 l0_0.length c0_0],.slice A1 l1.length c1] rfl (by (try simp only [List.map_toArray,List.map_cons,List.map_nil]);first|done|rfl|(simp only [List.length_drop,List.length_take];rfl)) ?_;(with_reducible refine (impl_GoodClause.calls k _ _ l0_0 _ _ l1 true _ ?side1 ?side2 ?side3 ?side4 A4.out).mono ?_);(case side1=>repeat (first|exact (Kd.C_below HR0_0.out HB.out)|(with_reducible refine Kd.C_alloc ?_ _)|(with_reducible refine Kd.C_drewN ?_ _)|(with_reducible refine Kd.C_drew ?_)));(case side2=>exact HC0_0.out);(case side3=>repeat (first|exact (Kd.C_below HR1.out HB.out)|(with_reducible refine Kd.C_alloc ?_ _)|(with_reducible refine Kd.C_drewN ?_ _)|(with_reducible refine Kd.C_drew ?_)));(case side4=>exact HC1.out);rintro e w14 ⟨rfl,hb⟩;refine ⟨_,rfl,?_⟩;have n0_:=Aside0.mk (blk_below (g:=gb291) (o:=.cells #[.slice A0_0 l0_0.length c0_0] 30 (0,0)) (by (with_reducible repeat (first|refine blk_drewN ?_ _|refine blk_drew ?_|refine blk_alloc ?_ _));exact BK291.out) hb);have n1_:=Aside0.mk (below_step (by repeat (first|(with_reducible first|exact HB.out|apply below_alloc|apply pw_below_drewN|apply below_drew1|refine below_set ?_ GE291.out)|exact HB.out)) hb);clear BK291;clear HB;have BK291:=n0_;have HB:=n1_;clear n0_ n1_;(try clear hb);(try clear hb2);(try clear hk);(try clear hi))|(go_at_call 72;(with_reducible refine (impl_IsRedundant_1_any.calls k _ _ l2 A0_0 c0_0 l0_0 gb291 true _ ?side1 ?side2 ?side3 ?side4 ?side5 A10.out).mono ?_);(case side1=>repeat (first|exact (Kd.C_below HR2.out HB.out)|(with_reducible refine Kd.C_alloc ?_ _)|(with_reducible refine Kd.C_drewN ?_ _)|(with_reducible refine Kd.C_drew ?_)));(case side2=>exact HC2.out);(case side3=>repeat (first|exact (Kd.C_below HR0_0.out HB.out)|(with_reducible refine Kd.C_alloc ?_ _)|(with_reducible refine Kd.C_drewN ?_ _)|(with_reducible refine Kd.C_drew ?_)));(case side4=>exact HC0_0.out);(case side5=>(with_reducible repeat (first|refine blk_drewN ?_ _|refine blk_drew ?_|refine blk_alloc ?_ _));exact BK291.out);rintro e w15 ⟨rfl,hb⟩;have n0_:=Aside0.mk (blk_below (g:=gb291) (o:=.cells #[.slice A0_0 l0_0.length c0_0] 30 (0,0)) (by (with_reducible repeat (first|refine blk_drewN ?_ _|refine blk_drew ?_|refine blk_alloc ?_ _));exact BK291.out) hb);have n1_:=Aside0.mk (below_step (by repeat (first|(with_reducible first|exact HB.out|apply below_alloc|apply pw_below_drewN|apply below_drew1|refine below_set ?_ GE291.out)|exact HB.out)) hb);clear BK291;clear HB;have BK291:=n0_;have HB:=n1_;clear n0_ n1_;(try clear hb);(try clear hb2);(try clear hk);(try clear hi)))
    go_ret2
    exact ⟨by first|rfl|(simp [errW_none,errW_some] <;> rfl)|(simp [*,errW_none,errW_some] <;> rfl),by repeat (first|(with_reducible first|exact HB.out|apply below_alloc|apply pw_below_drewN|apply below_drew1|refine below_set ?_ GE291.out)|exact HB.out)⟩
   ·replace c11:=Bool.eq_false_iff.mpr c11
    subst c11
    have H1:((impl_Sign_isRedundant.f k l0_0 l1 l2).bind fun t294=>(some (t294,true))) = some (r1,r2):=by rw [if_neg (show ¬ (false = true) by decide)] at H;exact H
    clear H
    have H:=H1
    clear H1
    replace H:=Option.bind_eq_some_iff.mp H
    obtain ⟨t294,A160,H⟩:=H
    replace H:(some (t294,true)) = some (r1,r2):=H
    have A16:=Aside0.mk A160
    clear A160
    simp only [Option.some.injEq,Prod.mk.injEq] at H
    obtain ⟨rfl,rfl⟩:=H
    go_enter Try.func39,Try.ntmps39
    go_wp2_with (first|((with_reducible refine gate_dst (N:=3) rfl ?_);(try (refine gate_guard (by rfl) ?_;dsimp only));refine box_event ?hg (N:=3) ?hd (cs:=#[.slice A0_0 l0_0.length c0_0]) (t:=30) ?hr ?_;(case hd=>rfl);(case hg=>rfl);(case hr=>first|(go_simp;done)|(go_simp;rfl));intro gb291 hg w17 hbox hb;have n0_:=Aside0.mk (below_step (by repeat (first|(with_reducible first|exact HB.out|apply below_alloc|apply pw_below_drewN|apply below_drew1)|exact HB.out)) hb);have n1_:=Aside0.mk (hbox);have n2_:=Aside0.mk ((by rw [hg];exact (below_size (by repeat (first|(with_reducible first|exact HB.out|apply below_alloc|apply pw_below_drewN|apply below_drew1)|exact HB.out))):w.heap.size ≤ gb291));have n3_:=Aside0.mk ((by rw [hg];exact (below_size (by repeat (first|(with_reducible first|exact HB.out|apply below_alloc|apply pw_below_drewN|apply below_drew1)|exact HB.out))):w.heap.size ≤ gb291));clear HB;have HB:=n0_;have BK291:=n1_;have GW291:=n2_;have GE291:=n3_;clear n0_ n1_ n2_ n3_;clear hb hbox hg;have hcz18_0:w17.cell? ⟨gb291,0,none⟩ = some (.slice A0_0 l0_0.length c0_0):=(blk_cell BK291.out 0).trans rfl;have hfz18_0:=blk_frozen BK291.out 0)|((with_reducible refine gate_callee (f:=50) rfl ?_);refine goesL_ (some 10) rfl rfl Try.func50 (by kernel_rfl) rfl #[.agg #[.slice A0_0 l0_0.length c0_0],.slice A1 l1.length c1] rfl (by (try simp only [List.map_toArray,List.map_cons,List.map_nil]);first|done|rfl|(simp only [List.length_drop,List.length_take];rfl)) ?_;(with_reducible refine (impl_GoodClause.calls k _ _ l0_0 _ _ l1 true _ ?side1 ?side2 ?side3 ?side4 A4.out).mono ?_);(case side1=>repeat (first|exact (Kd.C_below HR0_0.out HB.out)|(with_reducible refine Kd.C_alloc ?_ _)|(with_reducible refine Kd.C_drewN ?_ _)|(with_reducible refine Kd.C_drew ?_)));(case side2=>exact HC0_0.out);(case side3=>repeat (first|exact (Kd.C_below HR1.out HB.out)|(with_reducible refine Kd.C_alloc ?_ _)|(with_reducible refine Kd.C_drewN ?_ _)|(with_reducible refine Kd.C_drew ?_)));(case side4=>exact HC1.out);rintro e w19 ⟨rfl,hb⟩;refine ⟨_,rfl,?_⟩;have n0_:=Aside0.mk (blk_below (g:=gb291) (o:=.cells #[.slice A0_0 l0_0.length c0_0] 30 (0,0)) (by (with_reducible repeat (first|refine blk_drewN ?_ _|refine blk_drew ?_|refine blk_alloc ?_ _));exact BK291.out) hb);have n1_:=Aside0.mk (below_step (by repeat (first|(with_reducible first|exact HB.out|apply below_alloc|apply pw_below_drewN|apply below_drew1|refine below_set ?_ GE291.out)|exact HB.out)) hb);clear BK291;clear HB;have BK291:=n0_;have HB:=n1_;clear n0_ n1_;(try clear hb);(try clear hb2);(try clear hk);(try clear hi))|(go_at_call 72;(with_reducible refine (impl_IsRedundant_1_any.calls k _ _ l2 A0_0 c0_0 l0_0 gb291 false _ ?side1 ?side2 ?side3 ?side4 ?side5 A10.out).mono ?_);(case side1=>repeat (first|exact (Kd.C_below HR2.out HB.out)|(with_reducible refine Kd.C_alloc ?_ _)|(with_reducible refine Kd.C_drewN ?_ _)|(with_reducible refine Kd.C_drew ?_)));(case side2=>exact HC2.out);(case side3=>repeat (first|exact (Kd.C_below HR0_0.out HB.out)|(with_reducible refine Kd.C_alloc ?_ _)|(with_reducible refine Kd.C_drewN ?_ _)|(with_reducible refine Kd.C_drew ?_)));(case side4=>exact HC0_0.out);(case side5=>(with_reducible repeat (first|refine blk_drewN ?_ _|refine blk_drew ?_|refine blk_alloc ?_ _));exact BK291.out);rintro e w20 ⟨rfl,hb⟩;have n0_:=Aside0.mk (blk_below (g:=gb291) (o:=.cells #[.slice A0_0 l0_0.length c0_0] 30 (0,0)) (by (with_reducible repeat (first|refine blk_drewN ?_ _|refine blk_drew ?_|refine blk_alloc ?_ _));exact BK291.out) hb);have n1_:=Aside0.mk (below_step (by repeat (first|(with_reducible first|exact HB.out|apply below_alloc|apply pw_below_drewN|apply below_drew1|refine below_set ?_ GE291.out)|exact HB.out)) hb);clear BK291;clear HB;have BK291:=n0_;have HB:=n1_;clear n0_ n1_;(try clear hb);(try clear hb2);(try clear hk);(try clear hi);have hcz21_0:w20.cell? ⟨gb291,0,none⟩ = some (.slice A0_0 l0_0.length c0_0):=(blk_cell BK291.out 0).trans rfl;have hfz21_0:=blk_frozen BK291.out 0)|((with_reducible refine gate_callee (f:=74) rfl ?_);refine goesL_ (some 25) rfl rfl Try.func74 (by kernel_rfl) rfl #[.agg #[.slice A0_0 l0_0.length c0_0],.slice A1 l1.length c1,.slice A2 l2.length c2] rfl (by (try simp only [List.map_toArray,List.map_cons,List.map_nil]);first|done|rfl|(simp only [List.length_drop,List.length_take];rfl)) ?_;(with_reducible refine (impl_Sign_isRedundant.calls k _ _ l0_0 _ _ l1 _ _ l2 t294 _ ?side1 ?side2 ?side3 ?side4 ?side5 ?side6 A16.out).mono ?_);(case side1=>repeat (first|exact (Kd.C_below HR0_0.out HB.out)|(with_reducible refine Kd.C_alloc ?_ _)|(with_reducible refine Kd.C_drewN ?_ _)|(with_reducible refine Kd.C_drew ?_)));(case side2=>exact HC0_0.out);(case side3=>repeat (first|exact (Kd.C_below HR1.out HB.out)|(with_reducible refine Kd.C_alloc ?_ _)|(with_reducible refine Kd.C_drewN ?_ _)|(with_reducible refine Kd.C_drew ?_)));(case side4=>exact HC1.out);(case side5=>repeat (first|exact (Kd.C_below HR2.out HB.out)|(with_reducible refine Kd.C_alloc ?_ _)|(with_reducible refine Kd.C_drewN ?_ _)|(with_reducible refine Kd.C_drew ?_)));(case side6=>exact HC2.out);rintro e w22 ⟨rfl,hb⟩;refine ⟨_,rfl,?_⟩;have n0_:=Aside0.mk (blk_below (g:=gb291) (o:=.cells #[.slice A0_0 l0_0.length c0_0] 30 (0,0)) (by (with_reducible repeat (first|refine blk_drewN ?_ _|refine blk_drew ?_|refine blk_alloc ?_ _));exact BK291.out) hb);have n1_:=Aside0.mk (below_step (by repeat (first|(with_reducible first|exact HB.out|apply below_alloc|apply pw_below_drewN|apply below_drew1|refine below_set ?_ GE291.out)|exact HB.out)) hb);clear BK291;clear HB;have BK291:=n0_;have HB:=n1_;clear n0_ n1_;(try clear hb);(try clear hb2);(try clear hk);(try clear hi)))
    go_ret2
    exact ⟨by first|rfl|(simp [errW_none,errW_some] <;> rfl)|(simp [*,errW_none,errW_some] <;> rfl),by repeat (first|(with_reducible first|exact HB.out|apply below_alloc|apply pw_below_drewN|apply below_drew1|refine below_set ?_ GE291.out)|exact HB.out)⟩
 ·replace c5:=Bool.eq_false_iff.mpr c5
  subst c5
  have H1:(some (false,false)) = some (r1,r2):=by rw [if_neg (show ¬ (false = true) by decide)] at H;exact H
  clear H
  have H:=H1
  clear H1
  simp only [Option.some.injEq,Prod.mk.injEq] at H
  obtain ⟨rfl,rfl⟩:=H
  go_enter Try.func39,Try.ntmps39
  go_wp2_with (first|((with_reducible refine gate_dst (N:=3) rfl ?_);(try (refine gate_guard (by rfl) ?_;dsimp only));refine box_event ?hg (N:=3) ?hd (cs:=#[.slice A0_0 l0_0.length c0_0]) (t:=30) ?hr ?_;(case hd=>rfl);(case hg=>rfl);(case hr=>first|(go_simp;done)|(go_simp;rfl));intro gb291 hg w23 hbox hb;have n0_:=Aside0.mk (below_step (by repeat (first|(with_reducible first|exact HB.out|apply below_alloc|apply pw_below_drewN|apply below_drew1)|exact HB.out)) hb);have n1_:=Aside0.mk (hbox);have n2_:=Aside0.mk ((by rw [hg];exact (below_size (by repeat (first|(with_reducible first|exact HB.out|apply below_alloc|apply pw_below_drewN|apply below_drew1)|exact HB.out))):w.heap.size ≤ gb291));have n3_:=Aside0.mk ((by rw [hg];exact (below_size (by repeat (first|(with_reducible first|exact HB.out|apply below_alloc|apply pw_below_drewN|apply below_drew1)|exact HB.out))):w.heap.size ≤ gb291));clear HB;have HB:=n0_;have BK291:=n1_;have GW291:=n2_;have GE291:=n3_;clear n0_ n1_ n2_ n3_;clear hb hbox hg;have hcz24_0:w23.cell? ⟨gb291,0,none⟩ = some (.slice A0_0 l0_0.length c0_0):=(blk_cell BK291.out 0).trans rfl;have hfz24_0:=blk_frozen BK291.out 0)|((with_reducible refine gate_callee (f:=50) rfl ?_);refine goesL_ (some 10) rfl rfl Try.func50 (by kernel_rfl) rfl #[.agg #[.slice A0_0 l0_0.length c0_0],.slice A1 l1.length c1] rfl (by (try simp only [List.map_toArray,List.map_cons,List.map_nil]);first|done|rfl|(simp only [List.length_drop,List.length_take];rfl)) ?_;(with_reducible refine (impl_GoodClause.calls k _ _ l0_0 _ _ l1 false _ ?side1 ?side2 ?side3 ?side4 A4.out).mono ?_);(case side1=>repeat (first|exact (Kd.C_below HR0_0.out HB.out)|(with_reducible refine Kd.C_alloc ?_ _)|(with_reducible refine Kd.C_drewN ?_ _)|(with_reducible refine Kd.C_drew ?_)));(case side2=>exact HC0_0.out);(case side3=>repeat (first|exact (Kd.C_below HR1.out HB.out)|(with_reducible refine Kd.C_alloc ?_ _)|(with_reducible refine Kd.C_drewN ?_ _)|(with_reducible refine Kd.C_drew ?_)));(case side4=>exact HC1.out);rintro e w25 ⟨rfl,hb⟩;refine ⟨_,rfl,?_⟩;have n0_:=Aside0.mk (blk_below (g:=gb291) (o:=.cells #[.slice A0_0 l0_0.length c0_0] 30 (0,0)) (by (with_reducible repeat (first|refine blk_drewN ?_ _|refine blk_drew ?_|refine blk_alloc ?_ _));exact BK291.out) hb);have n1_:=Aside0.mk (below_step (by repeat (first|(with_reducible first|exact HB.out|apply below_alloc|apply pw_below_drewN|apply below_drew1|refine below_set ?_ GE291.out)|exact HB.out)) hb);clear BK291;clear HB;have BK291:=n0_;have HB:=n1_;clear n0_ n1_;(try clear hb);(try clear hb2);(try clear hk);(try clear hi)))
  go_ret2
  exact ⟨by first|rfl|(simp [errW_none,errW_some] <;> rfl)|(simp [*,errW_none,errW_some] <;> rfl),by repeat (first|(with_reducible first|exact HB.out|apply below_alloc|apply pw_below_drewN|apply below_drew1|refine below_set ?_ GE291.out)|exact HB.out)⟩

/-! ### laws_eqLitSS: function 40 -/
def laws_eqLitSS.l0:Nat → List (List (S72)) → List (List (S72)) → Int → Option (Bool)
 | 0,_,_,_=>none
 | k + 1,x0,x1,x5=>if x5 < (x0.length:Int) then (if 0 ≤ x5 then (if x5 < (x1.length:Int) then ((laws_eqLitS.f k (rd_L6 x0 x5) (rd_L6 x1 x5)).bind fun t297=>(if t297 = true then (laws_eqLitSS.l0 k x0 x1 (wrap64 (x5 + 1))) else (some false))) else (none)) else (none)) else (some true)
def laws_eqLitSS.f (k:Nat) (l0:List (List (S72))) (l1:List (List (S72))):Option (Bool):=if (l0.length:Int) = (l1.length:Int) then (laws_eqLitSS.l0 k l0 l1 0) else (some false)
theorem laws_eqLitSS.mono_l:∀ k,(∀ y0 y1 y2,LeO (laws_eqLitSS.l0 k y0 y1 y2) (laws_eqLitSS.l0 (k + 1) y0 y1 y2))
 | 0=>fun _ _ _ r h=>by simp [laws_eqLitSS.l0] at h
 | k + 1=>by
  have ih0:=laws_eqLitSS.mono_l k
  ·intro y0 y1 y2
   unfold laws_eqLitSS.l0
   repeat' first
   | (with_reducible exact ih0 _ _ _)
   | (with_reducible exact laws_eqLitS.mono _ _ _)
   | (with_reducible exact LeO.refl _)
   | (with_reducible exact LeO.none _)
   | (with_reducible refine LeO.ite ?_ ?_)
   | (with_reducible refine LeO.bind ?_ (fun _=>?_))
   | exact ih0 _ _ _
   | exact laws_eqLitS.mono _ _ _
   | exact LeO.none _
   | refine LeO.ite ?_ ?_
   | refine LeO.bind ?_ (fun _=>?_)
theorem laws_eqLitSS.mono:∀ a0 a1 k,LeO (laws_eqLitSS.f k a0 a1) (laws_eqLitSS.f (k + 1) a0 a1):=by
 intro a0 a1 k
 have ih0:=laws_eqLitSS.mono_l k
 unfold laws_eqLitSS.f
 repeat' first
   | (with_reducible exact ih0 _ _ _)
   | (with_reducible exact laws_eqLitS.mono _ _ _)
   | (with_reducible exact LeO.refl _)
   | (with_reducible exact LeO.none _)
   | (with_reducible refine LeO.ite ?_ ?_)
   | (with_reducible refine LeO.bind ?_ (fun _=>?_))
   | exact ih0 _ _ _
   | exact laws_eqLitS.mono _ _ _
   | exact LeO.none _
   | refine LeO.ite ?_ ?_
   | refine LeO.bind ?_ (fun _=>?_)
def laws_eqLitSS.T6:Bool × List (List Nat × List Nat):=(true,[([],[]),([],[]),([0,1],[0,1]),([2],[2]),([],[]),([],[]),([4,5],[4,5]),([6],[6]),([3,7],[3,7]),([8],[8])])
def laws_eqLitSS.B6:List Nat:=[0,0,3,7,0,0,48,112,255,511]
theorem laws_eqLitSS.tab6:rtab .any (opsOf Try.f40 6) = laws_eqLitSS.T6:=by kernel_rfl
theorem laws_eqLitSS.bits6:waitsOk laws_eqLitSS.T6.2 laws_eqLitSS.B6 = true:=by kernel_rfl
set_option maxHeartbeats 8000000 in
set_option maxRecDepth 100000 in
theorem laws_eqLitSS.calls (k:Nat) (A0:Option Addr) (c0:Nat) (l0:List (List (S72))) (A1:Option Addr) (c1:Nat) (l1:List (List (S72))) (r:Bool) (w:World) (hr0:Kd.C (Kd.slice 72 k72) w A0 l0.length l0) (hc0:l0.length ≤ c0) (hr1:Kd.C (Kd.slice 72 k72) w A1 l1.length l1) (hc1:l1.length ≤ c1) (h:laws_eqLitSS.f k l0 l1 = some r) :
  Calls Try.prog 40 #[.slice A0 l0.length c0,.slice A1 l1.length c1] w fun e w'=>e = .returned (.bool r) ∧ Below w.heap.size w w':=by
 have HR0:=Aside0.mk hr0
 have HC0:=Aside0.mk hc0
 clear hr0 hc0
 have HR1:=Aside0.mk hr1
 have HC1:=Aside0.mk hc1
 clear hr1 hc1
 have HB:=Aside0.mk (Below.refl w.heap.size w)
 have H:(if (l0.length:Int) = (l1.length:Int) then (laws_eqLitSS.l0 k l0 l1 0) else (some false)) = some r:=h
 clear h
 by_cases c3:(l0.length:Int) = (l1.length:Int)
 ·rw [if_pos c3] at H
  have c3b0:((l0.length:Int) == (l1.length:Int)) = true:=beq_iff_eq.mpr c3
  have c3b1:((l0.length:Int) != (l1.length:Int)) = false:=bne_eq_false_iff_eq.mpr c3
  have c3b2:(l0.length == l1.length) = true:=by first|simpa using c3|(simp at c3 ⊢;omega)
  clear c3
  have H':=Aside0.mk H
  clear H
  go_enter Try.func40,Try.ntmps40
  go_wp2
  go_loopg [5] k (fun kq v5 w'=>∃ (x5_1:Int),v5 = .int .i64 x5_1 ∧ Aside0 (laws_eqLitSS.l0 kq l0 l1 x5_1 = some r) ∧ Aside0 (kq ≤ k) ∧ Aside0 (Below w.heap.size w w'))
  case atStart=>exact ⟨(0),(by first|rfl|(simp;done)|(simp [*];done)),H',⟨Nat.le_refl _⟩,⟨by repeat (first|(with_reducible first|exact HB.out|apply below_alloc|apply pw_below_drewN|apply below_drew1)|exact HB.out)⟩⟩
  case round =>
   clear H'
   try clear c1
   try clear p2
   try clear c3
   try clear c3b0
   try clear c3b1
   try clear c3b2
   obtain ⟨x5_1,rfl,HA,HK1,HB⟩:=hrel
   cases gk with
   | zero=>exact absurd HA.out (by simp [laws_eqLitSS.l0])
   | succ k1 =>
    have H:=HA.out
    clear HA
    simp only [laws_eqLitSS.l0] at H
    by_cases c4:x5_1 < (l0.length:Int)
    ·rw [if_pos c4] at H
     have c4b0:decide (x5_1 < (l0.length:Int)) = true:=decide_eq_true c4
     clear c4
     by_cases c5:0 ≤ x5_1
     ·rw [if_pos c5] at H
      have c5b0:decide (0 ≤ x5_1) = true:=decide_eq_true c5
      clear c5
      by_cases c6:x5_1 < (l1.length:Int)
      ·rw [if_pos c6] at H
       have c6b0:decide (x5_1 < (l1.length:Int)) = true:=decide_eq_true c6
       clear c6
       replace H:=Option.bind_eq_some_iff.mp H
       obtain ⟨t297,A70,H⟩:=H
       replace H:(if t297 = true then (laws_eqLitSS.l0 k1 l0 l1 (wrap64 (x5_1 + 1))) else (some false)) = some r:=H
       have A7:=Aside0.mk A70
       clear A70
       by_cases c8:t297 = true
       ·subst c8
        have H1:(laws_eqLitSS.l0 k1 l0 l1 (wrap64 (x5_1 + 1))) = some r:=by rw [if_pos rfl] at H;exact H
        clear H
        have H:=H1
        clear H1
        have H':=Aside0.mk H
        clear H
        try go_wp2
        have n0_:=Aside0.mk (below_drew1 HB.out)
        clear HB
        have HB:=n0_
        clear n0_
        have p295:0 ≤ (x5_1:Int):=of_decide_eq_true (by first|(with_reducible assumption)|assumption)
        have q295:x5_1 < (l0.length:Int):=of_decide_eq_true (by first|(with_reducible assumption)|assumption)
        obtain ⟨ad295,A295_0,c295_0,e295,hx295_0,hl295_0,hi295_0⟩:=at_L6 HR0.out x5_1 p295 q295
        have hw295_0:=hx295_0
        cases e295
        replace hx295_0:=(HB.out.cell (World.block_lt_of_cell? w _ hx295_0)).trans hx295_0
        have HR295_0:=Aside0.mk hi295_0
        have HC295_0:=Aside0.mk hl295_0
        clear hi295_0 hl295_0
        replace p295:=eq_true p295
        replace q295:=eq_true q295
        have p296:0 ≤ (x5_1:Int):=of_decide_eq_true (by first|(with_reducible assumption)|assumption)
        have q296:x5_1 < (l1.length:Int):=of_decide_eq_true (by first|(with_reducible assumption)|assumption)
        obtain ⟨ad296,A296_0,c296_0,e296,hx296_0,hl296_0,hi296_0⟩:=at_L6 HR1.out x5_1 p296 q296
        have hw296_0:=hx296_0
        cases e296
        replace hx296_0:=(HB.out.cell (World.block_lt_of_cell? w _ hx296_0)).trans hx296_0
        have HR296_0:=Aside0.mk hi296_0
        have HC296_0:=Aside0.mk hl296_0
        clear hi296_0 hl296_0
        replace p296:=eq_true p296
        replace q296:=eq_true q296
        refine start_ (n:=10) (S:=fun w'=>w'.cell? (ad295.add (x5_1).toNat) = some (.slice A295_0 (rd_L6 l0 x5_1).length c295_0) ∧ w'.cell? (ad296.add (x5_1).toNat) = some (.slice A296_0 (rd_L6 l1 x5_1).length c296_0)) (ds:=[]) #[false,false,false,false,false,false,false,false,false,false] (by kernel_rfl) rfl rfl ⟨((HB.out.cell (World.block_lt_of_cell? w _ hw295_0)).trans hw295_0),((HB.out.cell (World.block_lt_of_cell? w _ hw296_0)).trans hw296_0)⟩ (fun hHeld=>?_);refine with_tabW laws_eqLitSS.tab6 laws_eqLitSS.bits6 (fun HT_ HW_=>?_)
        generalize wr.drew = w9 at HB HR295_0 HR296_0 hx295_0 hx296_0 hHeld ⊢
        refine pure_ (i:=0) (N:=some 17) (v:=?_) (a':=?_) #[true,false,false,false,false,false,false,false,false,false] rfl rfl (any_of HT_.out (by kernel_rfl)) (fun _ _ _ h=>h) (Or.inl ⟨by rfl,?_⟩) ?_ ?_
        rotate_left
        ·intro w'
         go_simp
         with_reducible rfl
        rotate_left
        ·simp only [Act.put,List.setIfInBounds_toArray,List.set_cons_zero,List.set_cons_succ,i64_w,i32_w]
         rfl
        refine pure_ (i:=1) (N:=some 18) (v:=?_) (a':=?_) #[true,true,false,false,false,false,false,false,false,false] rfl rfl (any_of HT_.out (by kernel_rfl)) (fun _ _ _ h=>h) (Or.inl ⟨by rfl,?_⟩) ?_ ?_
        rotate_left
        ·intro w'
         go_simp
         with_reducible rfl
        rotate_left
        ·simp only [Act.put,List.setIfInBounds_toArray,List.set_cons_zero,List.set_cons_succ,i64_w,i32_w]
         rfl
        refine pure_ (i:=2) (N:=some 19) (v:=?_) (a':=?_) #[true,true,true,false,false,false,false,false,false,false] rfl rfl (any_of HT_.out (by kernel_rfl)) (fun _ _ _ h=>h) (Or.inl ⟨by rfl,?_⟩) ?_ ?_
        rotate_left
        ·intro w'
         go_simp
         with_reducible rfl
        rotate_left
        ·simp only [Act.put,List.setIfInBounds_toArray,List.set_cons_zero,List.set_cons_succ,i64_w,i32_w]
         rfl
        refine pure_ (i:=4) (N:=some 21) (v:=?_) (a':=?_) #[true,true,true,false,true,false,false,false,false,false] rfl rfl (any_of HT_.out (by kernel_rfl)) (fun _ _ _ h=>h) (Or.inl ⟨by rfl,?_⟩) ?_ ?_
        rotate_left
        ·intro w'
         go_simp
         with_reducible rfl
        rotate_left
        ·simp only [Act.put,List.setIfInBounds_toArray,List.set_cons_zero,List.set_cons_succ,i64_w,i32_w]
         rfl
        refine pure_ (i:=5) (N:=some 22) (v:=?_) (a':=?_) #[true,true,true,false,true,true,false,false,false,false] rfl rfl (any_of HT_.out (by kernel_rfl)) (fun _ _ _ h=>h) (Or.inl ⟨by rfl,?_⟩) ?_ ?_
        rotate_left
        ·intro w'
         go_simp
         with_reducible rfl
        rotate_left
        ·simp only [Act.put,List.setIfInBounds_toArray,List.set_cons_zero,List.set_cons_succ,i64_w,i32_w]
         rfl
        refine pure_ (i:=6) (N:=some 23) (v:=?_) (a':=?_) #[true,true,true,false,true,true,true,false,false,false] rfl rfl (any_of HT_.out (by kernel_rfl)) (fun _ _ _ h=>h) (Or.inl ⟨by rfl,?_⟩) ?_ ?_
        rotate_left
        ·intro w'
         go_simp
         with_reducible rfl
        rotate_left
        ·simp only [Act.put,List.setIfInBounds_toArray,List.set_cons_zero,List.set_cons_succ,i64_w,i32_w]
         rfl
        refine take_ (i:=3) (N:=some 20) (v:=?_) (a':=?_) #[true,true,true,true,true,true,true,false,false,false] rfl rfl (take_ofW HT_.out HW_.out (by kernel_rfl)) (fun _ _ _ h=>h) (Or.inl ⟨by rfl,?_⟩) hHeld ?_ ?_
        rotate_left
        ·rintro w' ⟨s0,s1⟩
         go_simp
         with_reducible rfl
        rotate_left
        ·simp only [Act.put,List.setIfInBounds_toArray,List.set_cons_zero,List.set_cons_succ,i64_w,i32_w]
         rfl
        refine take_ (i:=7) (N:=some 24) (v:=?_) (a':=?_) #[true,true,true,true,true,true,true,true,false,false] rfl rfl (take_ofW HT_.out HW_.out (by kernel_rfl)) (fun _ _ _ h=>h) (Or.inl ⟨by rfl,?_⟩) hHeld ?_ ?_
        rotate_left
        ·rintro w' ⟨s0,s1⟩
         go_simp
         with_reducible rfl
        rotate_left
        ·simp only [Act.put,List.setIfInBounds_toArray,List.set_cons_zero,List.set_cons_succ,i64_w,i32_w]
         rfl
        refine one_ (i:=8) (N:=some 25) #[true,true,true,true,true,true,true,true,true,false] rfl rfl (one_of HT_.out (by kernel_rfl)) (by decide) (fun K hK=>?_)
        refine goes_ Try.func16 (by kernel_rfl) rfl #[.slice A295_0 (rd_L6 l0 x5_1).length c295_0,.slice A296_0 (rd_L6 l1 x5_1).length c296_0] (by rfl) rfl rfl (by (try simp only [List.map_toArray,List.map_cons,List.map_nil]);first|done|rfl|(simp only [List.length_drop,List.length_take];rfl)) ?_
        with_reducible refine (laws_eqLitS.calls k1 _ _ (rd_L6 l0 x5_1) _ _ (rd_L6 l1 x5_1) true _ ?side1 ?side2 ?side3 ?side4 A7.out).mono ?_
        (case side1=>repeat (first|exact (Kd.C_below HR295_0.out HB.out)|(with_reducible refine Kd.C_alloc ?_ _)|(with_reducible refine Kd.C_drewN ?_ _)|(with_reducible refine Kd.C_drew ?_)))
        (case side2=>exact HC295_0.out)
        (case side3=>repeat (first|exact (Kd.C_below HR296_0.out HB.out)|(with_reducible refine Kd.C_alloc ?_ _)|(with_reducible refine Kd.C_drewN ?_ _)|(with_reducible refine Kd.C_drew ?_)))
        (case side4=>exact HC296_0.out)
        rintro e w10 ⟨rfl,hb⟩
        refine ⟨_,rfl,?_⟩
        have n0_:=Aside0.mk (below_step (by repeat (first|(with_reducible first|exact HB.out|apply below_alloc|apply pw_below_drewN|apply below_drew1)|exact HB.out)) hb)
        clear HB
        have HB:=n0_
        clear n0_
        (try clear hb)
        (try clear hb2)
        (try clear hk)
        (try clear hi)
        refine hK.out _ _ ⟨((HB.out.cell (World.block_lt_of_cell? w _ hw295_0)).trans hw295_0),((HB.out.cell (World.block_lt_of_cell? w _ hw296_0)).trans hw296_0)⟩ (fun hHeld=>?_)
        clear hK K
        refine norm_ (a':=?_) ?_ ?_
        rotate_left
        ·show Act.put _ (some 25) _ = _
         simp only [Act.put,List.setIfInBounds_toArray,List.set_cons_zero,List.set_cons_succ,i64_w,i32_w]
         rfl
        refine pure_ (i:=9) (N:=some 26) (v:=?_) (a':=?_) #[true,true,true,true,true,true,true,true,true,true] rfl rfl (any_of HT_.out (by kernel_rfl)) (fun _ _ _ h=>h) (Or.inl ⟨by rfl,?_⟩) ?_ ?_
        rotate_left
        ·intro w'
         go_simp
         with_reducible rfl
        rotate_left
        ·simp only [Act.put,List.setIfInBounds_toArray,List.set_cons_zero,List.set_cons_succ,i64_w,i32_w]
         rfl
        refine done_ (done_of HT_.out (by kernel_rfl)) ?_
        try go_wp2
        go_roundg k1
        case measure=>have:=HK1.out;omega
        case rel=>exact ⟨(wrap64 (x5_1 + 1)),(by first|rfl|(simp;done)|(simp [*];done)),H',⟨by have:=HK1.out;omega⟩,⟨by repeat (first|(with_reducible first|exact HB.out|apply below_alloc|apply pw_below_drewN|apply below_drew1)|exact HB.out)⟩⟩
       ·replace c8:=Bool.eq_false_iff.mpr c8
        subst c8
        have H1:(some false) = some r:=by rw [if_neg (show ¬ (false = true) by decide)] at H;exact H
        clear H
        have H:=H1
        clear H1
        obtain rfl:=Option.some.inj H
        try go_wp2
        have n0_:=Aside0.mk (below_drew1 HB.out)
        clear HB
        have HB:=n0_
        clear n0_
        have p295:0 ≤ (x5_1:Int):=of_decide_eq_true (by first|(with_reducible assumption)|assumption)
        have q295:x5_1 < (l0.length:Int):=of_decide_eq_true (by first|(with_reducible assumption)|assumption)
        obtain ⟨ad295,A295_0,c295_0,e295,hx295_0,hl295_0,hi295_0⟩:=at_L6 HR0.out x5_1 p295 q295
        have hw295_0:=hx295_0
        cases e295
        replace hx295_0:=(HB.out.cell (World.block_lt_of_cell? w _ hx295_0)).trans hx295_0
        have HR295_0:=Aside0.mk hi295_0
        have HC295_0:=Aside0.mk hl295_0
        clear hi295_0 hl295_0
        replace p295:=eq_true p295
        replace q295:=eq_true q295
        have p296:0 ≤ (x5_1:Int):=of_decide_eq_true (by first|(with_reducible assumption)|assumption)
        have q296:x5_1 < (l1.length:Int):=of_decide_eq_true (by first|(with_reducible assumption)|assumption)
        obtain ⟨ad296,A296_0,c296_0,e296,hx296_0,hl296_0,hi296_0⟩:=at_L6 HR1.out x5_1 p296 q296
        have hw296_0:=hx296_0
        cases e296
        replace hx296_0:=(HB.out.cell (World.block_lt_of_cell? w _ hx296_0)).trans hx296_0
        have HR296_0:=Aside0.mk hi296_0
        have HC296_0:=Aside0.mk hl296_0
        clear hi296_0 hl296_0
        replace p296:=eq_true p296
        replace q296:=eq_true q296
        refine start_ (n:=10) (S:=fun w'=>w'.cell? (ad295.add (x5_1).toNat) = some (.slice A295_0 (rd_L6 l0 x5_1).length c295_0) ∧ w'.cell? (ad296.add (x5_1).toNat) = some (.slice A296_0 (rd_L6 l1 x5_1).length c296_0)) (ds:=[]) #[false,false,false,false,false,false,false,false,false,false] (by kernel_rfl) rfl rfl ⟨((HB.out.cell (World.block_lt_of_cell? w _ hw295_0)).trans hw295_0),((HB.out.cell (World.block_lt_of_cell? w _ hw296_0)).trans hw296_0)⟩ (fun hHeld=>?_);refine with_tabW laws_eqLitSS.tab6 laws_eqLitSS.bits6 (fun HT_ HW_=>?_)
        generalize wr.drew = w11 at HB HR295_0 HR296_0 hx295_0 hx296_0 hHeld ⊢
        refine pure_ (i:=0) (N:=some 17) (v:=?_) (a':=?_) #[true,false,false,false,false,false,false,false,false,false] rfl rfl (any_of HT_.out (by kernel_rfl)) (fun _ _ _ h=>h) (Or.inl ⟨by rfl,?_⟩) ?_ ?_
        rotate_left
        ·intro w'
         go_simp
         with_reducible rfl
        rotate_left
        ·simp only [Act.put,List.setIfInBounds_toArray,List.set_cons_zero,List.set_cons_succ,i64_w,i32_w]
         rfl
        refine pure_ (i:=1) (N:=some 18) (v:=?_) (a':=?_) #[true,true,false,false,false,false,false,false,false,false] rfl rfl (any_of HT_.out (by kernel_rfl)) (fun _ _ _ h=>h) (Or.inl ⟨by rfl,?_⟩) ?_ ?_
        rotate_left
        ·intro w'
         go_simp
         with_reducible rfl
        rotate_left
        ·simp only [Act.put,List.setIfInBounds_toArray,List.set_cons_zero,List.set_cons_succ,i64_w,i32_w]
         rfl
        refine pure_ (i:=2) (N:=some 19) (v:=?_) (a':=?_) #[true,true,true,false,false,false,false,false,false,false] rfl rfl (any_of HT_.out (by kernel_rfl)) (fun _ _ _ h=>h) (Or.inl ⟨by rfl,?_⟩) ?_ ?_
        rotate_left
        ·intro w'
         go_simp
         with_reducible rfl
        rotate_left
        ·simp only [Act.put,List.setIfInBounds_toArray,List.set_cons_zero,List.set_cons_succ,i64_w,i32_w]
         rfl
        refine pure_ (i:=4) (N:=some 21) (v:=?_) (a':=?_) #[true,true,true,false,true,false,false,false,false,false] rfl rfl (any_of HT_.out (by kernel_rfl)) (fun _ _ _ h=>h) (Or.inl ⟨by rfl,?_⟩) ?_ ?_
        rotate_left
        ·intro w'
         go_simp
         with_reducible rfl
        rotate_left
        ·simp only [Act.put,List.setIfInBounds_toArray,List.set_cons_zero,List.set_cons_succ,i64_w,i32_w]
         rfl
        refine pure_ (i:=5) (N:=some 22) (v:=?_) (a':=?_) #[true,true,true,false,true,true,false,false,false,false] rfl rfl (any_of HT_.out (by kernel_rfl)) (fun _ _ _ h=>h) (Or.inl ⟨by rfl,?_⟩) ?_ ?_
        rotate_left
        ·intro w'
         go_simp
         with_reducible rfl
        rotate_left
        ·simp only [Act.put,List.setIfInBounds_toArray,List.set_cons_zero,List.set_cons_succ,i64_w,i32_w]
         rfl
        refine pure_ (i:=6) (N:=some 23) (v:=?_) (a':=?_) #[true,true,true,false,true,true,true,false,false,false] rfl rfl (any_of HT_.out (by kernel_rfl)) (fun _ _ _ h=>h) (Or.inl ⟨by rfl,?_⟩) ?_ ?_
        rotate_left
        ·intro w'
         go_simp
         with_reducible rfl
        rotate_left
        ·simp only [Act.put,List.setIfInBounds_toArray,List.set_cons_zero,List.set_cons_succ,i64_w,i32_w]
         rfl
        refine take_ (i:=3) (N:=some 20) (v:=?_) (a':=?_) #[true,true,true,true,true,true,true,false,false,false] rfl rfl (take_ofW HT_.out HW_.out (by kernel_rfl)) (fun _ _ _ h=>h) (Or.inl ⟨by rfl,?_⟩) hHeld ?_ ?_
        rotate_left
        ·rintro w' ⟨s0,s1⟩
         go_simp
         with_reducible rfl
        rotate_left
        ·simp only [Act.put,List.setIfInBounds_toArray,List.set_cons_zero,List.set_cons_succ,i64_w,i32_w]
         rfl
        refine take_ (i:=7) (N:=some 24) (v:=?_) (a':=?_) #[true,true,true,true,true,true,true,true,false,false] rfl rfl (take_ofW HT_.out HW_.out (by kernel_rfl)) (fun _ _ _ h=>h) (Or.inl ⟨by rfl,?_⟩) hHeld ?_ ?_
        rotate_left
        ·rintro w' ⟨s0,s1⟩
         go_simp
         with_reducible rfl
        rotate_left
        ·simp only [Act.put,List.setIfInBounds_toArray,List.set_cons_zero,List.set_cons_succ,i64_w,i32_w]
         rfl
        refine one_ (i:=8) (N:=some 25) #[true,true,true,true,true,true,true,true,true,false] rfl rfl (one_of HT_.out (by kernel_rfl)) (by decide) (fun K hK=>?_)
        refine goes_ Try.func16 (by kernel_rfl) rfl #[.slice A295_0 (rd_L6 l0 x5_1).length c295_0,.slice A296_0 (rd_L6 l1 x5_1).length c296_0] (by rfl) rfl rfl (by (try simp only [List.map_toArray,List.map_cons,List.map_nil]);first|done|rfl|(simp only [List.length_drop,List.length_take];rfl)) ?_
        with_reducible refine (laws_eqLitS.calls k1 _ _ (rd_L6 l0 x5_1) _ _ (rd_L6 l1 x5_1) false _ ?side1 ?side2 ?side3 ?side4 A7.out).mono ?_
        (case side1=>repeat (first|exact (Kd.C_below HR295_0.out HB.out)|(with_reducible refine Kd.C_alloc ?_ _)|(with_reducible refine Kd.C_drewN ?_ _)|(with_reducible refine Kd.C_drew ?_)))
        (case side2=>exact HC295_0.out)
        (case side3=>repeat (first|exact (Kd.C_below HR296_0.out HB.out)|(with_reducible refine Kd.C_alloc ?_ _)|(with_reducible refine Kd.C_drewN ?_ _)|(with_reducible refine Kd.C_drew ?_)))
        (case side4=>exact HC296_0.out)
        rintro e w12 ⟨rfl,hb⟩
        refine ⟨_,rfl,?_⟩
        have n0_:=Aside0.mk (below_step (by repeat (first|(with_reducible first|exact HB.out|apply below_alloc|apply pw_below_drewN|apply below_drew1)|exact HB.out)) hb)
        clear HB
        have HB:=n0_
        clear n0_
        (try clear hb)
        (try clear hb2)
        (try clear hk)
        (try clear hi)
        refine hK.out _ _ ⟨((HB.out.cell (World.block_lt_of_cell? w _ hw295_0)).trans hw295_0),((HB.out.cell (World.block_lt_of_cell? w _ hw296_0)).trans hw296_0)⟩ (fun hHeld=>?_)
        clear hK K
        refine norm_ (a':=?_) ?_ ?_
        rotate_left
        ·show Act.put _ (some 25) _ = _
         simp only [Act.put,List.setIfInBounds_toArray,List.set_cons_zero,List.set_cons_succ,i64_w,i32_w]
         rfl
        refine pure_ (i:=9) (N:=some 26) (v:=?_) (a':=?_) #[true,true,true,true,true,true,true,true,true,true] rfl rfl (any_of HT_.out (by kernel_rfl)) (fun _ _ _ h=>h) (Or.inl ⟨by rfl,?_⟩) ?_ ?_
        rotate_left
        ·intro w'
         go_simp
         with_reducible rfl
        rotate_left
        ·simp only [Act.put,List.setIfInBounds_toArray,List.set_cons_zero,List.set_cons_succ,i64_w,i32_w]
         rfl
        refine done_ (done_of HT_.out (by kernel_rfl)) ?_
        try go_wp2
        go_ret
        exact ⟨by first|rfl|(simp [errW_none,errW_some] <;> rfl)|(simp [*,errW_none,errW_some] <;> rfl),by repeat (first|(with_reducible first|exact HB.out|apply below_alloc|apply pw_below_drewN|apply below_drew1)|exact HB.out)⟩
      ·rw [if_neg c6] at H
       exact absurd H (by simp)
     ·rw [if_neg c5] at H
      exact absurd H (by simp)
    ·rw [if_neg c4] at H
     have c4b0:decide (x5_1 < (l0.length:Int)) = false:=decide_eq_false c4
     clear c4
     obtain rfl:=Option.some.inj H
     go_wp2
     go_ret
     exact ⟨by first|rfl|(simp [errW_none,errW_some] <;> rfl)|(simp [*,errW_none,errW_some] <;> rfl),by repeat (first|(with_reducible first|exact HB.out|apply below_alloc|apply pw_below_drewN|apply below_drew1)|exact HB.out)⟩
 ·rw [if_neg c3] at H
  have c3b0:((l0.length:Int) == (l1.length:Int)) = false:=beq_eq_false_iff_ne.mpr c3
  have c3b1:((l0.length:Int) != (l1.length:Int)) = true:=bne_iff_ne.mpr c3
  have c3b2:(l0.length == l1.length) = false:=by first|simpa using c3|(simp at c3 ⊢;omega)
  obtain rfl:=Option.some.inj H
  go_enter Try.func40,Try.ntmps40
  go_wp2
  go_ret
  exact ⟨by first|rfl|(simp [errW_none,errW_some] <;> rfl)|(simp [*,errW_none,errW_some] <;> rfl),by repeat (first|(with_reducible first|exact HB.out|apply below_alloc|apply pw_below_drewN|apply below_drew1)|exact HB.out)⟩

end Go.Proofs.Ytlgnanbnicmdaaa.QFnExactIsRedundant
