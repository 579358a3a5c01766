-- Written by this session's own program (wip/x/xprint.py, over the kit's printer); Lean checks it.
import Derived.Test.YtmgkflkfoccgkaaQFnTidiedx0
import Derived.Test.YtmgkflkfoccgkaaQFnTidiedx1
import Derived.Test.YtmgkflkfoccgkaaQFnTidiedx4
import Derived.Test.YtmgkflkfoccgkaaQFnTidiedx12
namespace Go.Proofs.Ytmgkflkfoccgkaa.QFnTidied
open Go.RowKit Go.Proofs.YtmgkflkfoccgkaaW.PrintWords Go.Proofs.YtmgkflkfoccgkaaW.PrintLast Go.Proofs.YtmgkflkfoccgkaaW.PrintMore
attribute [local go_sem] max2_int min2_int max_two min_two max_three min_three max_four min_four   -- for this text's walks alone
set_option linter.unusedVariables false
set_option linter.unusedSimpArgs false

/-! ### slices_Index_int_int: function 123 -/
def slices_Index_int_int.l0:Nat → List Int → Int → Int → Int → Option (Int)
 | 0,_,_,_,_=>none
 | k + 1,x0,x1,x7,x8=>if x8 < x7 then (if 0 ≤ x8 then (if x8 < (x0.length:Int) then (if x1 = (rd x0 x8) then (some x8) else (slices_Index_int_int.l0 k x0 x1 x7 (wrap64 (x8 + 1)))) else (none)) else (none)) else (some (-1))
def slices_Index_int_int.f (k:Nat) (l0:List Int) (a1:Int):Option (Int):=slices_Index_int_int.l0 k l0 a1 (l0.length:Int) 0
theorem slices_Index_int_int.mono_l:∀ k,(∀ y0 y1 y2 y3,LeO (slices_Index_int_int.l0 k y0 y1 y2 y3) (slices_Index_int_int.l0 (k + 1) y0 y1 y2 y3))
 | 0=>fun _ _ _ _ r h=>by simp [slices_Index_int_int.l0] at h
 | k + 1=>by
  have ih0:=slices_Index_int_int.mono_l k
  ·intro y0 y1 y2 y3
   unfold slices_Index_int_int.l0
   exact mO
theorem slices_Index_int_int.mono:∀ a0 a1 k,LeO (slices_Index_int_int.f k a0 a1) (slices_Index_int_int.f (k + 1) a0 a1):=by
 intro a0 a1 k
 have ih0:=slices_Index_int_int.mono_l k
 unfold slices_Index_int_int.f
 exact mO
set_option maxHeartbeats 8000000 in
set_option maxRecDepth 100000 in
theorem slices_Index_int_int.calls (k:Nat) (A0:Option Addr) (c0:Nat) (l0:List Int) (a1:Int) (r:Int) (w:World) (hr0:Kd.C (Kd.int .i64) w A0 l0.length l0) (hc0:l0.length ≤ c0) (h:slices_Index_int_int.f k l0 a1 = some r) :
  Calls Try.prog 123 #[.slice A0 l0.length c0,.int .i64 a1] w fun e w'=>e = .returned (.int .i64 r) ∧ Drawn0 w w':=by
 have HR0:=Aside0.mk hr0
 have HC0:=Aside0.mk hc0
 clear hr0 hc0
 have H:(slices_Index_int_int.l0 k l0 a1 (l0.length:Int) 0) = some r:=h
 clear h
 have H':=Aside0.mk H
 clear H
 go_enter Try.func123,Try.ntmps123
 go_wp2
 go_loopg [8] k (fun kq v8 w'=>∃ (x8_1:Int),v8 = .int .i64 x8_1 ∧ Aside0 (slices_Index_int_int.l0 kq l0 a1 (l0.length:Int) x8_1 = some r) ∧ Aside0 (kq ≤ k) ∧ Drawn0 w w')
 case atStart=>exact ⟨(0),Yd,H',⟨Nat.le_refl _⟩,Yh⟩
 case round =>
  clear H'
  obtain ⟨x8_1,rfl,HA,HK1,⟨m1,rfl⟩⟩:=hrel
  cases gk with
  | zero=>exact absurd HA.out (by simp [slices_Index_int_int.l0])
  | succ k1 =>
   have H:=HA.out
   clear HA
   simp only [slices_Index_int_int.l0] at H
   by_cases c3:x8_1 < (l0.length:Int)
   ·rw [if_pos c3] at H
    have c3b0:=decide_eq_true c3
    clear c3
    replace H:=gI H;obtain ⟨c4b0,H⟩:=H
    replace H:=gI H;obtain ⟨c5b0,H⟩:=H
    by_cases c6:a1 = (rd l0 x8_1)
    ·rw [if_pos c6] at H
     have c6b0:(a1 == (rd l0 x8_1)) = true:=beq_iff_eq.mpr c6
     have c6b1:(a1 != (rd l0 x8_1)) = false:=bne_eq_false_iff_eq.mpr c6
     clear c6
     obtain rfl:=Option.some.inj H
     obtain ⟨p487,q487,ad487,e487,hx487_0⟩:=aI HR0.out x8_1;cases e487
     go_wp2
     go_ret
     exact ⟨Yd,Yh⟩
    ·rw [if_neg c6] at H
     have c6b0:(a1 == (rd l0 x8_1)) = false:=beq_eq_false_iff_ne.mpr c6
     have c6b1:(a1 != (rd l0 x8_1)) = true:=bne_iff_ne.mpr c6
     have H':=Aside0.mk H
     clear H
     obtain ⟨p487,q487,ad487,e487,hx487_0⟩:=aI HR0.out x8_1;cases e487
     go_wp2
     go_roundg k1
     case measure=>have:=HK1.out;omega
     case rel=>exact ⟨(wrap64 (x8_1 + 1)),Yd,H',⟨YH⟩,Yh⟩
   ·rw [if_neg c3] at H
    have c3b0:decide (x8_1 < (l0.length:Int)) = false:=decide_eq_false c3
    clear c3
    obtain rfl:=Option.some.inj H
    go_wp2
    go_ret
    exact ⟨Yd,Yh⟩

/-! ### slices_Contains_int_int: function 111 -/
def slices_Contains_int_int.f (k:Nat) (l0:List Int) (a1:Int):Option (Bool):=(slices_Index_int_int.f k l0 a1).bind fun t488=>(some (decide (t488 ≥ 0)))
theorem slices_Contains_int_int.mono:∀ a0 a1 k,LeO (slices_Contains_int_int.f k a0 a1) (slices_Contains_int_int.f (k + 1) a0 a1):=by
 intro a0 a1 k
 unfold slices_Contains_int_int.f
 have m0:=@slices_Index_int_int.mono
 exact mO
set_option maxHeartbeats 8000000 in
set_option maxRecDepth 100000 in
theorem slices_Contains_int_int.calls (k:Nat) (A0:Option Addr) (c0:Nat) (l0:List Int) (a1:Int) (r:Bool) (w:World) (hr0:Kd.C (Kd.int .i64) w A0 l0.length l0) (hc0:l0.length ≤ c0) (h:slices_Contains_int_int.f k l0 a1 = some r) :
  Calls Try.prog 111 #[.slice A0 l0.length c0,.int .i64 a1] w fun e w'=>e = .returned (.bool r) ∧ Drawn0 w w':=by
 have HR0:=Aside0.mk hr0
 have HC0:=Aside0.mk hc0
 clear hr0 hc0
 have H:((slices_Index_int_int.f k l0 a1).bind fun t488=>(some (decide (t488 ≥ 0)))) = some r:=h
 clear h
 replace H:=bI H;obtain ⟨t488,A3,H⟩:=H
 obtain rfl:=Option.some.inj H
 go_enter Try.func111,Try.ntmps111
 go_wp2_with (first|((with_reducible refine gate_callee (f:=123) rfl ?_);refine goesL_ (some 7) rfl rfl Try.func123 (by kernel_rfl) rfl #[.slice A0 l0.length c0,.int .i64 a1] rfl Ya ?_;(with_reducible refine (slices_Index_int_int.calls k _ _ l0 a1 t488 _ ?side1 ?side2 A3.out).mono ?_);(case side1=>repeat (first|exact HR0.out|(with_reducible refine Kd.C_alloc ?_ _)|(with_reducible refine Kd.C_drewN ?_ _)|(with_reducible refine Kd.C_drew ?_)));(case side2=>exact HC0.out);rintro e w' ⟨rfl,⟨nd,rfl⟩⟩;refine ⟨_,rfl,?_⟩))
 go_ret
 exact ⟨Yd,Yh⟩

/-! ### impl_varsIn_1: function 110 -/
def impl_varsIn_1.f (k:Nat) (l0:List Int) (a1:Int):Option (Bool):=(slices_Contains_int_int.f k l0 (wrap64 ((-1) - a1))).bind fun t489=>(some t489)
theorem impl_varsIn_1.mono:∀ a0 a1 k,LeO (impl_varsIn_1.f k a0 a1) (impl_varsIn_1.f (k + 1) a0 a1):=by
 intro a0 a1 k
 unfold impl_varsIn_1.f
 have m0:=@slices_Contains_int_int.mono
 exact mO
set_option maxHeartbeats 8000000 in
set_option maxRecDepth 100000 in
theorem impl_varsIn_1.calls (k:Nat) (A0:Option Addr) (c0:Nat) (l0:List Int) (g1_:Nat) (a1:Int) (r:Bool) (w:World) (hr0:Kd.C (Kd.int .i64) w A0 l0.length l0) (hc0:l0.length ≤ c0) (hg1:w.heap[g1_]? = some (.cells #[.int .i64 a1] 3 (0,0))) (h:impl_varsIn_1.f k l0 a1 = some r) :
  Calls Try.prog 110 #[.slice A0 l0.length c0,.pointer (some ⟨g1_,0,none⟩)] w fun e w'=>e = .returned (.bool r) ∧ Below w.heap.size w w':=by
 have HR0:=Aside0.mk hr0
 have HC0:=Aside0.mk hc0
 clear hr0 hc0
 have BK1:=Aside0.mk hg1
 clear hg1
 have HB:=Aside0.mk (Below.refl w.heap.size w)
 have H:((slices_Contains_int_int.f k l0 (wrap64 ((-1) - a1))).bind fun t489=>(some t489)) = some r:=h
 clear h
 replace H:=bI H;obtain ⟨t489,A3,H⟩:=H
 obtain rfl:=Option.some.inj H
 have hcz4_0:=qc1_0 BK1
 have hfz4_0:=fz BK1 0
 go_enter Try.func110,Try.ntmps110
 go_wp2_with (first|((with_reducible refine gate_callee (f:=111) rfl ?_);refine goesL_ (some 7) rfl rfl Try.func111 (by kernel_rfl) rfl #[.slice A0 l0.length c0,.int .i64 (wrap64 ((-1) - a1))] rfl Ya ?_;(with_reducible refine (slices_Contains_int_int.calls k _ _ l0 (wrap64 ((-1) - a1)) t489 _ ?side1 ?side2 A3.out).mono ?_);(case side1=>repeat (first|exact HR0.out|(with_reducible refine Kd.C_alloc ?_ _)|(with_reducible refine Kd.C_drewN ?_ _)|(with_reducible refine Kd.C_drew ?_)));(case side2=>exact HC0.out);rintro e w' ⟨rfl,⟨nd,rfl⟩⟩;refine ⟨_,rfl,?_⟩))
 go_ret
 exact ⟨Yb,bH⟩

/-! ### slices_IndexFunc: function 122 -/
set_option maxHeartbeats 2000000 in
set_option maxRecDepth 100000 in
theorem idx122 (g:Nat) (lb:Array Value) (eg:∀ args w,(callFunc g args).run Try.prog w = .ok (.enter g args) w) (f:List Int → Option Bool) (A:Option Addr) (c:Nat) (l:List (List Int)) (r:Int) (w:World) (hr:Kd.C (Kd.slice 3 (Kd.int .i64)) w A l.length l) (hc:l.length ≤ c)
  (hp:∀ (W:World) (x:List Int) (b:Bool) (E0:Option Addr) (e0:Nat),Below w.heap.size w W → Kd.C (Kd.int .i64) W E0 x.length x → x.length ≤ e0 → f x = some b → Calls Try.prog g (#[.slice E0 x.length e0] ++ lb) W fun e w'=>e = .returned (.bool b) ∧ Below W.heap.size W w')
  (h:idxO f 0 l = some r) :
  Calls Try.prog 122 #[.slice A l.length c,.func (.func g) #[] lb] w fun e w'=>e = .returned (.int .i64 r) ∧ Below w.heap.size w w':=by
 have HR:=Aside0.mk hr
 have HP:=Aside0.mk hp
 have HL:=Aside0.mk hr.2.1
 have H:=Aside0.mk h
 clear hr hp h hc
 go_enter Try.func122,Try.ntmps122
 go_wp2
 go_loopg [5,8] (l.length + 1) (fun kq _ v8 w'=>∃ kk:Nat,v8 = .int .i64 kk ∧ Aside0 (kk ≤ l.length ∧ l.length + 1 ≤ kq + kk) ∧ Aside0 (idxO f kk (l.drop kk) = some r) ∧ Aside0 (Below w.heap.size w w'))
 case atStart=>exact ⟨0,rfl,⟨Nat.zero_le _,by omega⟩,⟨by simpa using H.out⟩,⟨Below.refl _ _⟩⟩
 case round =>
  obtain ⟨kk,rfl,HK,HI,HB⟩:=hrel
  have hkk:=HK.out.1
  by_cases hlt:kk < l.length
  ·have hd:l.drop kk = l[kk] :: l.drop (kk + 1):=List.drop_eq_getElem_cons hlt
   have hi:=HI.out
   rw [hd] at hi
   simp only [idxO] at hi
   obtain ⟨b,hb,hi⟩:=Option.bind_eq_some_iff.1 hi
   have HW:=Aside0.mk (show wrap64 ((kk:Int) + 1) = ((kk + 1:Nat):Int) from by have:=HL.out;unfold wrap64;omega)
   have p:0 ≤ (kk:Int):=by omega
   have q:(kk:Int) < (l.length:Int):=by omega
   have q1:decide (kk < l.length) = true:=decide_eq_true hlt
   have q2:decide ((kk:Int) < (l.length:Int)) = true:=decide_eq_true q
   obtain ⟨ad,E0,e0,e1,hx0,he0,hE0⟩:=at_L2 HR.out (kk:Int) p q
   cases e1
   have hrd:rd_L2 l (kk:Int) = l[kk]:=by unfold rd_L2;simp [List.getD_eq_getElem?_getD,List.getElem?_eq_getElem hlt]
   rw [hrd] at hx0 he0 hE0
   clear hrd
   replace hx0:=(HB.out.cell (World.block_lt_of_cell? w _ hx0)).trans hx0
   replace hE0:=Kd.C_below hE0 HB.out
   rw [Int.toNat_natCast] at hx0
   generalize hy:l[kk] = y at hx0 he0 hE0 hb
   clear hy hd
   have HC:=Aside0.mk (HP.out wr y b E0 e0 HB.out hE0 he0 hb)
   clear HI hkk
   clear he0 hE0
   cases b with
   | true =>
    have HE:=Aside0.mk (Option.some.inj hi)
    clear hi hb
    go_wp2_with fail
    refine HC.out.mono ?_
    rintro e w' ⟨rfl,hb'⟩
    have HB2:=Aside0.mk (below_step HB.out hb')
    clear HB hb' HC hx0
    have HB:=HB2
    clear HB2
    go_wp2_with fail
    go_ret
    exact ⟨by rw [← HE.out];rfl,HB.out⟩
   | false =>
    have HE:=Aside0.mk hi
    clear hi hb
    go_wp2_with fail
    refine HC.out.mono ?_
    rintro e w' ⟨rfl,hb'⟩
    have HB2:=Aside0.mk (below_step HB.out hb')
    clear HB hb' HC hx0
    have HB:=HB2
    clear HB2
    go_wp2_with fail
    go_roundg (l.length - kk)
    case measure=>have:=HK.out;omega
    case rel=>exact ⟨kk + 1,by rw [HW.out],⟨by have:=HK.out;omega⟩,⟨by rw [show ((kk + 1:Nat):Int) = (kk:Int) + 1 from by omega];simpa using HE.out⟩,HB⟩
  ·have HE:=Aside0.mk (show -1 = r from Zc)
   have q1:decide (kk < l.length) = false:=decide_eq_false hlt
   have q2:decide ((kk:Int) < (l.length:Int)) = false:=decide_eq_false (by omega)
   clear HI hkk
   go_wp2
   go_ret
   exact ⟨by rw [← HE.out];rfl,HB.out⟩

/-! ### slices_ContainsFunc: function 109 -/
set_option maxHeartbeats 2000000 in
theorem any109 (g:Nat) (lb:Array Value) (eg:∀ args w,(callFunc g args).run Try.prog w = .ok (.enter g args) w) (f:List Int → Option Bool) (A:Option Addr) (c:Nat) (l:List (List Int)) (r:Bool) (w:World) (hr:Kd.C (Kd.slice 3 (Kd.int .i64)) w A l.length l) (hc:l.length ≤ c)
  (hp:∀ (W:World) (x:List Int) (b:Bool) (E0:Option Addr) (e0:Nat),Below w.heap.size w W → Kd.C (Kd.int .i64) W E0 x.length x → x.length ≤ e0 → f x = some b → Calls Try.prog g (#[.slice E0 x.length e0] ++ lb) W fun e w'=>e = .returned (.bool b) ∧ Below W.heap.size W w')
  (h:anyO f l = some r) :
  Calls Try.prog 109 #[.slice A l.length c,.func (.func g) #[] lb] w fun e w'=>e = .returned (.bool r) ∧ Below w.heap.size w w':=by
 obtain ⟨j,hj,hr2⟩:=idxO_any f l 0 r (Int.le_refl _) h
 have HR:=Aside0.mk hr2
 have HC:=Aside0.mk (fun W hW=>idx122 g lb eg f A c l j W (Kd.C_below hr hW) hc (fun W' x b E0 e0 h1=>hp W' x b E0 e0 (hW.trans (h1.mono hW.size))) hj)
 clear hr hp h hc hj hr2 eg
 go_enter Try.func109,Try.ntmps109
 go_wp2_with fail
 refine (HC.out _ (Below.refl _ _)).mono ?_
 rintro e w' ⟨rfl,hb⟩
 have HB:=Aside0.mk hb
 clear hb HC
 go_wp2
 go_ret
 exact ⟨by rw [HR.out];rfl,HB.out⟩

/-! ### impl_varsIn_1_any: function 1000005 -/
def impl_varsIn_1_any.f (k:Nat) (l0:List (List Int)) (a1:Int):Option (Bool):=anyO (fun x=>impl_varsIn_1.f k x a1) l0
theorem impl_varsIn_1_any.mono:∀ a0 a1 k,LeO (impl_varsIn_1_any.f k a0 a1) (impl_varsIn_1_any.f (k + 1) a0 a1):=by
 intro a0 a1 k
 unfold impl_varsIn_1_any.f
 exact anyO_mono (fun x=>impl_varsIn_1.mono _ _ k) _
theorem impl_varsIn_1_any.calls (k:Nat) (A0:Option Addr) (c0:Nat) (l0:List (List Int)) (a1:Int) (g1_:Nat) (r:Bool) (w:World) (hr0:Kd.C (Kd.slice 3 (Kd.int .i64)) w A0 l0.length l0) (hc0:l0.length ≤ c0) (hg1:w.heap[g1_]? = some (.cells #[.int .i64 a1] 3 (0,0))) (h:impl_varsIn_1_any.f k l0 a1 = some r) :
  Calls Try.prog 109 #[.slice A0 l0.length c0,.func (.func 110) #[] #[.pointer (some ⟨g1_,0,none⟩)]] w fun e w'=>e = .returned (.bool r) ∧ Below w.heap.size w w':=by
 exact any109 110 #[.pointer (some ⟨g1_,0,none⟩)] (enters_of Try.func110 (by kernel_rfl) rfl) (fun x=>impl_varsIn_1.f k x a1) A0 c0 l0 r w hr0 hc0 (fun W x b E0 e0 hW hE0 he0 hx=>(impl_varsIn_1.calls k E0 e0 x g1_ a1 b W hE0 he0  ((hW.block _ (Array.getElem?_eq_some_iff.1 hg1).1).trans hg1) hx).mono fun _ _ h_=>⟨h_.1,h_.2⟩) h

/-! ### impl_varsIn: function 70 -/
def impl_varsIn.l0:Nat → List (List Int) → List Int → Int → Option (List Int)
 | 0,_,_,_=>none
 | k + 1,x0,x3,x5=>if x5 < 12 then ((impl_varsIn_1_any.f k x0 x5).bind fun t491=>(if t491 = true then (if x3.length < 17592186044416 then (impl_varsIn.l0 k x0 (x3 ++ [x5]) (wrap64 (x5 + 1))) else (none)) else (impl_varsIn.l0 k x0 x3 (wrap64 (x5 + 1))))) else (some x3)
def impl_varsIn.f (k:Nat) (l0:List (List Int)):Option (List Int):=impl_varsIn.l0 k l0 ([]:List Int) 0
theorem impl_varsIn.mono_l:∀ k,(∀ y0 y1 y2,LeO (impl_varsIn.l0 k y0 y1 y2) (impl_varsIn.l0 (k + 1) y0 y1 y2))
 | 0=>fun _ _ _ r h=>by simp [impl_varsIn.l0] at h
 | k + 1=>by
  have ih0:=impl_varsIn.mono_l k
  ·intro y0 y1 y2
   unfold impl_varsIn.l0
   have m0:=@impl_varsIn_1_any.mono
   exact mO
theorem impl_varsIn.mono:∀ a0 k,LeO (impl_varsIn.f k a0) (impl_varsIn.f (k + 1) a0):=by
 intro a0 k
 have ih0:=impl_varsIn.mono_l k
 unfold impl_varsIn.f
 have m0:=@impl_varsIn_1_any.mono
 exact mO
set_option maxHeartbeats 8000000 in
set_option maxRecDepth 100000 in
theorem impl_varsIn.calls (k:Nat) (A0:Option Addr) (c0:Nat) (l0:List (List Int)) (r:List Int) (w:World) (hr0:Kd.C (Kd.slice 3 (Kd.int .i64)) w A0 l0.length l0) (hc0:l0.length ≤ c0) (h:impl_varsIn.f k l0 = some r) :
  Calls Try.prog 70 #[.slice A0 l0.length c0] w fun e w'=>∃ v0_:Value,e = .returned (v0_) ∧ Kd.R (Kd.int .i64) 3 w' w.heap.size (fun _=>True) v0_ r ∧ Below w.heap.size w w':=by
 have HR0:=Aside0.mk hr0
 have HC0:=Aside0.mk hc0
 clear hr0 hc0
 have HB:=Aside0.mk (Below.refl w.heap.size w)
 have H:(impl_varsIn.l0 k l0 ([]:List Int) 0) = some r:=h
 clear h
 have H':=Aside0.mk H
 clear H
 go_enter Try.func70,Try.ntmps70
 go_wp2
 go_loopg [3,5] k (fun kq v3 v5 w'=>∃ (x3_1:List Int) (x5_1:Int),v5 = .int .i64 x5_1 ∧ Aside0 (impl_varsIn.l0 kq l0 x3_1 x5_1 = some r) ∧ Aside0 (kq ≤ k) ∧ Aside0 (Kd.R (Kd.int .i64) 3 w' w.heap.size (fun _=>True) v3 x3_1) ∧ Aside0 (Below w.heap.size w w'))
 case atStart=>exact ⟨(([]:List Int)),(0),Yd,H',⟨Nat.le_refl _⟩,⟨Yi⟩,⟨bH⟩⟩
 case round =>
  clear H'
  obtain ⟨x3_1,x5_1,rfl,HA,HK1,HO_3,HB⟩:=hrel
  cases gk with
  | zero=>exact absurd HA.out (by simp [impl_varsIn.l0])
  | succ k1 =>
   have H:=HA.out
   clear HA
   simp only [impl_varsIn.l0] at H
   by_cases c2:x5_1 < 12
   ·rw [if_pos c2] at H
    have c2b0:=decide_eq_true c2
    clear c2
    replace H:=bI H;obtain ⟨t491,A3,H⟩:=H
    by_cases c4:t491 = true
    ·subst c4
     replace H:=pT H
     replace H:=gK H;obtain ⟨LMc5,H⟩:=H
     obtain ⟨y492,hy492⟩:∃ y_:List Int,y_ = (x3_1 ++ [x5_1]):=⟨_,rfl⟩
     replace H:(impl_varsIn.l0 k1 l0 y492 (wrap64 (x5_1 + 1))) = some r:=by first|(rw [hy492];with_reducible exact H)|(have H2_:=(Option.bind_some _ _).symm.trans H;rw [hy492];with_reducible exact H2_)|(have H2_:=(Option.bind_some _ _).symm.trans H;with_reducible exact H2_)|with_reducible exact H|(rw [hy492];exact H)|exact H
     have Ny492:=Aside0.mk hy492
     clear hy492
     have H':=Aside0.mk H
     clear H
     go_wp2_with (first|(refine xB 4 #[.int .i64 0] 3 ?_;intro gb490 hg w6 hbox hb;replace HO_3:=Aside0.mk (Kd.R_below (Kd.R_elderB (rR HO_3) gb490 (Nat.le_of_eq hg.symm)) hb);have BK490:=Aside0.mk (hbox);have GW490:=gZ w gb490;have GE490:=GW490;replace HB:=bS hb;clear hb hbox hg;have hcz7_0:=qc1_0 BK490;have hfz7_0:=fz BK490 0)|(go_at_call 109;(with_reducible refine (impl_varsIn_1_any.calls k1 _ _ l0 x5_1 gb490 true _ ?side1 ?side2 ?side3 A3.out).mono ?_);(case side1=>exact Kd.C_below HR0.out bH);(case side2=>exact HC0.out);(case side3=>exact Yr);rintro e w8 ⟨rfl,hb⟩;replace HO_3:=Aside0.mk (Kd.R_below YT hb);replace BK490:=Aside0.mk (blk_below (g:=gb490) (o:=.cells #[.int .i64 x5_1] 3 (0,0)) Yr hb);replace HB:=bS hb;(try clear hb);(try clear hb2);(try clear hk);(try clear hi);have hcz9_0:=qc1_0 BK490;have hfz9_0:=fz BK490 0)|((with_reducible refine gate_builtin (b:=.append) (xs:=#[.tmp 11,.tmp 13]) rfl ?_);at_builtin;refine Kd.R_append (Kd.int .i64) (w0:=w) w.heap.size rfl (.tmp 11) (.tmp 13) 24 3 (.int .i64 0) 8 rfl Try.underlying24 info3 rfl (by decide) YP u3 x3_1 x5_1 [.int .i64 x5_1] (fun k_=>k_ ≠ gb490) (fun _=>False) rfl rfl ?aP (fun _ hk=>hk.elim) ?aF ?aO ?aB ?aS ?aL ?_;(case aP=>exact rfl);(case aB=>exact bH);(case aF=>exact (fun k_ hk=>Kd.freshB (bB BK490) k_ hk));(case aO=>exact YG);(case aS=>exact YR);(case aL=>have:=LMc5.out;omega);intro v493 w10 ho hb hg hat;rw [← Ny492.out] at ho;have n0_:=Aside0.mk (blk_grown (bB BK490) hg (Kd.R_away HO_3.out (fun _ hk=>hk.2)));have n1_:=Aside0.mk (hb);have n2_:=Aside0.mk (ho);clear BK490;clear HB;clear HO_3;have BK490:=n0_;have HB:=n1_;have HO494:=n2_;clear n0_ n1_ n2_;clear ho hb hg hat))
     go_roundg k1
     case measure=>have:=HK1.out;omega
     case rel=>exact ⟨(y492),(wrap64 (x5_1 + 1)),Yd,H',⟨YH⟩,⟨by (with_reducible repeat (first|apply Kd.R_alloc|apply Kd.R_drewN|apply Kd.R_drew));exact Kd.R_mono HO494.out (fun _ hk=>trivial)⟩,⟨bH⟩⟩
    ·replace c4:=Bool.eq_false_iff.mpr c4
     subst c4
     replace H:=pF H
     have H':=Aside0.mk H
     clear H
     go_wp2_with (first|(refine xB 4 #[.int .i64 0] 3 ?_;intro gb490 hg w11 hbox hb;replace HO_3:=Aside0.mk (Kd.R_below (Kd.R_elderB (rR HO_3) gb490 (Nat.le_of_eq hg.symm)) hb);have BK490:=Aside0.mk (hbox);have GW490:=gZ w gb490;have GE490:=GW490;replace HB:=bS hb;clear hb hbox hg;have hcz12_0:=qc1_0 BK490;have hfz12_0:=fz BK490 0)|(go_at_call 109;(with_reducible refine (impl_varsIn_1_any.calls k1 _ _ l0 x5_1 gb490 false _ ?side1 ?side2 ?side3 A3.out).mono ?_);(case side1=>exact Kd.C_below HR0.out bH);(case side2=>exact HC0.out);(case side3=>exact Yr);rintro e w13 ⟨rfl,hb⟩;replace HO_3:=Aside0.mk (Kd.R_below YT hb);replace BK490:=Aside0.mk (blk_below (g:=gb490) (o:=.cells #[.int .i64 x5_1] 3 (0,0)) Yr hb);replace HB:=bS hb;clear hb))
     go_roundg k1
     case measure=>have:=HK1.out;omega
     case rel=>exact ⟨(x3_1),(wrap64 (x5_1 + 1)),Yd,H',⟨YH⟩,⟨YU⟩,⟨bH⟩⟩
   ·rw [if_neg c2] at H
    have c2b0:decide (x5_1 < 12) = false:=decide_eq_false c2
    clear c2
    obtain rfl:=Option.some.inj H
    go_wp2
    go_ret
    exact ⟨_,Yb,rR HO_3,bH⟩

/-! ### impl_Sign_isAsked: function 66 -/
def impl_Sign_isAsked.f (k:Nat) (l0_0:List Int) (l1:List (S83)):Option (Bool):=(impl_Sign_isClause.f k l0_0 l1).bind fun t496=>(if t496 = true then ((impl_termsOf.f l1).bind fun t497=>((impl_varsIn.f k t497).bind fun t500=>(some (decide ((t500.length:Int) ≤ 6))))) else (some false))
theorem impl_Sign_isAsked.mono:∀ a0 a1 k,LeO (impl_Sign_isAsked.f k a0 a1) (impl_Sign_isAsked.f (k + 1) a0 a1):=by
 intro a0 a1 k
 unfold impl_Sign_isAsked.f
 have m0:=@impl_Sign_isClause.mono
 have m1:=@impl_varsIn.mono
 exact mO
set_option maxHeartbeats 8000000 in
set_option maxRecDepth 100000 in
theorem impl_Sign_isAsked.calls (k:Nat) (A0_0:Option Addr) (c0_0:Nat) (l0_0:List Int) (A1:Option Addr) (c1:Nat) (l1:List (S83)) (r:Bool) (w:World) (hr0_0:Kd.C (Kd.int .i64) w A0_0 l0_0.length l0_0) (hc0_0:l0_0.length ≤ c0_0) (hr1:Kd.C k83 w A1 l1.length l1) (hc1:l1.length ≤ c1) (h:impl_Sign_isAsked.f k l0_0 l1 = some r) :
  Calls Try.prog 66 #[.agg #[.slice A0_0 l0_0.length c0_0],.slice A1 l1.length c1] w fun e w'=>e = .returned (.bool r) ∧ Below w.heap.size w w':=by
 have hu26:=Try.underlying26
 have HR0_0:=Aside0.mk hr0_0
 have HC0_0:=Aside0.mk hc0_0
 clear hr0_0 hc0_0
 have HR1:=Aside0.mk hr1
 have HC1:=Aside0.mk hc1
 clear hr1 hc1
 have HB:=Aside0.mk (Below.refl w.heap.size w)
 have H:((impl_Sign_isClause.f k l0_0 l1).bind fun t496=>(if t496 = true then ((impl_termsOf.f l1).bind fun t497=>((impl_varsIn.f k t497).bind fun t500=>(some (decide ((t500.length:Int) ≤ 6))))) else (some false))) = some r:=h
 clear h
 replace H:=bI H;obtain ⟨t496,A3,H⟩:=H
 by_cases c4:t496 = true
 ·subst c4
  replace H:=pT H
  replace H:=bI H;obtain ⟨t497,A5,H⟩:=H
  replace H:=bI H;obtain ⟨t500,A6,H⟩:=H
  obtain rfl:=Option.some.inj H
  go_enter Try.func66,Try.ntmps66
  go_wp2_with (first|((with_reducible refine gate_dst (N:=2) rfl ?_);(try (refine gate_guard (by rfl) ?_;dsimp only));refine box_event ?hg (N:=2) ?hd (cs:=#[.slice A0_0 l0_0.length c0_0]) (t:=26) ?hr ?_;(case hd=>rfl);(case hg=>rfl);(case hr=>exact Yc);intro gb495 hg w7 hbox hb;have BK495:=Aside0.mk (hbox);have GW495:=gZ w gb495;have GE495:=GW495;replace HB:=bS hb;clear hb hbox hg;have hcz8_0:=qc1_0 BK495;have hfz8_0:=fz BK495 0)|((with_reducible refine gate_callee (f:=50) rfl ?_);refine goesL_ (some 7) rfl rfl Try.func50 (by kernel_rfl) rfl #[.agg #[.slice A0_0 l0_0.length c0_0],.slice A1 l1.length c1] rfl Ya ?_;(with_reducible refine (impl_Sign_isClause.calls k _ _ l0_0 _ _ l1 true _ ?side1 ?side2 ?side3 ?side4 A3.out).mono ?_);(case side1=>exact Yx);(case side2=>exact Yw);(case side3=>exact sC HR1);(case side4=>exact HC1.out);rintro e w9 ⟨rfl,hb⟩;refine ⟨_,rfl,?_⟩;replace BK495:=bb BK495 hb;replace HB:=bS hb;clear hb)|(go_at_call 71;(with_reducible refine (impl_termsOf.calls _ _ l1 t497 _ ?side1 ?side2 A5.out).mono ?_);(case side1=>exact sC HR1);(case side2=>exact HC1.out);rintro e w10 ⟨v498,rfl,ho0,hb⟩;have HO499:=Aside0.mk (Kd.N_lower ho0 (below_size bH));replace BK495:=bb BK495 hb;replace HB:=bS hb;(try clear hb);(try clear hb2);(try clear hk);(try clear hi);(try clear ho0);obtain ⟨Ao11,co11,eo11⟩:=Kd.N_slice HO499.out;subst eo11)|(go_at_call 70;(with_reducible refine (impl_varsIn.calls k _ _ t497 t500 _ ?side1 ?side2 A6.out).mono ?_);(case side1=>repeat (first|exact (Kd.N_reads' HO499.out).2.2|(with_reducible refine Kd.C_alloc ?_ _)|(with_reducible refine Kd.C_drewN ?_ _)|(with_reducible refine Kd.C_drew ?_)));(case side2=>exact (Kd.N_reads' HO499.out).2.1);rintro e w12 ⟨v501,rfl,ho0,hb⟩;replace HO499:=Aside0.mk (Kd.N_elder' (rN HO499) (Kd.R_base ho0) hb);have HO502:=Aside0.mk (Kd.R_lower ho0 (below_size bH));replace BK495:=bb BK495 hb;replace HB:=bS hb;(try clear hb);(try clear hb2);(try clear hk);(try clear hi);(try clear ho0);obtain ⟨Ao13,co13,eo13⟩:=Kd.R_slice HO502.out;subst eo13))
  go_ret
  exact ⟨Yb,bH⟩
 ·replace c4:=Bool.eq_false_iff.mpr c4
  subst c4
  replace H:=pF H
  obtain rfl:=Option.some.inj H
  go_enter Try.func66,Try.ntmps66
  go_wp2_with (first|((with_reducible refine gate_dst (N:=2) rfl ?_);(try (refine gate_guard (by rfl) ?_;dsimp only));refine box_event ?hg (N:=2) ?hd (cs:=#[.slice A0_0 l0_0.length c0_0]) (t:=26) ?hr ?_;(case hd=>rfl);(case hg=>rfl);(case hr=>exact Yc);intro gb495 hg w14 hbox hb;have BK495:=Aside0.mk (hbox);have GW495:=gZ w gb495;have GE495:=GW495;replace HB:=bS hb;clear hb hbox hg;have hcz15_0:=qc1_0 BK495;have hfz15_0:=fz BK495 0)|((with_reducible refine gate_callee (f:=50) rfl ?_);refine goesL_ (some 7) rfl rfl Try.func50 (by kernel_rfl) rfl #[.agg #[.slice A0_0 l0_0.length c0_0],.slice A1 l1.length c1] rfl Ya ?_;(with_reducible refine (impl_Sign_isClause.calls k _ _ l0_0 _ _ l1 false _ ?side1 ?side2 ?side3 ?side4 A3.out).mono ?_);(case side1=>exact Yx);(case side2=>exact Yw);(case side3=>exact sC HR1);(case side4=>exact HC1.out);rintro e w16 ⟨rfl,hb⟩;refine ⟨_,rfl,?_⟩;replace BK495:=bb BK495 hb;replace HB:=bS hb;clear hb))
  go_ret
  exact ⟨Yb,bH⟩

end Go.Proofs.Ytmgkflkfoccgkaa.QFnTidied
