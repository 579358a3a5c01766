-- Written by this session's own program (wip/x/xprint.py, over the kit's printer); Lean checks it.
import Derived.Test.YtmgkflkfoccgkaaQFnPutForx0
import Derived.Test.YtmgkflkfoccgkaaQFnPutForx1
import Derived.Test.YtmgkflkfoccgkaaQFnPutForx2
namespace Go.Proofs.Ytmgkflkfoccgkaa.QFnPutFor
open Go.RowKit Go.Proofs.YtmgkflkfoccgkaaW.PrintWords Go.Proofs.YtmgkflkfoccgkaaW.PrintLast Go.Proofs.YtmgkflkfoccgkaaW.PrintMore
attribute [local go_sem] max2_int min2_int max_two min_two max_three min_three max_four min_four   -- for this text's walks alone
set_option linter.unusedVariables false
set_option linter.unusedSimpArgs false

/-! ### spec_l1Cur_subst: function 36, by a walk of this session's own -/
def subL (k:Nat) (s0 l1:List Int):Nat → List (List Int) → Int → Int → Option (List (List Int) × Int × Int)
 | 0,b,s1,s2=>some (b,s1,s2)
 | n + 1,b,s1,s2=>(spec_l1Cur_pick.f s0 s1 s2 4).bind fun p=>(spec_l1Cur_pick.f s0 p.2.1 p.2.2 2).bind fun q=>(spec_l1Cur_term.f k s0 q.2.1 q.2.2 l1 (wrap64 (1 + q.1)) 4).bind fun t=>if 0 ≤ p.1 ∧ p.1 < 12 then subL k s0 l1 n (b.set p.1.toNat t.1) t.2.1 t.2.2 else none
def spec_l1Cur_subst.f (k:Nat) (s0_0:List Int) (s0_1 s0_2:Int) (l1_0:List Int):Option (List (List Int) × Int × Int):=(spec_l1Cur_pick.f s0_0 s0_1 s0_2 5).bind fun n=>if 0 ≤ n.1 ∧ n.1 ≤ 4 then (subL k s0_0 l1_0 n.1.toNat (List.replicate 12 []) n.2.1 n.2.2).bind fun u=>(spec_l1Cur_one.f s0_0 u.2.1 u.2.2 40).bind fun z=>some (if z.1 = true then u.1.drop 1 else u.1,z.2.1,z.2.2) else none
theorem subL_mono (k:Nat) (s0 l1:List Int) (n:Nat):∀ b s1 s2,LeO (subL k s0 l1 n b s1 s2) (subL (k + 1) s0 l1 n b s1 s2):=by
 induction n with
 | zero=>intro b s1 s2;exact LeO.refl _
 | succ n ih =>
  intro b s1 s2
  simp only [subL]
  refine LeO.bind (LeO.refl _) (fun p=>LeO.bind (LeO.refl _) (fun q=>LeO.bind (spec_l1Cur_term.mono _ _ _ _ _ _ _) (fun t=>LeO.ite (ih _ _ _) (LeO.refl _))))
theorem spec_l1Cur_subst.mono:∀ a0 a1 a2 a3 k,LeO (spec_l1Cur_subst.f k a0 a1 a2 a3) (spec_l1Cur_subst.f (k + 1) a0 a1 a2 a3):=by
 intro a0 a1 a2 a3 k
 unfold spec_l1Cur_subst.f
 exact LeO.bind (LeO.refl _) (fun n=>LeO.ite (LeO.bind (subL_mono k a0 a3 _ _ _ _) (fun u=>LeO.refl _)) (LeO.refl _))
theorem subL_len (k:Nat) (s0 l1:List Int) (n:Nat):∀ b s1 s2 u,subL k s0 l1 n b s1 s2 = some u → u.1.length = b.length:=by
 induction n with
 | zero=>intro b s1 s2 u h;rw [subL,Option.some.injEq] at h;rw [← h]
 | succ n ih =>
  intro b s1 s2 u h
  rw [subL] at h
  obtain ⟨p,_,h⟩:=Option.bind_eq_some_iff.1 h
  obtain ⟨q,_,h⟩:=Option.bind_eq_some_iff.1 h
  obtain ⟨t,_,h⟩:=Option.bind_eq_some_iff.1 h
  split at h
  ·rw [ih _ _ _ _ h,List.length_set]
  ·cases h
set_option maxHeartbeats 16000000 in
set_option maxRecDepth 1000000 in
theorem spec_l1Cur_subst.calls (k:Nat) (g:Nat) (s0_0:List Int) (s0_1:Int) (s0_2:Int) (A1_0:Option Addr) (c1_0:Nat) (l1_0:List Int) (r1:List (List Int)) (r2:Int) (r3:Int) (w0 w:World) (hI:IsS60 w0 w g s0_0 s0_1 s0_2) (hB:Below w0.heap.size w0 w) (hr1_0:Kd.C (Kd.int .i64) w A1_0 l1_0.length l1_0) (hc1_0:l1_0.length ≤ c1_0) (hf1_0:∀ ad,A1_0 = some ad → 0 < l1_0.length → ad.block ≠ g) (h:spec_l1Cur_subst.f k s0_0 s0_1 s0_2 l1_0 = some (r1,r2,r3)) :
  Calls Try.prog 36 #[.pointer (some ⟨g,0,none⟩),.agg #[.slice A1_0 l1_0.length c1_0]] w fun e w'=>∃ v0_:Value,e = .returned (v0_) ∧ Kd.Q (Kd.slice 3 (Kd.int .i64)) 24 w' w.heap.size (fun _=>True) v0_ r1 ∧ IsS60 w0 w' g s0_0 r2 r3 ∧ Below w0.heap.size w0 w' ∧ KeepBut w w' g none:=by
 unfold spec_l1Cur_subst.f at h
 obtain ⟨⟨n0,n1,n2⟩,hn,h⟩:=Option.bind_eq_some_iff.1 h
 simp only at h
 split at h
 rotate_left
 ·cases h
 rename_i hnr
 obtain ⟨⟨u0,u1,u2⟩,hu,h⟩:=Option.bind_eq_some_iff.1 h
 obtain ⟨⟨z0,z1,z2⟩,hz,h⟩:=Option.bind_eq_some_iff.1 h
 simp only [Option.some.injEq,Prod.mk.injEq] at h hu hz
 obtain ⟨hr1,rfl,rfl⟩:=h
 have hul:=subL_len _ _ _ _ _ _ _ _ hu
 rw [List.length_replicate] at hul
 simp only at hul
 have HI:=Aside0.mk (IsS60.alloc hI (.cells #[.slice A1_0 l1_0.length c1_0] 26))
 have HK:=Aside0.mk (keep_alloc (KeepBut.refl w g none) (.cells #[.slice A1_0 l1_0.length c1_0] 26))
 have HB:=Aside0.mk (below_alloc hB (.cells #[.slice A1_0 l1_0.length c1_0] 26))
 have BK:Aside0 ((w.alloc (.cells #[.slice A1_0 l1_0.length c1_0] 26)).heap[w.heap.size]? = some (.cells #[.slice A1_0 l1_0.length c1_0] 26 (0,0))):=⟨heap_alloc_new w _⟩
 have hlt:=IsS60.lt hI
 have HR1:=Aside0.mk hr1_0
 have HN:=Aside0.mk hn
 have HU:=Aside0.mk hu
 have HZ:=Aside0.mk hz
 have HUL:=Aside0.mk hul
 have HRR:=Aside0.mk hr1
 have HL:=Aside0.mk hB.size
 clear hI hB hr1_0 hn hu hz hul hr1
 go_enter Try.func36,Try.ntmps36
 go_upto_region 1 with fail
 obtain ⟨gs,hgs⟩:∃ g',g' = w.heap.size:=⟨_,rfl⟩
 have NG:Aside0 (gs ≠ g):=⟨by omega⟩
 generalize w.alloc (.cells #[.slice A1_0 l1_0.length c1_0] 26) = W0 at HI HK HB BK ⊢
 rw [← hgs] at BK ⊢
 clear hgs hlt
 go_wp2_with (first|((with_reducible refine gate_dst (N:=7) rfl ?_);refine Kd.S_make (Kd.slice 3 (Kd.int .i64)) _ 24 rfl (N:=7) rfl 27 _ _ rfl 12 rfl rfl Try.underlying27 (.slice none 0 0) 24 info24 rfl (by decide) (by decide) [] (ok:=fun _=>True) (okp:=fun _=>True) ⟨_,rfl,Kd.R_nil _ _ _ _ _⟩ (fun _ hk=>hk) trivial (by decide) (by decide) (Below.refl _ _) (Nat.le_refl _) ?_;intro v W1 ho hb hg_ hnew_;have HS:=Aside0.mk (Kd.S_lower ho (keep_size HK.out));replace BK:=Aside0.mk (blk_below BK.out hb);replace HK:=Aside0.mk (KeepBut.trans HK.out (KeepBut.of_below hb g none) (.inl rfl));replace HB:=Aside0.mk (below_step HB.out hb);replace HI:=Aside0.mk (IsS60.below HI.out hb);clear ho hb hg_ hnew_)|(go_at_call 73;with_reducible refine (spec_l1Cur_pick.calls g s0_0 s0_1 s0_2 5 n0 n1 n2 w0 _ HI.out HB.out HN.out).mono ?_;rintro e W2 ⟨rfl,hi,hb,hk⟩;replace BK:=Aside0.mk (KeepBut.blk hk BK.out NG.out (by simp));replace HS:=Aside0.mk (Kd.S_mono (Kd.S_keep (IsS60.apartS HI.out HS.out (by decide)) hk (fun _ h=>h.2)) (fun _ h=>h.1));replace HK:=Aside0.mk (KeepBut.trans HK.out hk (.inl rfl));replace HB:=Aside0.mk hb;replace HI:=Aside0.mk hi;clear hi hb hk))
 obtain ⟨n,hnn⟩:∃ n:Nat,n0 = (n:Int):=⟨n0.toNat,by omega⟩
 subst hnn
 rw [Int.toNat_natCast] at HU
 have HSR:=Aside0.mk (show Kd.S (Kd.slice 3 (Kd.int .i64)) 24 W2 w.heap.size (fun _=>True) v (List.replicate 12 []) from Kd.S_mono HS.out (fun _ _=>trivial))
 have hn4:n ≤ 4:=by omega
 clear HS HN hnr
 go_loopw [6] (fun v6 wr=>∃ (j:Nat) (b:List (List Int)) (s1 s2:Int),j ≤ 4 ∧ v6 = .int .i64 (j:Int) ∧ Hid (b.length = 12) ∧ Hid (subL k s0_0 l1_0 j b s1 s2 = some (u0,u1,u2)) ∧ Hid (Kd.S (Kd.slice 3 (Kd.int .i64)) 24 wr w.heap.size (fun _=>True) v b) ∧ Hid (IsS60 w0 wr g s0_0 s1 s2) ∧ Hid (Below w0.heap.size w0 wr) ∧ Hid (KeepBut w wr g none) ∧ Hid (wr.heap[gs]? = some (.cells #[.slice A1_0 l1_0.length c1_0] 26 (0,0)))) (fun v6 _=>(intOf v6).toNat)
 case atStart=>exact ⟨n,List.replicate 12 [],_,_,hn4,rfl,List.length_replicate,HU.out,HSR.out,HI.out,HB.out,HK.out,BK.out⟩
 case round =>
  rename World=>Wq
  clear HSR HI HB HK BK HU hn4
  obtain ⟨j,b,s1,s2,hj,rfl,hbl,hsub,hS,hI,hB,hK,hbk⟩:=hrel
  unfold Hid at hbl hsub hS hI hB hK hbk
  cases j with
  | succ j =>
   rw [subL] at hsub
   obtain ⟨⟨p0,p1,p2⟩,hp,hsub⟩:=Option.bind_eq_some_iff.1 hsub
   obtain ⟨⟨q0,q1,q2⟩,hq,hsub⟩:=Option.bind_eq_some_iff.1 hsub
   obtain ⟨⟨t0,t1,t2⟩,ht,hsub⟩:=Option.bind_eq_some_iff.1 hsub
   simp only at hq ht hsub
   split at hsub
   rotate_left
   ·cases hsub
   rename_i hpr
   have HP:=Aside0.mk hp
   have HQ:=Aside0.mk hq
   have HT:=Aside0.mk ht
   have HSB:=Aside0.mk hsub
   have HS:=Aside0.mk hS
   have HI:=Aside0.mk hI
   have HB:=Aside0.mk hB
   have HK:=Aside0.mk hK
   have BK:=Aside0.mk hbk
   have hlen:=Aside0.mk hbl
   have HPR:=Aside0.mk hpr
   clear hp hq ht hsub hS hI hB hK hbk hbl hpr
   have hj1:decide ((0:Int) < ((j + 1:Nat):Int)) = true:=decide_eq_true (by omega)
   go_wp2
   have h0:Wq.cell? ⟨gs,0,none⟩ = some (.slice A1_0 l1_0.length c1_0):=(blk_cell BK.out 0).trans rfl
   refine start_ (n:=11) (S:=fun w'=>w'.cell? ⟨gs,0,none⟩ = some (.slice A1_0 l1_0.length c1_0)) (ds:=[10]) #[false,false,false,false,false,false,false,false,false,false,false] (by kernel_rfl) rfl rfl h0 (fun hHeld=>?_)
   clear h0
   replace HI:=Aside0.mk (IsS60.drew HI.out)
   replace HB:=Aside0.mk (below_drew1 HB.out)
   replace HK:=Aside0.mk (keep_drew HK.out)
   replace HS:=Aside0.mk (Kd.S_drew HS.out)
   replace BK:=Aside0.mk (blk_drew BK.out)
   generalize Wq.drew = W1 at HI HB HK HS BK hHeld ⊢
   refine pU (i:=0) (N:=some 14) #[true,false,false,false,false,false,false,false,false,false,false] (by kernel_rfl) ?_
   refine pU (i:=1) (N:=some 15) #[true,true,false,false,false,false,false,false,false,false,false] (by kernel_rfl) ?_
   refine pU (i:=3) (N:=some 17) #[true,true,false,true,false,false,false,false,false,false,false] (by kernel_rfl) ?_
   refine tK1 (i:=4) (N:=some 18) #[true,true,false,true,true,false,false,false,false,false,false] (by kernel_rfl) hHeld ?_
   refine pU (i:=5) (N:=some 19) #[true,true,false,true,true,true,false,false,false,false,false] (by kernel_rfl) ?_
   refine one_ (i:=2) (N:=(some 16)) #[true,true,true,true,true,true,false,false,false,false,false] rfl rfl (by kernel_rfl) (by decide) (fun K hK=>?_)
   refine goes_ Try.func73 (by kernel_rfl) rfl #[.pointer (some ⟨g,0,none⟩),.int .i64 4] (by rfl) rfl rfl YG ?_
   with_reducible refine (spec_l1Cur_pick.calls g s0_0 s1 s2 4 p0 p1 p2 w0 W1 HI.out HB.out HP.out).mono ?_
   rintro e W2 ⟨rfl,hi,hb,hk⟩
   refine ⟨_,rfl,?_⟩
   replace BK:=Aside0.mk (KeepBut.blk hk BK.out NG.out (by simp))
   replace HS:=Aside0.mk (Kd.S_mono (Kd.S_keep (IsS60.apartS HI.out HS.out (by decide)) hk (fun _ h=>h.2)) (fun _ h=>h.1))
   replace HK:=Aside0.mk (KeepBut.trans HK.out hk (.inl rfl))
   replace HB:=Aside0.mk hb
   replace HI:=Aside0.mk hi
   clear hi hb hk
   refine hK.out _ _ ((blk_cell BK.out 0).trans rfl) (fun hHeld=>?_)
   clear hK K
   refine nM (N:=some 16) ?_
   refine one_ (i:=6) (N:=(some 20)) #[true,true,true,true,true,true,true,false,false,false,false] rfl rfl (by kernel_rfl) (by decide) (fun K hK=>?_)
   refine goes_ Try.func73 (by kernel_rfl) rfl #[.pointer (some ⟨g,0,none⟩),.int .i64 2] (by rfl) rfl rfl YG ?_
   with_reducible refine (spec_l1Cur_pick.calls g s0_0 p1 p2 2 q0 q1 q2 w0 W2 HI.out HB.out HQ.out).mono ?_
   rintro e W3 ⟨rfl,hi,hb,hk⟩
   refine ⟨_,rfl,?_⟩
   replace BK:=Aside0.mk (KeepBut.blk hk BK.out NG.out (by simp))
   replace HS:=Aside0.mk (Kd.S_mono (Kd.S_keep (IsS60.apartS HI.out HS.out (by decide)) hk (fun _ h=>h.2)) (fun _ h=>h.1))
   replace HK:=Aside0.mk (KeepBut.trans HK.out hk (.inl rfl))
   replace HB:=Aside0.mk hb
   replace HI:=Aside0.mk hi
   clear hi hb hk
   refine hK.out _ _ ((blk_cell BK.out 0).trans rfl) (fun hHeld=>?_)
   clear hK K
   refine nM (N:=some 20) ?_
   refine pU (i:=7) (N:=some 21) #[true,true,true,true,true,true,true,true,false,false,false] (by kernel_rfl) ?_
   have hCk:=Aside0.mk (show Kd.C (Kd.int .i64) W3 A1_0 l1_0.length l1_0 from Kd.C_keep 0 HR1.out HK.out hf1_0)
   refine one_ (i:=8) (N:=(some 22)) #[true,true,true,true,true,true,true,true,true,false,false] rfl rfl (by kernel_rfl) (by decide) (fun K hK=>?_)
   refine goes_ Try.func74 (by kernel_rfl) rfl #[.pointer (some ⟨g,0,none⟩),.agg #[.slice A1_0 l1_0.length c1_0],.int .i64 (wrap64 (1 + q0)),.int .i64 4] (by rfl) rfl rfl YG ?_
   with_reducible refine (spec_l1Cur_term.calls k g s0_0 q1 q2 A1_0 c1_0 l1_0 (wrap64 (1 + q0)) 4 t0 t1 t2 w0 W3 HI.out HB.out hCk.out hc1_0 hf1_0 HT.out).mono ?_
   first|rintro e W4 v rfl ho hi hb hk|rintro e W4 ⟨v,rfl,ho,hi,hb,hk⟩
   refine ⟨_,rfl,?_⟩
   replace BK:=Aside0.mk (KeepBut.blk hk BK.out NG.out (by simp))
   have HV:=Aside0.mk (Kd.R_lower ho (keep_size (w:=w) (g:=g) (row:=none) HK.out))
   replace HS:=Aside0.mk (Kd.S_mono (Kd.S_told (Kd.S_oldK (IsS60.apartS HI.out HS.out (by decide)) hk) (Kd.R_base ho)) (fun _ h_=>h_.1))
   replace HK:=Aside0.mk (KeepBut.trans HK.out hk (.inl rfl))
   replace HB:=Aside0.mk hb
   replace HI:=Aside0.mk hi
   clear hi hb hk ho
   obtain ⟨AV,cV,rfl⟩:=Kd.R_slice HV.out
   refine hK.out _ _ ((blk_cell BK.out 0).trans rfl) (fun hHeld=>?_)
   clear hK K
   refine nM (N:=some 22) ?_
   obtain ⟨gT,cT,eT,hgb,hgl,csT,hcT⟩:=Kd.S_form HS.out (by rw [hlen.out];omega)
   subst eT
   have pp0:=HPR.out.1
   have pp1:p0 < (b.length:Int):=by rw [hlen.out];exact HPR.out.2
   have pp1b:decide (p0 < (b.length:Int)) = true:=decide_eq_true pp1
   have pp0b:decide (0 ≤ p0) = true:=decide_eq_true pp0
   have PP0:=Aside0.mk pp0
   have PP1:=Aside0.mk pp1
   replace pp0:=eq_true pp0
   replace pp1:=eq_true pp1
   have HGB:=Aside0.mk hgb
   have HCT:=Aside0.mk hcT
   clear hgb hcT hgl
   refine pU (i:=9) (N:=some 23) #[true,true,true,true,true,true,true,true,true,true,false] (by kernel_rfl) ?_
   obtain ⟨oki,c,hcl,hM,hcc,hfr,hoki,hH⟩:=Kd.S_elem (Kd.S_mono HS.out (fun k_ h=>⟨trivial,fun q_=>h.2 q_⟩:∀ k_,_ → (True ∧ ¬ (some k_ = (.slice AV t0.length cV:Value).ownBlock)))) [] p0 PP0.out PP1.out
   have hz0:p0.toNat * (Kd.slice 3 (Kd.int .i64)).sz + 0 = p0.toNat:=by show p0.toNat * 1 + 0 = p0.toNat;omega
   have hsg:=(Kd.S_seg (okg:=fun k_=>some k_ = (.slice AV t0.length cV:Value).ownBlock) (ok:=fun _=>True) hH PP0.out PP1.out (seg:=[.slice AV t0.length cV]) (j:=0) (by show 0 + 1 ≤ 1;omega) (x':=t0) (okp:=fun k_=>some k_ = (.slice AV t0.length cV:Value).ownBlock) (by
    have h9:c.take 0 ++ [Value.slice AV t0.length cV] ++ c.drop (0 + 1) = [Value.slice AV t0.length cV]:=by
     have h8:c.length = 1:=hcl
     rw [List.take_zero,List.nil_append,List.drop_eq_nil_of_le (by omega),List.append_nil]
    have h8:[Value.slice AV t0.length cV].length = 1:=rfl
    rw [h8,h9]
    exact ⟨_,rfl,Kd.R_tight rfl HV.out⟩) (fun k_ h=>.inr h) (fun k_ h=>⟨trivial,fun q_=>((Kd.S_R HS.out).1 gT rfl).2 (q_ ▸ h)⟩)).1
   rw [hz0] at hsg
   have hce:∃ u,W4.cell? ⟨gT,p0.toNat,none⟩ = some u:=by have h8:c.length = 1:=hcl;have:=hcc 0 (c[0]'(by omega)) (by simp);rw [hz0] at this;exact ⟨_,this⟩
   have hfe:W4.frozen? ⟨gT,p0.toNat,none⟩ = false:=by have:=hfr 0;rwa [hz0] at this
   have HSG:=Aside0.mk (show Kd.S (Kd.slice 3 (Kd.int .i64)) 24 (W4.setCell ⟨gT,p0.toNat,none⟩ (.slice AV t0.length cV)) w.heap.size (fun _=>True) (.slice (some ⟨gT,0,none⟩) b.length cT) (b.set p0.toNat t0) from hsg)
   obtain ⟨uo,hce⟩:=hce
   clear hcl hM hcc hfr hoki hH hz0 hsg
   refine last_ (i:=10) (N:=none) #[true,true,true,true,true,true,true,true,true,true,true] rfl rfl (by kernel_rfl) (by decide) (fun K hK=>?_)
   refine skip_ (w1:=?_) (by rfl) rfl ?_ ?_
   rotate_left
   ·go_simp
    rfl
   clear hce hfe hHeld
   have hgne:=IsS60.ne_blk HI.out HCT.out (by decide)
   have hsne:gs ≠ gT:=fun q_=>blk_ne HCT.out BK.out (by decide) q_.symm
   replace HI:=Aside0.mk (IsS60.far (p:=⟨gT,p0.toNat,none⟩) HI.out hgne (.slice AV t0.length cV))
   replace HB:=Aside0.mk (below_set (v:=.slice AV t0.length cV) (j:=p0.toNat) HB.out (Nat.le_trans HL.out HGB.out))
   replace HK:=Aside0.mk (keep_far (p:=⟨gT,p0.toNat,none⟩) HK.out HGB.out (.slice AV t0.length cV))
   replace BK:=Aside0.mk (blk_far (p:=⟨gT,p0.toNat,none⟩) BK.out hsne (.slice AV t0.length cV))
   clear HS HV HCT hgne hsne
   generalize W4.setCell ⟨gT,p0.toNat,none⟩ (.slice AV t0.length cV) = W5 at HI HB HK BK HSG ⊢
   refine hK.out _ _ ?_
   clear hK K
   refine done_ (by kernel_rfl) ?_
   have hjw:wrap64 (((j + 1:Nat):Int) - 1) = (j:Int):=by rw [show ((j + 1:Nat):Int) - 1 = (j:Int) by omega];unfold wrap64;omega
   have HJW:=Aside0.mk hjw
   clear hjw
   go_wp2
   go_roundw
   case rel=>exact ⟨j,b.set p0.toNat t0,t1,t2,by omega,rfl,by unfold Hid;rw [List.length_set];exact hlen.out,HSB.out,HSG.out,HI.out,HB.out,HK.out,BK.out⟩
   case measure=>simp [intOf]
  | zero =>
   rw [subL] at hsub
   simp only [Option.some.injEq,Prod.mk.injEq] at hsub
   obtain ⟨rfl,rfl,rfl⟩:=hsub
   have HS:=Aside0.mk hS
   have HI:=Aside0.mk hI
   have HB:=Aside0.mk hB
   have HK:=Aside0.mk hK
   clear hS hI hB hK hbk
   obtain ⟨gT,cT,eT,hgb,hgl,csT,hcT⟩:=Kd.S_form HS.out (by rw [hbl];omega)
   subst eT
   clear hgb hgl hcT hj
   obtain ⟨i0,hi0,_,hsz,_⟩:=info_parts info24
   have hc12:=(Kd.S_reads' HS.out).2.1
   rw [hbl] at hc12
   have hc1:¬ cT = 1:=by omega
   have hcut:=cut_from (P:=Try.prog) 27 24 .i64 Try.underlying27 hi0 1 hsz (some ⟨gT,0,none⟩) b.length cT 1 (by omega) (by rw [hbl];omega)
   rw [if_neg (show ¬ cT = (1:Int).toNat from hc1)] at hcut
   have HBL:=Aside0.mk hbl
   clear hc12 hi0 hsz hbl
   cases z0 with
   | false =>
    clear hcut
    go_wp2_with (go_at_call 75;with_reducible refine (spec_l1Cur_one.calls g s0_0 s1 s2 40 _ z1 z2 w0 _ HI.out HB.out HZ.out).mono ?_;rintro e W2 ⟨rfl,hi,hb,hk⟩;replace HS:=Aside0.mk (Kd.S_mono (Kd.S_keep (IsS60.apartS HI.out HS.out (by decide)) hk (fun _ h=>h.2)) (fun _ h=>h.1));replace HK:=Aside0.mk (KeepBut.trans HK.out hk (.inl rfl));replace HB:=Aside0.mk hb;replace HI:=Aside0.mk hi;clear hi hb hk)
    go_ret
    exact ⟨_,rfl,by rw [← HRR.out,if_neg (by decide)];exact Kd.Q_of_R (Kd.S_R (Kd.S_mono HS.out (fun _ _=>trivial))),HI.out,HB.out,HK.out⟩
   | true =>
    go_wp2_with (go_at_call 75;with_reducible refine (spec_l1Cur_one.calls g s0_0 s1 s2 40 _ z1 z2 w0 _ HI.out HB.out HZ.out).mono ?_;rintro e W2 ⟨rfl,hi,hb,hk⟩;replace HS:=Aside0.mk (Kd.S_mono (Kd.S_keep (IsS60.apartS HI.out HS.out (by decide)) hk (fun _ h=>h.2)) (fun _ h=>h.1));replace HK:=Aside0.mk (KeepBut.trans HK.out hk (.inl rfl));replace HB:=Aside0.mk hb;replace HI:=Aside0.mk hi;clear hi hb hk)
    go_ret
    have hq:=Kd.Q_drop (k:=1) (Kd.Q_of_R (Kd.S_R (Kd.S_mono HS.out (ok':=fun _=>True) (fun _ _=>trivial)))) (by rw [HBL.out];omega)
    rw [if_neg hc1] at hq
    exact ⟨_,rfl,by rw [← HRR.out];simp only [↓reduceIte];exact hq,HI.out,HB.out,HK.out⟩

/-! ### spec_l1Cur_among: function 76 -/
def spec_l1Cur_among.f (s0_0:List Int) (s0_1:Int) (s0_2:Int) (l1:List Int):Option (Int × Int × Int):=(spec_l1Cur_pick.f s0_0 s0_1 s0_2 (l1.length:Int)).bind fun bt161=>(if 0 ≤ bt161.1 then (if bt161.1 < (l1.length:Int) then (some (rd l1 bt161.1,bt161.2.1,bt161.2.2)) else (none)) else (none))
set_option maxHeartbeats 8000000 in
set_option maxRecDepth 100000 in
theorem spec_l1Cur_among.calls (g:Nat) (s0_0:List Int) (s0_1:Int) (s0_2:Int) (A1:Option Addr) (c1:Nat) (l1:List Int) (r1:Int) (r2:Int) (r3:Int) (w0 w:World) (hI:IsS60 w0 w g s0_0 s0_1 s0_2) (hB:Below w0.heap.size w0 w) (hr1:Kd.C (Kd.int .i64) w A1 l1.length l1) (hc1:l1.length ≤ c1) (hf1:∀ ad,A1 = some ad → 0 < l1.length → ad.block ≠ g) (h:spec_l1Cur_among.f s0_0 s0_1 s0_2 l1 = some (r1,r2,r3)) :
  Calls Try.prog 76 #[.pointer (some ⟨g,0,none⟩),.slice A1 l1.length c1] w fun e w'=>e = .returned (.int .i64 r1) ∧ IsS60 w0 w' g s0_0 r2 r3 ∧ Below w0.heap.size w0 w' ∧ KeepBut w w' g none:=by
 have HR1:=Aside0.mk hr1
 have HC1:=Aside0.mk hc1
 clear hr1 hc1
 have HI0:=Aside0.mk hI
 have HK:=Aside0.mk (KeepBut.refl w g none)
 have HL:=Aside0.mk hB.size
 clear hI
 have HW0:=Aside0.mk hB.size
 have HB:=Aside0.mk hB
 clear hB
 have H:((spec_l1Cur_pick.f s0_0 s0_1 s0_2 (l1.length:Int)).bind fun bt161=>(if 0 ≤ bt161.1 then (if bt161.1 < (l1.length:Int) then (some (rd l1 bt161.1,bt161.2.1,bt161.2.2)) else (none)) else (none))) = some (r1,r2,r3):=h
 clear h
 replace H:=Option.bind_eq_some_iff.mp H
 obtain ⟨⟨t161,t162,t163⟩,A30,H⟩:=H
 replace H:(if 0 ≤ t161 then (if t161 < (l1.length:Int) then (some (rd l1 t161,t162,t163)) else (none)) else (none)) = some (r1,r2,r3):=H
 have A3:=Aside0.mk A30
 clear A30
 by_cases c4:0 ≤ t161
 ·rw [if_pos c4] at H
  have c4b0:=decide_eq_true c4
  clear c4
  by_cases c5:t161 < (l1.length:Int)
  ·rw [if_pos c5] at H
   have c5b0:=decide_eq_true c5
   clear c5
   simp only [Option.some.injEq,Prod.mk.injEq] at H
   obtain ⟨rfl,rfl,rfl⟩:=H
   go_enter Try.func76,Try.ntmps76
   go_wp2_with (first|((with_reducible refine gate_callee (f:=73) rfl ?_);refine goesL_ (some 9) rfl rfl Try.func73 (by kernel_rfl) rfl #[.pointer (some ⟨g,0,none⟩),.int .i64 (l1.length:Int)] rfl Ya ?_;(with_reducible refine (spec_l1Cur_pick.calls g s0_0 s0_1 s0_2 (l1.length:Int) t161 t162 t163 w0 _ ?side1 ?side2 A3.out).mono ?_);(case side1=>exact iIsS60);(case side2=>exact bH);rintro e w6 ⟨rfl,hi,hb,hk⟩;refine ⟨_,rfl,?_⟩;replace HK:=Aside0.mk (KeepBut.trans kB hk (.inl rfl));replace HB:=Aside0.mk (hb);replace HI0:=Aside0.mk (hi);(try clear hb);(try clear hb2);(try clear hk);(try clear hi);have p164:0 ≤ (t161:Int):=oD;have q164:t161 < (l1.length:Int):=oD;obtain ⟨ad164,e164,hx164_0⟩:=Kd.at_int HR1.out t161 p164 q164;cases e164;replace hx164_0:=keep_cell HK.out hx164_0 (by first|(rw [add_block];exact hf1 _ rfl (by omega))|exact hf1 _ rfl (by omega)|exact hf1 ad164 rfl (by omega));replace p164:=eq_true p164;replace q164:=eq_true q164))
   go_ret
   exact ⟨Yb,iIsS60,bH,kB⟩
  ·rw [if_neg c5] at H
   exact absurd H (by simp)
 ·rw [if_neg c4] at H
  exact absurd H (by simp)

end Go.Proofs.Ytmgkflkfoccgkaa.QFnPutFor
