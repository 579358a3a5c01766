-- Written by this session's own program (wip/x/xprint.py, over the kit's printer); Lean checks it.
import Derived.Test.YtmgkflkfoccgkaaQFnTidiedx0
import Derived.Test.YtmgkflkfoccgkaaQFnTidiedx1
import Derived.Test.YtmgkflkfoccgkaaQFnTidiedx4
import Derived.Test.YtmgkflkfoccgkaaQFnTidiedx9
import Derived.Test.YtmgkflkfoccgkaaQFnTidiedx11
import Derived.Test.YtmgkflkfoccgkaaQFnTidiedx12
import Derived.Test.YtmgkflkfoccgkaaQFnTidiedx14
namespace Go.Proofs.Ytmgkflkfoccgkaa.QFnTidied
open Go.RowKit Go.Proofs.YtmgkflkfoccgkaaW.PrintWords Go.Proofs.YtmgkflkfoccgkaaW.PrintLast Go.Proofs.YtmgkflkfoccgkaaW.PrintMore
attribute [local go_sem] max2_int min2_int max_two min_two max_three min_three max_four min_four   -- for this text's walks alone
set_option linter.unusedVariables false
set_option linter.unusedSimpArgs false

/-! ### spec_l4Rename: function 62, by a walk of this session's own -/
def spec_l4Terms.f (l:List S83):Option (List (List Int)):=if l.length ≤ 1048576 then some (flatT l) else none
set_option maxHeartbeats 8000000 in
set_option maxRecDepth 1000000 in
theorem spec_l4Terms.calls (A0:Option Addr) (c0:Nat) (l0:List S83) (r:List (List Int)) (w:World) (hr0:Kd.C k83 w A0 l0.length l0) (hc0:l0.length ≤ c0) (h:spec_l4Terms.f l0 = some r) :
  Calls Try.prog 107 #[.slice A0 l0.length c0] w fun e w'=>∃ v0_:Value,e = .returned v0_ ∧ Kd.N (Kd.slice 3 (Kd.int .i64)) 24 w' w.heap.size (fun _=>True) v0_ r ∧ Below w.heap.size w w':=by
 unfold spec_l4Terms.f at h
 split at h
 rotate_left
 ·cases h
 rename_i hn
 obtain rfl:=Option.some.inj h
 have H0:=Aside0.mk hr0
 clear h hr0
 go_enter Try.func107,Try.ntmps107
 go_wp2
 go_loopw [3,8] (fun v3 v8 wr=>∃ j:Nat,j ≤ l0.length ∧ v8 = .int .i64 j ∧ Hid (Kd.N (Kd.slice 3 (Kd.int .i64)) 24 wr w.heap.size (fun _=>True) v3 (flatT (l0.take j))) ∧ Hid (Below w.heap.size w wr)) (fun _ v8 _=>l0.length - (intOf v8).toNat)
 case atStart=>exact ⟨0,Nat.zero_le _,rfl,Kd.N_nil _ _ _ _ _,Below.refl _ _⟩
 case round =>
  obtain ⟨j,hj,rfl,hN,hB⟩:=hrel
  unfold Hid at hN hB
  by_cases hp:j < l0.length
  ·obtain ⟨ad,L1,e1,L2,e2,eA,q0,q1,q2,z1,i1,z2,i2⟩:=at_T83 H0.out (j:Int) (by omega) (by omega)
   have hrd:rd_T83 l0 (j:Int) = l0[j]:=by unfold rd_T83;simp [List.getD_eq_getElem?_getD,hp]
   rw [Int.toNat_natCast] at q0 q1 q2
   rw [hrd] at q0 q1 q2 z1 i1 z2 i2
   subst eA
   have htk:l0.take (j + 1) = l0.take j ++ [l0[j]]:=by rw [List.take_succ_eq_append_getElem hp]
   generalize l0[j] = x at htk q0 q1 q2 z1 i1 z2 i2
   replace q0:=(hB.cell (World.block_lt_of_cell? w _ q0)).trans q0
   replace q1:=(hB.cell (World.block_lt_of_cell? w _ q1)).trans q1
   replace q2:=(hB.cell (World.block_lt_of_cell? w _ q2)).trans q2
   have I1:=Aside0.mk (fk_slice (e:=3) z1 (Kd.C_F (Kd.heap_int _) i1))
   have I2:=Aside0.mk (fk_slice (e:=3) z2 (Kd.C_F (Kd.heap_int _) i2))
   have HTK:=Aside0.mk htk
   have HN:=Aside0.mk hN
   have HB:=Aside0.mk hB
   clear hN hB i1 i2 htk hrd z1 z2
   go_upto_region 5 with fail
   have HX:=Aside0.mk (heap_alloc_new wr (.cells #[.bool x.f0,.slice L1 x.f1.length e1,.slice L2 x.f2.length e2] 83))
   have HN:=Aside0.mk (Kd.N_alloc HN.out (.cells #[.bool x.f0,.slice L1 x.f1.length e1,.slice L2 x.f2.length e2] 83))
   have HB:=Aside0.mk (Below.alloc HB.out HB.out.size (.cells #[.bool x.f0,.slice L1 x.f1.length e1,.slice L2 x.f2.length e2] 83))
   clear q0 q1 q2
   obtain ⟨g,hg⟩:∃ g,g = wr.heap.size:=⟨_,rfl⟩
   generalize wr.alloc (.cells #[.bool x.f0,.slice L1 x.f1.length e1,.slice L2 x.f2.length e2] 83) = W1 at HX HN HB ⊢
   rw [← hg] at HX ⊢
   clear hg
   have b1:W1.cell? ⟨g,1,none⟩ = some (.slice L1 x.f1.length e1):=(blk_cell HX.out 1).trans rfl
   have b2:W1.cell? ⟨g,2,none⟩ = some (.slice L2 x.f2.length e2):=(blk_cell HX.out 2).trans rfl
   go_wp2_with (first
    | ((with_reducible refine gate_dst (N:=17) rfl ?_);refine Kd.N_lit (Kd.slice 3 (Kd.int .i64)) (w0:=w) w.heap.size 24 ?hg (N':=17) ?hd (xs:=[x.f1,x.f2]) (inner:=[.slice L1 x.f1.length e1,.slice L2 x.f2.length e2]) (ok:=fun k_=>k_ < w.heap.size ∨ W1.heap.size ≤ k_) (okp:=fun k_=>k_ < w.heap.size) ?hr (reps2 (Kd.FK_below I1.out HB.out) (Kd.FK_below I2.out HB.out)) (fun k_ h=>.inl h) (.inr (Nat.le_refl _)) HB.out HB.out.size (by simp) ?_;(case hd=>rfl);(case hg=>rfl);(case hr=>exact Yc);intro vl Wl hl_ hb hg_ hat_;have HL:=Aside0.mk hl_;have HBl:=Aside0.mk hb;have HN2:=Aside0.mk (Kd.N_grown HN.out hg_ (fun _ _=>by simp));have HNL:=Aside0.mk (Kd.N_lt HN.out);clear hl_ hb hg_ hat_ HN HB;obtain ⟨Al,cl,rfl⟩:=Kd.N_slice HL.out)
    | ((with_reducible refine gate_builtin (b:=.append) (xs:=#[.tmp 12,.tmp 17]) rfl ?_);at_builtin;refine Kd.N_append_rows (Kd.slice 3 (Kd.int .i64)) (w0:=w) w.heap.size rfl (.tmp 12) (.tmp 17) 27 24 (.slice none 0 0) 24 rfl Try.underlying27 info24 rfl (by decide) (by decide) _ (flatT (l0.take j)) [x.f1,x.f2] Al 2 cl (fun _=>True) (fun k_=>k_ < w.heap.size ∨ W1.heap.size ≤ k_) rfl rfl HN2.out (Kd.N_F HL.out) (fun k_ hk=>⟨trivial,fun q_=>by have h1:=Kd.N_base HN2.out k_ q_.symm;have h2:=HNL.out k_ q_.symm;omega⟩) (fun _ _=>trivial) HBl.out HBl.out.size ?aL ?_;(case aL=>rw [flat_len,List.length_take];omega);intro v1 w1 ho hb hg_ hat_;have HO:=Aside0.mk ho;have HBo:=Aside0.mk hb;clear ho hb hg_ hat_))
   go_roundw
   case rel=>exact ⟨j + 1,by omega,rfl,by have:=HO.out;unfold Hid;rw [HTK.out,flat_snoc];exact this,HBo.out⟩
   case measure=>simp [intOf];omega
  ·obtain rfl:j = l0.length:=by omega
   rw [List.take_length] at hN
   have HN:=Aside0.mk hN
   have HB:=Aside0.mk hB
   clear hN hB
   go_wp2
   go_ret
   exact ⟨_,rfl,HN.out,HB.out⟩
/-- A clause with other terms. -/
def zipN (l:List S83) (t:List (List Int)):Nat → List S83
 | 0=>[]
 | n + 1=>zipN l t n ++ [⟨(rd_T83 l (n:Int)).f0,rd_L2 t (2 * n:Int),rd_L2 t (2 * n + 1:Int)⟩]
theorem zipN_len (l:List S83) (t:List (List Int)):∀ n,(zipN l t n).length = n:=by
 intro n
 induction n with
 | zero=>rfl
 | succ n ih=>simp [zipN,ih]
theorem w64_ {x:Int} (h0:-9223372036854775808 ≤ x) (h1:x ≤ 9223372036854775807):wrap64 x = x:=by
 unfold wrap64;omega
def spec_l4Rename.f (k:Nat) (l:List S83):Option (List S83):=if l.length ≤ 1048576 then (spec_l2Rename.f k (flatT l)).bind fun t=>if t.length = 2 * l.length then some (zipN l t l.length) else none else none
theorem spec_l4Rename.mono (y0:List S83) (k:Nat):LeO (spec_l4Rename.f k y0) (spec_l4Rename.f (k + 1) y0):=by
 intro r h
 unfold spec_l4Rename.f at h ⊢
 split at h
 rotate_left
 ·cases h
 rename_i g
 rw [if_pos g]
 obtain ⟨t,ht,h⟩:=Option.bind_eq_some_iff.1 h
 rw [spec_l2Rename.mono _ k t ht,Option.bind_some]
 exact h
set_option maxHeartbeats 8000000 in
set_option maxRecDepth 1000000 in
theorem spec_l4Rename.calls (k:Nat) (A0:Option Addr) (c0:Nat) (l0:List S83) (r:List S83) (w:World) (hr0:Kd.C k83 w A0 l0.length l0) (hc0:l0.length ≤ c0) (h:spec_l4Rename.f k l0 = some r) :
  Calls Try.prog 62 #[.slice A0 l0.length c0] w fun e w'=>∃ v0_:Value,e = .returned v0_ ∧ Kd.S k83 83 w' w.heap.size (fun _=>True) v0_ r ∧ Below w.heap.size w w':=by
 unfold spec_l4Rename.f at h
 split at h
 rotate_left
 ·cases h
 rename_i hn
 obtain ⟨t,ht,h⟩:=Option.bind_eq_some_iff.1 h
 split at h
 rotate_left
 ·cases h
 rename_i htl
 obtain rfl:=Option.some.inj h
 have H0:=Aside0.mk hr0
 have HT0:=Aside0.mk ht
 have h1:=spec_l4Terms.calls A0 c0 l0 (flatT l0) w hr0 hc0 (by unfold spec_l4Terms.f;rw [if_pos hn])
 clear h hr0 ht
 go_enter Try.func62,Try.ntmps62
 go_wp2_with (go_at_call 107;refine h1.mono ?_)
 first|rintro e W1 v rfl hr hd|rintro e W1 ⟨v,rfl,hr,hd⟩
 obtain ⟨A1,c1,rfl⟩:=Kd.N_slice hr
 have h2:=spec_l2Rename.calls k A1 c1 (flatT l0) t W1 (Kd.N_reads' hr).2.2 (Kd.N_reads' hr).2.1 HT0.out
 have HB:=Aside0.mk hd
 clear h1 hr hd
 go_wp2_with (go_at_call 106;refine h2.mono ?_)
 first|rintro e W2 v rfl hr hd|rintro e W2 ⟨v,rfl,hr,hd⟩
 obtain ⟨AT,cT,rfl⟩:=Kd.S_slice hr
 obtain ⟨f,hf⟩:=hr
 have HT:=Aside0.mk (Kd.R_mono (Kd.R_bound (Kd.R_lower hf HB.out.size)) (ok':=fun k_=>k_ < W2.heap.size) (fun k_ h=>h.2.2.1))
 have HB:=Aside0.mk (below_step HB.out hd)
 clear h2 hf hd
 go_wp2
 go_loopw [4,12] (fun v4 v12 wr=>∃ j:Nat,j ≤ l0.length ∧ v12 = .int .i64 j ∧ Hid (Kd.S k83 83 wr w.heap.size (fun k_=>W2.heap.size ≤ k_ ∨ f k_ < 2 * j) v4 (zipN l0 t j)) ∧ Hid ((Kd.tag f (Kd.slice 3 (Kd.int .i64))).R 24 wr w.heap.size (fun k_=>k_ < W2.heap.size) (.slice AT t.length cT) t.zipIdx) ∧ Hid (Below w.heap.size w wr) ∧ Hid (W2.heap.size ≤ wr.heap.size)) (fun _ v12 _=>l0.length - (intOf v12).toNat)
 case atStart=>exact ⟨0,Nat.zero_le _,rfl,Kd.S_nil _ _ _ _ _,HT.out,HB.out,Nat.le_refl _⟩
 case round =>
  clear HT HB
  obtain ⟨j,hj,rfl,hO,hT,hB,hSZ⟩:=hrel
  unfold Hid at hO hT hB hSZ
  by_cases hp:j < l0.length
  ·obtain ⟨ad,L1,e1,L2,e2,eA,q0,q1,q2,z1,i1,z2,i2⟩:=at_T83 H0.out (j:Int) (by omega) (by omega)
   rw [Int.toNat_natCast] at q0 q1 q2
   subst eA
   have hzip:zipN l0 t (j + 1) = zipN l0 t j ++ [⟨(rd_T83 l0 (j:Int)).f0,rd_L2 t (2 * j:Int),rd_L2 t (2 * j + 1:Int)⟩]:=rfl
   generalize rd_T83 l0 (j:Int) = x at hzip q0 q1 q2 z1 i1 z2 i2
   replace q0:=(hB.cell (World.block_lt_of_cell? w _ q0)).trans q0
   replace q1:=(hB.cell (World.block_lt_of_cell? w _ q1)).trans q1
   replace q2:=(hB.cell (World.block_lt_of_cell? w _ q2)).trans q2
   obtain ⟨gT,capT,eT,_,hgTl,csT,hcT⟩:=Kd.R_form hT (by rw [List.length_zipIdx];omega)
   rw [List.length_zipIdx] at eT
   have HNT:=Aside0.mk (Kd.S_ne hO hcT (by decide):some gT ≠ u4.ownBlock)
   have HNG:Aside0 (some wr.heap.size ≠ u4.ownBlock):=⟨fun q_=>Nat.lt_irrefl _ (Kd.S_lt hO _ q_.symm)⟩
   clear hgTl hcT
   injection eT with eT _ eT2
   subst eT eT2
   obtain ⟨ca,hcla,hMa,hcca,_⟩:=Kd.R_elem hT ([],0) (2 * j:Int) (by omega) (by omega)
   obtain ⟨cb,hclb,hMb,hccb,_⟩:=Kd.R_elem hT ([],0) (2 * j + 1:Int) (by omega) (by omega)
   have za:t.zipIdx.getD (2 * (j:Int)).toNat ([],0) = (rd_L2 t (2 * j:Int),2 * j):=by
    have h9:(2 * (j:Int)).toNat = 2 * j:=by omega
    unfold rd_L2
    rw [h9,List.getD_eq_getElem?_getD,List.getElem?_zipIdx,List.getD_eq_getElem?_getD,List.getElem?_eq_getElem (by omega)]
    simp
   have zb:t.zipIdx.getD (2 * (j:Int) + 1).toNat ([],0) = (rd_L2 t (2 * j + 1:Int),2 * j + 1):=by
    have h9:(2 * (j:Int) + 1).toNat = 2 * j + 1:=by omega
    unfold rd_L2
    rw [h9,List.getD_eq_getElem?_getD,List.getElem?_zipIdx,List.getD_eq_getElem?_getD,List.getElem?_eq_getElem (by omega)]
    simp
   rw [za] at hMa
   rw [zb] at hMb
   obtain ⟨va,rfl,ra⟩:=hMa
   obtain ⟨vb,rfl,rb⟩:=hMb
   have ta:wr.cell? ⟨gT,2 * j,none⟩ = some va:=by
    have:=hcca 0 _ rfl
    rw [show (2 * (j:Int)).toNat * (Kd.tag f (Kd.slice 3 (Kd.int .i64))).sz + 0 = 2 * j by show (2 * (j:Int)).toNat * 1 + 0 = 2 * j;omega] at this
    exact this
   have tb:wr.cell? ⟨gT,2 * j + 1,none⟩ = some vb:=by
    have:=hccb 0 _ rfl
    rw [show (2 * (j:Int) + 1).toNat * (Kd.tag f (Kd.slice 3 (Kd.int .i64))).sz + 0 = 2 * j + 1 by show (2 * (j:Int) + 1).toNat * 1 + 0 = 2 * j + 1;omega] at this
    exact this
   have RA:=Aside0.mk (show (Kd.int .i64).R 3 wr w.heap.size (fun k_=>(k_ < W2.heap.size ∧ k_ ≠ gT) ∧ f k_ = 2 * j) va (rd_L2 t (2 * j:Int)) from ra)
   have RB:=Aside0.mk (show (Kd.int .i64).R 3 wr w.heap.size (fun k_=>(k_ < W2.heap.size ∧ k_ ≠ gT) ∧ f k_ = 2 * j + 1) vb (rd_L2 t (2 * j + 1:Int)) from rb)
   clear hcca hccb ra rb
   obtain ⟨Aa,ca_,rfl⟩:=Kd.R_slice RA.out
   obtain ⟨Ab,cb_,rfl⟩:=Kd.R_slice RB.out
   generalize rd_L2 t (2 * j:Int) = ya at hzip RA ta ⊢
   generalize rd_L2 t (2 * j + 1:Int) = yb at hzip RB tb ⊢
   have HZ:=Aside0.mk hzip
   have HO:=Aside0.mk hO
   have HT:=Aside0.mk hT
   have HB:=Aside0.mk hB
   clear hzip hO hT hB i1 i2 z1 z2
   go_upto_region 6 with fail
   have HX:=Aside0.mk (heap_alloc_new wr (.cells #[.bool x.f0,.slice L1 x.f1.length e1,.slice L2 x.f2.length e2] 83))
   have HO:=Aside0.mk (Kd.S_alloc HO.out (.cells #[.bool x.f0,.slice L1 x.f1.length e1,.slice L2 x.f2.length e2] 83))
   have HT:=Aside0.mk (Kd.R_alloc HT.out (.cells #[.bool x.f0,.slice L1 x.f1.length e1,.slice L2 x.f2.length e2] 83))
   have RA:=Aside0.mk (Kd.R_alloc RA.out (.cells #[.bool x.f0,.slice L1 x.f1.length e1,.slice L2 x.f2.length e2] 83))
   have RB:=Aside0.mk (Kd.R_alloc RB.out (.cells #[.bool x.f0,.slice L1 x.f1.length e1,.slice L2 x.f2.length e2] 83))
   have hbl:=below_alloc (Below.refl wr.heap.size wr) (.cells #[.bool x.f0,.slice L1 x.f1.length e1,.slice L2 x.f2.length e2] 83)
   replace ta:=(hbl.cell (World.block_lt_of_cell? wr _ ta)).trans ta
   replace tb:=(hbl.cell (World.block_lt_of_cell? wr _ tb)).trans tb
   have HB:=Aside0.mk (Below.alloc HB.out HB.out.size (.cells #[.bool x.f0,.slice L1 x.f1.length e1,.slice L2 x.f2.length e2] 83))
   clear q0 q1 q2
   obtain ⟨g,hg⟩:∃ g,g = wr.heap.size:=⟨_,rfl⟩
   have HSZ:=Aside0.mk (Nat.le_trans hSZ hbl.size)
   clear hbl
   generalize wr.alloc (.cells #[.bool x.f0,.slice L1 x.f1.length e1,.slice L2 x.f2.length e2] 83) = W3 at HX HO HT RA RB ta tb HB HSZ ⊢
   rw [← hg] at HX HNG ⊢
   clear hg
   have b0:W3.cell? ⟨g,0,none⟩ = some (.bool x.f0):=(blk_cell HX.out 0).trans rfl
   have hjb:j < 1048576:=by omega
   have hw1:wrap64 (2 * (j:Int)) = 2 * (j:Int):=w64_ (by omega) (by omega)
   have hw2:wrap64 (2 * (j:Int) + 1) = 2 * (j:Int) + 1:=w64_ (by omega) (by omega)
   have hm1:(2 * (j:Int)).toNat = 2 * j:=by omega
   have hm2:(2 * (j:Int) + 1).toNat = 2 * j + 1:=by omega
   have hm3:(0 ≤ 2 * (j:Int)) = True:=eq_true (by omega)
   have hm4:(0 ≤ 2 * (j:Int) + 1) = True:=eq_true (by omega)
   have hm5:(2 * (j:Int) < 2 * (l0.length:Int)) = True:=eq_true (by omega)
   have hm6:(2 * (j:Int) + 1 < 2 * (l0.length:Int)) = True:=eq_true (by omega)
   have hd0:Below W3.heap.size W3 W3.drew:=below_drew1 (Below.refl _ _)
   replace ta:=(hd0.cell (World.block_lt_of_cell? W3 _ ta)).trans ta
   replace tb:=(hd0.cell (World.block_lt_of_cell? W3 _ tb)).trans tb
   replace b0:=(hd0.cell (World.block_lt_of_cell? W3 _ b0)).trans b0
   have HO:=Aside0.mk (Kd.S_drew HO.out)
   have HT:=Aside0.mk (Kd.R_drew HT.out)
   have RA:=Aside0.mk (Kd.R_drew RA.out)
   have RB:=Aside0.mk (Kd.R_drew RB.out)
   have HB:=Aside0.mk (below_drew1 HB.out)
   have HSZ:=Aside0.mk (Nat.le_trans HSZ.out hd0.size)
   clear hd0
   have TA:=Aside0.mk ta
   have TB:=Aside0.mk tb
   have B0:=Aside0.mk b0
   refine start_ (n:=18) (S:=fun w'=>w'.cell? ⟨g,0,none⟩ = some (.bool x.f0) ∧ w'.cell? ⟨gT,2 * j,none⟩ = some (.slice Aa ya.length ca_) ∧ w'.cell? ⟨gT,2 * j + 1,none⟩ = some (.slice Ab yb.length cb_)) (ds:=[]) #[false,false,false,false,false,false,false,false,false,false,false,false,false,false,false,false,false,false] (by kernel_rfl) rfl rfl ⟨b0,ta,tb⟩ (fun hHeld=>?_)
   clear ta tb b0 HX
   generalize W3.drew = W4 at HO HT RA RB HB HSZ TA TB B0 hHeld ⊢
   refine pU (i:=0) (N:=some 17) #[true,false,false,false,false,false,false,false,false,false,false,false,false,false,false,false,false,false] (by kernel_rfl) ?_
   refine pU (i:=1) (N:=some 18) #[true,true,false,false,false,false,false,false,false,false,false,false,false,false,false,false,false,false] (by kernel_rfl) ?_
   refine tK3 (i:=2) (N:=some 19) #[true,true,true,false,false,false,false,false,false,false,false,false,false,false,false,false,false,false] (by kernel_rfl) hHeld ?_
   refine pU (i:=3) (N:=some 20) #[true,true,true,true,false,false,false,false,false,false,false,false,false,false,false,false,false,false] (by kernel_rfl) ?_
   refine pU (i:=4) (N:=some 21) #[true,true,true,true,true,false,false,false,false,false,false,false,false,false,false,false,false,false] (by kernel_rfl) ?_
   refine pU (i:=5) (N:=some 22) #[true,true,true,true,true,true,false,false,false,false,false,false,false,false,false,false,false,false] (by kernel_rfl) ?_
   refine pU (i:=6) (N:=some 23) #[true,true,true,true,true,true,true,false,false,false,false,false,false,false,false,false,false,false] (by kernel_rfl) ?_
   refine tK3 (i:=7) (N:=some 24) #[true,true,true,true,true,true,true,true,false,false,false,false,false,false,false,false,false,false] (by kernel_rfl) hHeld ?_
   refine pU (i:=8) (N:=some 25) #[true,true,true,true,true,true,true,true,true,false,false,false,false,false,false,false,false,false] (by kernel_rfl) ?_
   refine pU (i:=9) (N:=some 26) #[true,true,true,true,true,true,true,true,true,true,false,false,false,false,false,false,false,false] (by kernel_rfl) ?_
   refine pU (i:=10) (N:=some 27) #[true,true,true,true,true,true,true,true,true,true,true,false,false,false,false,false,false,false] (by kernel_rfl) ?_
   refine pU (i:=11) (N:=some 28) #[true,true,true,true,true,true,true,true,true,true,true,true,false,false,false,false,false,false] (by kernel_rfl) ?_
   refine pU (i:=12) (N:=some 29) #[true,true,true,true,true,true,true,true,true,true,true,true,true,false,false,false,false,false] (by kernel_rfl) ?_
   refine tK3 (i:=13) (N:=some 30) #[true,true,true,true,true,true,true,true,true,true,true,true,true,true,false,false,false,false] (by kernel_rfl) hHeld ?_
   refine pU (i:=14) (N:=some 31) #[true,true,true,true,true,true,true,true,true,true,true,true,true,true,true,false,false,false] (by kernel_rfl) ?_
   refine one_ (i:=15) (N:=(some 32)) #[true,true,true,true,true,true,true,true,true,true,true,true,true,true,true,true,false,false] rfl rfl (by kernel_rfl) (by decide) (fun K hK=>?_)
   refine value_ (w1:=?_) (v:=?_) (by rfl) rfl ?_ ?_
   rotate_left 2
   ·go_simp
    constructor
    ·rfl
    ·rfl
   refine hK.out _ _ ⟨(below_alloc (Below.refl _ _) _).cell (World.block_lt_of_cell? _ _ hHeld.1) |>.trans hHeld.1,(below_alloc (Below.refl _ _) _).cell (World.block_lt_of_cell? _ _ hHeld.2.1) |>.trans hHeld.2.1,(below_alloc (Below.refl _ _) _).cell (World.block_lt_of_cell? _ _ hHeld.2.2) |>.trans hHeld.2.2⟩ (fun hHeld=>?_)
   clear hK K
   refine nM (N:=some 32) ?_
   refine one_ (i:=16) (N:=(some 33)) #[true,true,true,true,true,true,true,true,true,true,true,true,true,true,true,true,true,false] rfl rfl (by kernel_rfl) (by decide) (fun K hK=>?_)
   have hW2:W2.heap.size ≤ W4.heap.size:=HSZ.out
   refine Kd.S_append_step k83 (w0:=w) w.heap.size (by rfl) (.tmp 17) (.tmp 32) 40 83 (.agg #[.bool false,.slice none 0 0,.slice none 0 0]) 56 rfl Try.underlying40 info83 rfl (by decide) (by decide) u4 (zipN l0 t j) (⟨x.f0,ya,yb⟩:S83) [.bool x.f0,.slice Aa ya.length ca_,.slice Ab yb.length cb_] (fun k_=>W2.heap.size ≤ k_ ∨ f k_ < 2 * (j + 1)) (fun k_=>(k_ < W2.heap.size ∧ (f k_ = 2 * j ∨ f k_ = 2 * j + 1)) ∧ some k_ ≠ u4.ownBlock) rfl rfl (k83_mkM _ _ _ (⟨x.f0,ya,yb⟩:S83) (Kd.R_mono (Kd.R_apart' RA.out (Kd.S_typed HO.out) (by decide)) (fun k_ h=>⟨⟨h.1.1.1,.inl h.1.2⟩,h.2⟩)) (Kd.R_mono (Kd.R_apart' RB.out (Kd.S_typed HO.out) (by decide)) (fun k_ h=>⟨⟨h.1.1.1,.inr h.1.2⟩,h.2⟩))) (fun k_ hk=>⟨.inr (by have:=hk.1.2;omega),hk.2⟩) (fun k_ hk=>.inl (Nat.le_trans hW2 hk)) (Kd.S_mono HO.out (fun k_ h=>⟨h.elim .inl (fun h=>.inr (by omega)),fun q_=>by have h1:=q_.1.1;have h2:=q_.1.2;omega⟩)) HB.out HB.out.size (by rw [zipN_len];omega) ?_
   intro v1 w1 ho hb hg_ hat_
   have HT2:=Aside0.mk (Kd.R_over' HT.out (Kd.S_typed HO.out) (by show ∀ q,q ∈ 24 :: (Kd.slice 3 (Kd.int .i64)).E → q ≠ 83;decide) hg_)
   have HO2:=Aside0.mk ho
   have HB2:=Aside0.mk hb
   have HSZ2:=Aside0.mk (Nat.le_trans hW2 hg_.size)
   have eT1:=hg_.block gT (World.block_lt_of_cell? _ _ TA.out) HNT.out
   have eG1:=hg_.block g (World.block_lt_of_cell? _ _ B0.out) HNG.out
   have c0:w1.cell? ⟨g,0,none⟩ = some (.bool x.f0):=by have:=B0.out;unfold World.cell? at this ⊢;rw [eG1];exact this
   have c1:w1.cell? ⟨gT,2 * j,none⟩ = some (.slice Aa ya.length ca_):=by have:=TA.out;unfold World.cell? at this ⊢;rw [eT1];exact this
   have c2:w1.cell? ⟨gT,2 * j + 1,none⟩ = some (.slice Ab yb.length cb_):=by have:=TB.out;unfold World.cell? at this ⊢;rw [eT1];exact this
   clear ho hb hg_ hat_ eT1 eG1 hHeld
   refine hK.out _ _ ⟨c0,c1,c2⟩ (fun hHeld=>?_)
   clear hK K
   refine nM (N:=some 33) ?_
   clear c0 c1 c2
   refine pU (i:=17) (N:=some 4) #[true,true,true,true,true,true,true,true,true,true,true,true,true,true,true,true,true,true] (by kernel_rfl) ?_
   clear hHeld
   refine done_ (by kernel_rfl) ?_
   go_wp2
   go_roundw
   case rel=>exact ⟨j + 1,hp,rfl,by have:=HO2.out;unfold Hid;rw [HZ.out];exact this,HT2.out,HB2.out,HSZ2.out⟩
   case measure=>simp [intOf];omega
  ·obtain rfl:j = l0.length:=by omega
   have HO:=Aside0.mk hO
   have HB:=Aside0.mk hB
   clear hO hB hT
   go_wp2
   go_ret
   exact ⟨_,rfl,Kd.S_mono HO.out (fun _ _=>trivial),HB.out⟩

/-! ### spec_RenameClause: function 22 -/
def spec_RenameClause.f (k:Nat) (l0_0:List Int) (l1:List (S83)):Option ((List (S83)) × Bool):=(spec_GoodClause.f k l0_0 l1).bind fun t449=>(if t449 = true then ((spec_l4Rename.f k l1).bind fun t450=>(some (t450,true))) else (some (([]:List (S83)),false)))
theorem spec_RenameClause.mono:∀ a0 a1 k,LeO (spec_RenameClause.f k a0 a1) (spec_RenameClause.f (k + 1) a0 a1):=by
 intro a0 a1 k
 unfold spec_RenameClause.f
 have m0:=@spec_GoodClause.mono
 have m1:=@spec_l4Rename.mono
 exact mO
set_option maxHeartbeats 8000000 in
set_option maxRecDepth 100000 in
theorem spec_RenameClause.calls (k:Nat) (A0_0:Option Addr) (c0_0:Nat) (l0_0:List Int) (A1:Option Addr) (c1:Nat) (l1:List (S83)) (r1:List (S83)) (r2:Bool) (w:World) (hr0_0:Kd.C (Kd.int .i64) w A0_0 l0_0.length l0_0) (hc0_0:l0_0.length ≤ c0_0) (hr1:Kd.C k83 w A1 l1.length l1) (hc1:l1.length ≤ c1) (h:spec_RenameClause.f k l0_0 l1 = some (r1,r2)) :
  Calls Try.prog 22 #[.agg #[.slice A0_0 l0_0.length c0_0],.slice A1 l1.length c1] w fun e w'=>∃ v0_:Value,e = .returned (.tuple #[v0_,.bool r2]) ∧ Kd.S k83 83 w' w.heap.size (fun _=>True) v0_ r1 ∧ Below w.heap.size w w':=by
 have hu26:=Try.underlying26
 have HR0_0:=Aside0.mk hr0_0
 have HC0_0:=Aside0.mk hc0_0
 clear hr0_0 hc0_0
 have HR1:=Aside0.mk hr1
 have HC1:=Aside0.mk hc1
 clear hr1 hc1
 have HB:=Aside0.mk (Below.refl w.heap.size w)
 have H:((spec_GoodClause.f k l0_0 l1).bind fun t449=>(if t449 = true then ((spec_l4Rename.f k l1).bind fun t450=>(some (t450,true))) else (some (([]:List (S83)),false)))) = some (r1,r2):=h
 clear h
 replace H:=bI H;obtain ⟨t449,A3,H⟩:=H
 by_cases c4:t449 = true
 ·subst c4
  replace H:=pT H
  replace H:=bI H;obtain ⟨t450,A5,H⟩:=H
  simp only [Option.some.injEq,Prod.mk.injEq] at H
  obtain ⟨rfl,rfl⟩:=H
  go_enter Try.func22,Try.ntmps22
  go_wp2_with (first|(refine xB 2 #[.slice A0_0 l0_0.length c0_0] 26 ?_;intro gb448 hg w6 hbox hb;have BK448:=Aside0.mk (hbox);have GW448:=gZ w gb448;have GE448:=GW448;replace HB:=bS hb;clear hb hbox hg;have hcz7_0:=qc1_0 BK448;have hfz7_0:=fz BK448 0)|((with_reducible refine gate_callee (f:=27) rfl ?_);refine goesL_ (some 8) rfl rfl Try.func27 (by kernel_rfl) rfl #[.agg #[.slice A0_0 l0_0.length c0_0],.slice A1 l1.length c1] rfl Ya ?_;(with_reducible refine (spec_GoodClause.calls k _ _ l0_0 _ _ l1 true _ ?side1 ?side2 ?side3 ?side4 A3.out).mono ?_);(case side1=>exact Yx);(case side2=>exact Yw);(case side3=>exact sC HR1);(case side4=>exact HC1.out);rintro e w8 ⟨rfl,hb⟩;refine ⟨_,rfl,?_⟩;replace BK448:=bb BK448 hb;replace HB:=bS hb;clear hb)|((with_reducible refine gate_callee (f:=62) rfl ?_);refine goesL_ (some 11) rfl rfl Try.func62 (by kernel_rfl) rfl #[.slice A1 l1.length c1] rfl Ya ?_;(with_reducible refine (spec_l4Rename.calls k _ _ l1 t450 _ ?side1 ?side2 A5.out).mono ?_);(case side1=>exact sC HR1);(case side2=>exact HC1.out);rintro e w9 ⟨v451,rfl,ho0,hb⟩;refine ⟨_,rfl,?_⟩;have HO452:=Aside0.mk (Kd.S_lower ho0 (below_size bH));replace BK448:=bb BK448 hb;replace HB:=bS hb;clear hb ho0))
  go_ret2
  exact ⟨_,Yb,rS HO452,bH⟩
 ·replace c4:=Bool.eq_false_iff.mpr c4
  subst c4
  replace H:=pF H
  simp only [Option.some.injEq,Prod.mk.injEq] at H
  obtain ⟨rfl,rfl⟩:=H
  go_enter Try.func22,Try.ntmps22
  go_wp2_with (first|(refine xB 2 #[.slice A0_0 l0_0.length c0_0] 26 ?_;intro gb448 hg w10 hbox hb;have BK448:=Aside0.mk (hbox);have GW448:=gZ w gb448;have GE448:=GW448;replace HB:=bS hb;clear hb hbox hg;have hcz11_0:=qc1_0 BK448;have hfz11_0:=fz BK448 0)|((with_reducible refine gate_callee (f:=27) rfl ?_);refine goesL_ (some 8) rfl rfl Try.func27 (by kernel_rfl) rfl #[.agg #[.slice A0_0 l0_0.length c0_0],.slice A1 l1.length c1] rfl Ya ?_;(with_reducible refine (spec_GoodClause.calls k _ _ l0_0 _ _ l1 false _ ?side1 ?side2 ?side3 ?side4 A3.out).mono ?_);(case side1=>exact Yx);(case side2=>exact Yw);(case side3=>exact sC HR1);(case side4=>exact HC1.out);rintro e w12 ⟨rfl,hb⟩;refine ⟨_,rfl,?_⟩;replace BK448:=bb BK448 hb;replace HB:=bS hb;clear hb))
  go_ret2
  exact ⟨_,Yb,Yl,bH⟩

/-! ### impl_isTautology_1: function 108 -/
def impl_isTautology_1.f (k:Nat) (a0_0:Bool) (l0_1:List Int) (l0_2:List Int) (a1_0:Bool) (l1_1:List Int) (l1_2:List Int):Option (Bool):=if (a1_0 != a0_0) = true then ((impl_sameSides.f k a1_0 l1_1 l1_2 a0_0 l0_1 l0_2).bind fun t454=>(some t454)) else (some false)
theorem impl_isTautology_1.mono:∀ a0 a1 a2 a3 a4 a5 k,LeO (impl_isTautology_1.f k a0 a1 a2 a3 a4 a5) (impl_isTautology_1.f (k + 1) a0 a1 a2 a3 a4 a5):=by
 intro a0 a1 a2 a3 a4 a5 k
 unfold impl_isTautology_1.f
 have m0:=@impl_sameSides.mono
 exact mO
set_option maxHeartbeats 8000000 in
set_option maxRecDepth 100000 in
theorem impl_isTautology_1.calls (k:Nat) (a0_0:Bool) (A0_1:Option Addr) (c0_1:Nat) (l0_1:List Int) (A0_2:Option Addr) (c0_2:Nat) (l0_2:List Int) (g1_:Nat) (a1_0:Bool) (A1_1:Option Addr) (c1_1:Nat) (l1_1:List Int) (A1_2:Option Addr) (c1_2:Nat) (l1_2:List Int) (r:Bool) (w:World) (hr0_1:Kd.C (Kd.int .i64) w A0_1 l0_1.length l0_1) (hc0_1:l0_1.length ≤ c0_1) (hr0_2:Kd.C (Kd.int .i64) w A0_2 l0_2.length l0_2) (hc0_2:l0_2.length ≤ c0_2) (hr1_1:Kd.C (Kd.int .i64) w A1_1 l1_1.length l1_1) (hc1_1:l1_1.length ≤ c1_1) (hr1_2:Kd.C (Kd.int .i64) w A1_2 l1_2.length l1_2) (hc1_2:l1_2.length ≤ c1_2) (hg1:w.heap[g1_]? = some (.cells #[.bool a1_0,.slice A1_1 l1_1.length c1_1,.slice A1_2 l1_2.length c1_2] 83 (0,0))) (h:impl_isTautology_1.f k a0_0 l0_1 l0_2 a1_0 l1_1 l1_2 = some r) :
  Calls Try.prog 108 #[.agg #[.bool a0_0,.slice A0_1 l0_1.length c0_1,.slice A0_2 l0_2.length c0_2],.pointer (some ⟨g1_,0,none⟩)] w fun e w'=>e = .returned (.bool r) ∧ Below w.heap.size w w':=by
 have hu83:=Try.underlying83
 have HR0_1:=Aside0.mk hr0_1
 have HC0_1:=Aside0.mk hc0_1
 clear hr0_1 hc0_1
 have HR0_2:=Aside0.mk hr0_2
 have HC0_2:=Aside0.mk hc0_2
 clear hr0_2 hc0_2
 have HR1_1:=Aside0.mk hr1_1
 have HC1_1:=Aside0.mk hc1_1
 clear hr1_1 hc1_1
 have HR1_2:=Aside0.mk hr1_2
 have HC1_2:=Aside0.mk hc1_2
 clear hr1_2 hc1_2
 have BK1:=Aside0.mk hg1
 clear hg1
 have HB:=Aside0.mk (Below.refl w.heap.size w)
 have H:(if (a1_0 != a0_0) = true then ((impl_sameSides.f k a1_0 l1_1 l1_2 a0_0 l0_1 l0_2).bind fun t454=>(some t454)) else (some false)) = some r:=h
 clear h
 by_cases c3:(a1_0 != a0_0) = true
 ·rw [if_pos c3] at H
  have c3b0:(a1_0 != a0_0) = true:=c3
  (try (have c3b1:decide (a1_0 = a0_0) = false:=by simpa using c3))
  (try (have c3b2:(a1_0 == a0_0) = false:=by simpa using c3))
  (try (have c3b3:¬ (a1_0 = a0_0):=by simpa using c3))
  clear c3
  replace H:=bI H;obtain ⟨t454,A4,H⟩:=H
  obtain rfl:=Option.some.inj H
  go_enter Try.func108,Try.ntmps108
  go_wp2_with (first|(refine xB 2 #[.bool a0_0,.slice A0_1 l0_1.length c0_1,.slice A0_2 l0_2.length c0_2] 83 ?_;intro gb453 hg w5 hbox hb;have BK453:=Aside0.mk (hbox);have GW453:=gZ w gb453;have GE453:=GW453;replace HB:=bS hb;have NB1_453:=nl BK1 g1_ gb453;have NB453_1:=nr NB1_453;replace BK1:=bb BK1 hb;clear hb hbox hg;have hnb6:=NB1_453.out;have hnc6:=NB453_1.out;have hcz7_0:=qc3_0 BK1;have hcz7_1:=qc3_1 BK1;have hcz7_2:=qc3_2 BK1;have hfz7_0:=fz BK1 0;have hfz7_1:=fz BK1 1;have hfz7_2:=fz BK1 2;have hcz8_0:=qc3_0 BK453;have hcz8_1:=qc3_1 BK453;have hcz8_2:=qc3_2 BK453;have hfz8_0:=fz BK453 0;have hfz8_1:=fz BK453 1;have hfz8_2:=fz BK453 2)|(go_at_call 99;(with_reducible refine (impl_sameSides.calls k a1_0 _ _ l1_1 _ _ l1_2 a0_0 _ _ l0_1 _ _ l0_2 t454 _ ?side1 ?side2 ?side3 ?side4 ?side5 ?side6 ?side7 ?side8 A4.out).mono ?_);(case side1=>exact YY);(case side2=>exact YW);(case side3=>exact sC HR1_2);(case side4=>exact HC1_2.out);(case side5=>exact sC HR0_1);(case side6=>exact HC0_1.out);(case side7=>exact sC HR0_2);(case side8=>exact HC0_2.out);rintro e w9 ⟨rfl,hb⟩;replace BK1:=bb BK1 hb;replace BK453:=bb BK453 hb;replace HB:=bS hb;clear hb))
  go_ret
  exact ⟨Yb,bH⟩
 ·rw [if_neg c3] at H
  have c3b0:(a1_0 != a0_0) = false:=by simpa using c3
  (try (have c3b1:decide (a1_0 = a0_0) = true:=by simpa using c3))
  (try (have c3b2:(a1_0 == a0_0) = true:=by simpa using c3))
  clear c3
  obtain rfl:=Option.some.inj H
  go_enter Try.func108,Try.ntmps108
  go_wp2_with (first|(refine xB 2 #[.bool a0_0,.slice A0_1 l0_1.length c0_1,.slice A0_2 l0_2.length c0_2] 83 ?_;intro gb453 hg w10 hbox hb;have BK453:=Aside0.mk (hbox);have GW453:=gZ w gb453;have GE453:=GW453;replace HB:=bS hb;have NB1_453:=nl BK1 g1_ gb453;have NB453_1:=nr NB1_453;replace BK1:=bb BK1 hb;clear hb hbox hg;have hnb11:=NB1_453.out;have hnc11:=NB453_1.out;have hcz12_0:=qc3_0 BK1;have hcz12_1:=qc3_1 BK1;have hcz12_2:=qc3_2 BK1;have hfz12_0:=fz BK1 0;have hfz12_1:=fz BK1 1;have hfz12_2:=fz BK1 2;have hcz13_0:=qc3_0 BK453;have hcz13_1:=qc3_1 BK453;have hcz13_2:=qc3_2 BK453;have hfz13_0:=fz BK453 0;have hfz13_1:=fz BK453 1;have hfz13_2:=fz BK453 2))
  go_ret
  exact ⟨Yb,bH⟩


/-! ### impl_isTautology_1_any: function 1000004 -/
def impl_isTautology_1_any.f (k:Nat) (l0:List (S83)) (a1_0:Bool) (l1_1:List Int) (l1_2:List Int):Option (Bool):=anyO (fun x=>impl_isTautology_1.f k x.f0 x.f1 x.f2 a1_0 l1_1 l1_2) l0
theorem impl_isTautology_1_any.mono:∀ a0 a1 a2 a3 k,LeO (impl_isTautology_1_any.f k a0 a1 a2 a3) (impl_isTautology_1_any.f (k + 1) a0 a1 a2 a3):=by
 intro a0 a1 a2 a3 k
 unfold impl_isTautology_1_any.f
 exact anyO_mono (fun x=>impl_isTautology_1.mono _ _ _ _ _ _ k) _
theorem impl_isTautology_1_any.calls (k:Nat) (A0:Option Addr) (c0:Nat) (l0:List (S83)) (a1_0:Bool) (A1_1:Option Addr) (c1_1:Nat) (l1_1:List Int) (A1_2:Option Addr) (c1_2:Nat) (l1_2:List Int) (g1_:Nat) (r:Bool) (w:World) (hr0:Kd.C k83 w A0 l0.length l0) (hc0:l0.length ≤ c0) (hr1_1:Kd.C (Kd.int .i64) w A1_1 l1_1.length l1_1) (hc1_1:l1_1.length ≤ c1_1) (hr1_2:Kd.C (Kd.int .i64) w A1_2 l1_2.length l1_2) (hc1_2:l1_2.length ≤ c1_2) (hg1:w.heap[g1_]? = some (.cells #[.bool a1_0,.slice A1_1 l1_1.length c1_1,.slice A1_2 l1_2.length c1_2] 83 (0,0))) (h:impl_isTautology_1_any.f k l0 a1_0 l1_1 l1_2 = some r) :
  Calls Try.prog 88 #[.slice A0 l0.length c0,.func (.func 108) #[] #[.pointer (some ⟨g1_,0,none⟩)]] w fun e w'=>e = .returned (.bool r) ∧ Below w.heap.size w w':=by
 exact any88 108 #[.pointer (some ⟨g1_,0,none⟩)] (enters_of Try.func108 (by kernel_rfl) rfl) (fun x=>impl_isTautology_1.f k x.f0 x.f1 x.f2 a1_0 l1_1 l1_2) A0 c0 l0 r w hr0 hc0 (fun W x b E1 e1 E2 e2 hW hE1 he1 hE2 he2 hx=>(impl_isTautology_1.calls k x.f0 E1 e1 x.f1 E2 e2 x.f2 g1_ a1_0 A1_1 c1_1 l1_1 A1_2 c1_2 l1_2 b W hE1 he1 hE2 he2 (Kd.C_below hr1_1 hW) hc1_1 (Kd.C_below hr1_2 hW) hc1_2 ((hW.block _ (Array.getElem?_eq_some_iff.1 hg1).1).trans hg1) hx).mono fun _ _ h_=>⟨h_.1,h_.2⟩) h

/-! ### impl_isTautology: function 63 -/
def impl_isTautology.l0:Nat → List (S83) → List (S83) → Int → Int → Option (Bool)
 | 0,_,_,_,_=>none
 | k + 1,x0,x5,x6,x7=>if x7 < x6 then (if 0 ≤ x7 then (if x7 < (x5.length:Int) then (if (rd_T83 x5 x7).f0 = true then ((slices_Equal_int_int.f k ((rd_T83 x5 x7).f1) ((rd_T83 x5 x7).f2)).bind fun t457=>(if t457 = true then (some true) else ((impl_isTautology_1_any.f k x0 ((rd_T83 x5 x7).f0) ((rd_T83 x5 x7).f1) ((rd_T83 x5 x7).f2)).bind fun t458=>(if t458 = true then (some true) else (impl_isTautology.l0 k x0 x5 x6 (wrap64 (x7 + 1))))))) else ((impl_isTautology_1_any.f k x0 ((rd_T83 x5 x7).f0) ((rd_T83 x5 x7).f1) ((rd_T83 x5 x7).f2)).bind fun t459=>(if t459 = true then (some true) else (impl_isTautology.l0 k x0 x5 x6 (wrap64 (x7 + 1)))))) else (none)) else (none)) else (some false)
def impl_isTautology.f (k:Nat) (l0:List (S83)):Option (Bool):=impl_isTautology.l0 k l0 l0 (l0.length:Int) 0
theorem impl_isTautology.mono_l:∀ k,(∀ y0 y1 y2 y3,LeO (impl_isTautology.l0 k y0 y1 y2 y3) (impl_isTautology.l0 (k + 1) y0 y1 y2 y3))
 | 0=>fun _ _ _ _ r h=>by simp [impl_isTautology.l0] at h
 | k + 1=>by
  have ih0:=impl_isTautology.mono_l k
  ·intro y0 y1 y2 y3
   unfold impl_isTautology.l0
   have m0:=@impl_isTautology_1_any.mono
   have m1:=@slices_Equal_int_int.mono
   exact mO
theorem impl_isTautology.mono:∀ a0 k,LeO (impl_isTautology.f k a0) (impl_isTautology.f (k + 1) a0):=by
 intro a0 k
 have ih0:=impl_isTautology.mono_l k
 unfold impl_isTautology.f
 have m0:=@impl_isTautology_1_any.mono
 have m1:=@slices_Equal_int_int.mono
 exact mO
set_option maxHeartbeats 8000000 in
set_option maxRecDepth 100000 in
theorem impl_isTautology.calls (k:Nat) (A0:Option Addr) (c0:Nat) (l0:List (S83)) (r:Bool) (w:World) (hr0:Kd.C k83 w A0 l0.length l0) (hc0:l0.length ≤ c0) (h:impl_isTautology.f k l0 = some r) :
  Calls Try.prog 63 #[.slice A0 l0.length c0] w fun e w'=>e = .returned (.bool r) ∧ Below w.heap.size w w':=by
 have hu83:=Try.underlying83
 have HR0:=Aside0.mk hr0
 have HC0:=Aside0.mk hc0
 clear hr0 hc0
 have HB:=Aside0.mk (Below.refl w.heap.size w)
 have H:(impl_isTautology.l0 k l0 l0 (l0.length:Int) 0) = some r:=h
 clear h
 have H':=Aside0.mk H
 clear H
 go_enter Try.func63,Try.ntmps63
 go_wp2
 go_loopg [7] k (fun kq v7 w'=>∃ (x7_1:Int),v7 = .int .i64 x7_1 ∧ Aside0 (impl_isTautology.l0 kq l0 l0 (l0.length:Int) x7_1 = some r) ∧ Aside0 (kq ≤ k) ∧ Aside0 (Below w.heap.size w w'))
 case atStart=>exact ⟨(0),Yd,H',⟨Nat.le_refl _⟩,⟨bH⟩⟩
 case round =>
  clear H'
  obtain ⟨x7_1,rfl,HA,HK1,HB⟩:=hrel
  cases gk with
  | zero=>exact absurd HA.out (by simp [impl_isTautology.l0])
  | succ k1 =>
   have H:=HA.out
   clear HA
   simp only [impl_isTautology.l0] at H
   by_cases c2:x7_1 < (l0.length:Int)
   ·rw [if_pos c2] at H
    have c2b0:=decide_eq_true c2
    clear c2
    replace H:=gI H;obtain ⟨c3b0,H⟩:=H
    replace H:=gI H;obtain ⟨c4b0,H⟩:=H
    obtain ⟨bq5,hbq5⟩:∃ b_:Bool,b_ = ((rd_T83 l0 x7_1).f0):=⟨_,rfl⟩
    replace H:(if bq5 = true then ((slices_Equal_int_int.f k1 ((rd_T83 l0 x7_1).f1) ((rd_T83 l0 x7_1).f2)).bind fun t457=>(if t457 = true then (some true) else ((impl_isTautology_1_any.f k1 l0 (bq5) ((rd_T83 l0 x7_1).f1) ((rd_T83 l0 x7_1).f2)).bind fun t458=>(if t458 = true then (some true) else (impl_isTautology.l0 k1 l0 l0 (l0.length:Int) (wrap64 (x7_1 + 1))))))) else ((impl_isTautology_1_any.f k1 l0 (bq5) ((rd_T83 l0 x7_1).f1) ((rd_T83 l0 x7_1).f2)).bind fun t459=>(if t459 = true then (some true) else (impl_isTautology.l0 k1 l0 l0 (l0.length:Int) (wrap64 (x7_1 + 1)))))) = some r:=by rw [← hbq5] at H;exact H
    have Nbq5:=Aside0.mk hbq5
    clear hbq5
    by_cases c6:bq5 = true
    ·subst c6
     replace H:=pT H
     replace H:=bI H;obtain ⟨t457,A7,H⟩:=H
     by_cases c8:t457 = true
     ·subst c8
      replace H:=pT H
      obtain rfl:=Option.some.inj H
      have p455:0 ≤ (x7_1:Int):=oD
      have q455:x7_1 < (l0.length:Int):=oD
      obtain ⟨ad455,A455_1,c455_1,A455_2,c455_2,e455,hx455_0,hx455_1,hx455_2,hl455_1,hi455_1,hl455_2,hi455_2⟩:=at_T83 HR0.out x7_1 p455 q455
      (try rw [← Nbq5.out] at hx455_0)
      cases e455
      replace hx455_0:=(HB.out.cell (World.block_lt_of_cell? w _ hx455_0)).trans hx455_0
      replace hx455_1:=(HB.out.cell (World.block_lt_of_cell? w _ hx455_1)).trans hx455_1
      replace hx455_2:=(HB.out.cell (World.block_lt_of_cell? w _ hx455_2)).trans hx455_2
      have HR455_1:=Aside0.mk hi455_1
      have HC455_1:=Aside0.mk hl455_1
      clear hi455_1 hl455_1
      have HR455_2:=Aside0.mk hi455_2
      have HC455_2:=Aside0.mk hl455_2
      clear hi455_2 hl455_2
      replace p455:=eq_true p455
      replace q455:=eq_true q455
      go_wp2_with (first|(refine xB 4 #[.bool false,.slice none 0 0,.slice none 0 0] 83 ?_;intro gb456 hg w9 hbox hb;have BK456:=Aside0.mk (hbox);have GW456:=gZ w gb456;have GE456:=GW456;replace HB:=bS hb;clear hb hbox hg;have hcz10_0:=qc3_0 BK456;have hcz10_1:=qc3_1 BK456;have hcz10_2:=qc3_2 BK456;have hfz10_0:=fz BK456 0;have hfz10_1:=fz BK456 1;have hfz10_2:=fz BK456 2)|(go_at_call 97;(with_reducible refine (slices_Equal_int_int.calls k1 _ _ ((rd_T83 l0 x7_1).f1) _ _ ((rd_T83 l0 x7_1).f2) true _ ?side1 ?side2 ?side3 ?side4 A7.out).mono ?_);(case side1=>exact Zg);(case side2=>exact HC455_1.out);(case side3=>exact Zf);(case side4=>exact HC455_2.out);rintro e w' ⟨rfl,⟨nd,rfl⟩⟩))
      go_ret
      exact ⟨Yb,bH⟩
     ·replace c8:=Bool.eq_false_iff.mpr c8
      subst c8
      replace H:=pF H
      replace H:=bI H;obtain ⟨t458,A11,H⟩:=H
      by_cases c12:t458 = true
      ·subst c12
       replace H:=pT H
       obtain rfl:=Option.some.inj H
       have p455:0 ≤ (x7_1:Int):=oD
       have q455:x7_1 < (l0.length:Int):=oD
       obtain ⟨ad455,A455_1,c455_1,A455_2,c455_2,e455,hx455_0,hx455_1,hx455_2,hl455_1,hi455_1,hl455_2,hi455_2⟩:=at_T83 HR0.out x7_1 p455 q455
       (try rw [← Nbq5.out] at hx455_0)
       cases e455
       replace hx455_0:=(HB.out.cell (World.block_lt_of_cell? w _ hx455_0)).trans hx455_0
       replace hx455_1:=(HB.out.cell (World.block_lt_of_cell? w _ hx455_1)).trans hx455_1
       replace hx455_2:=(HB.out.cell (World.block_lt_of_cell? w _ hx455_2)).trans hx455_2
       have HR455_1:=Aside0.mk hi455_1
       have HC455_1:=Aside0.mk hl455_1
       clear hi455_1 hl455_1
       have HR455_2:=Aside0.mk hi455_2
       have HC455_2:=Aside0.mk hl455_2
       clear hi455_2 hl455_2
       replace p455:=eq_true p455
       replace q455:=eq_true q455
       go_wp2_with (first|(refine xB 4 #[.bool false,.slice none 0 0,.slice none 0 0] 83 ?_;intro gb456 hg w13 hbox hb;have BK456:=Aside0.mk (hbox);have GW456:=gZ w gb456;have GE456:=GW456;replace HB:=bS hb;clear hb hbox hg;have hcz14_0:=qc3_0 BK456;have hcz14_1:=qc3_1 BK456;have hcz14_2:=qc3_2 BK456;have hfz14_0:=fz BK456 0;have hfz14_1:=fz BK456 1;have hfz14_2:=fz BK456 2)|(go_at_call 97;(with_reducible refine (slices_Equal_int_int.calls k1 _ _ ((rd_T83 l0 x7_1).f1) _ _ ((rd_T83 l0 x7_1).f2) false _ ?side1 ?side2 ?side3 ?side4 A7.out).mono ?_);(case side1=>exact Zg);(case side2=>exact HC455_1.out);(case side3=>exact Zf);(case side4=>exact HC455_2.out);rintro e w' ⟨rfl,⟨nd,rfl⟩⟩)|(go_at_call 88;(with_reducible refine (impl_isTautology_1_any.calls k1 _ _ l0 true A455_1 c455_1 ((rd_T83 l0 x7_1).f1) A455_2 c455_2 ((rd_T83 l0 x7_1).f2) gb456 true _ ?side1 ?side2 ?side3 ?side4 ?side5 ?side6 ?side7 A11.out).mono ?_);(case side1=>exact Kd.C_below HR0.out bH);(case side2=>exact HC0.out);(case side3=>exact Zg);(case side4=>exact HC455_1.out);(case side5=>exact Zf);(case side6=>exact HC455_2.out);(case side7=>exact Yg);rintro e w15 ⟨rfl,hb⟩;replace BK456:=Aside0.mk (blk_below (g:=gb456) (o:=.cells #[.bool true,.slice A455_1 ((rd_T83 l0 x7_1).f1).length c455_1,.slice A455_2 ((rd_T83 l0 x7_1).f2).length c455_2] 83 (0,0)) Yg hb);replace HB:=bS hb;clear hb))
       go_ret
       exact ⟨Yb,bH⟩
      ·replace c12:=Bool.eq_false_iff.mpr c12
       subst c12
       replace H:=pF H
       have H':=Aside0.mk H
       clear H
       have p455:0 ≤ (x7_1:Int):=oD
       have q455:x7_1 < (l0.length:Int):=oD
       obtain ⟨ad455,A455_1,c455_1,A455_2,c455_2,e455,hx455_0,hx455_1,hx455_2,hl455_1,hi455_1,hl455_2,hi455_2⟩:=at_T83 HR0.out x7_1 p455 q455
       (try rw [← Nbq5.out] at hx455_0)
       cases e455
       replace hx455_0:=(HB.out.cell (World.block_lt_of_cell? w _ hx455_0)).trans hx455_0
       replace hx455_1:=(HB.out.cell (World.block_lt_of_cell? w _ hx455_1)).trans hx455_1
       replace hx455_2:=(HB.out.cell (World.block_lt_of_cell? w _ hx455_2)).trans hx455_2
       have HR455_1:=Aside0.mk hi455_1
       have HC455_1:=Aside0.mk hl455_1
       clear hi455_1 hl455_1
       have HR455_2:=Aside0.mk hi455_2
       have HC455_2:=Aside0.mk hl455_2
       clear hi455_2 hl455_2
       replace p455:=eq_true p455
       replace q455:=eq_true q455
       go_wp2_with (first|(refine xB 4 #[.bool false,.slice none 0 0,.slice none 0 0] 83 ?_;intro gb456 hg w16 hbox hb;have BK456:=Aside0.mk (hbox);have GW456:=gZ w gb456;have GE456:=GW456;replace HB:=bS hb;clear hb hbox hg;have hcz17_0:=qc3_0 BK456;have hcz17_1:=qc3_1 BK456;have hcz17_2:=qc3_2 BK456;have hfz17_0:=fz BK456 0;have hfz17_1:=fz BK456 1;have hfz17_2:=fz BK456 2)|(go_at_call 97;(with_reducible refine (slices_Equal_int_int.calls k1 _ _ ((rd_T83 l0 x7_1).f1) _ _ ((rd_T83 l0 x7_1).f2) false _ ?side1 ?side2 ?side3 ?side4 A7.out).mono ?_);(case side1=>exact Zg);(case side2=>exact HC455_1.out);(case side3=>exact Zf);(case side4=>exact HC455_2.out);rintro e w' ⟨rfl,⟨nd,rfl⟩⟩)|(go_at_call 88;(with_reducible refine (impl_isTautology_1_any.calls k1 _ _ l0 true A455_1 c455_1 ((rd_T83 l0 x7_1).f1) A455_2 c455_2 ((rd_T83 l0 x7_1).f2) gb456 false _ ?side1 ?side2 ?side3 ?side4 ?side5 ?side6 ?side7 A11.out).mono ?_);(case side1=>exact Kd.C_below HR0.out bH);(case side2=>exact HC0.out);(case side3=>exact Zg);(case side4=>exact HC455_1.out);(case side5=>exact Zf);(case side6=>exact HC455_2.out);(case side7=>exact Yg);rintro e w18 ⟨rfl,hb⟩;replace BK456:=Aside0.mk (blk_below (g:=gb456) (o:=.cells #[.bool true,.slice A455_1 ((rd_T83 l0 x7_1).f1).length c455_1,.slice A455_2 ((rd_T83 l0 x7_1).f2).length c455_2] 83 (0,0)) Yg hb);replace HB:=bS hb;clear hb))
       go_roundg k1
       case measure=>have:=HK1.out;omega
       case rel=>exact ⟨(wrap64 (x7_1 + 1)),Yd,H',⟨YH⟩,⟨bH⟩⟩
    ·replace c6:=Bool.eq_false_iff.mpr c6
     subst c6
     replace H:=pF H
     replace H:=bI H;obtain ⟨t459,A19,H⟩:=H
     by_cases c20:t459 = true
     ·subst c20
      replace H:=pT H
      obtain rfl:=Option.some.inj H
      have p455:0 ≤ (x7_1:Int):=oD
      have q455:x7_1 < (l0.length:Int):=oD
      obtain ⟨ad455,A455_1,c455_1,A455_2,c455_2,e455,hx455_0,hx455_1,hx455_2,hl455_1,hi455_1,hl455_2,hi455_2⟩:=at_T83 HR0.out x7_1 p455 q455
      (try rw [← Nbq5.out] at hx455_0)
      cases e455
      replace hx455_0:=(HB.out.cell (World.block_lt_of_cell? w _ hx455_0)).trans hx455_0
      replace hx455_1:=(HB.out.cell (World.block_lt_of_cell? w _ hx455_1)).trans hx455_1
      replace hx455_2:=(HB.out.cell (World.block_lt_of_cell? w _ hx455_2)).trans hx455_2
      have HR455_1:=Aside0.mk hi455_1
      have HC455_1:=Aside0.mk hl455_1
      clear hi455_1 hl455_1
      have HR455_2:=Aside0.mk hi455_2
      have HC455_2:=Aside0.mk hl455_2
      clear hi455_2 hl455_2
      replace p455:=eq_true p455
      replace q455:=eq_true q455
      go_wp2_with (first|(refine xB 4 #[.bool false,.slice none 0 0,.slice none 0 0] 83 ?_;intro gb456 hg w21 hbox hb;have BK456:=Aside0.mk (hbox);have GW456:=gZ w gb456;have GE456:=GW456;replace HB:=bS hb;clear hb hbox hg;have hcz22_0:=qc3_0 BK456;have hcz22_1:=qc3_1 BK456;have hcz22_2:=qc3_2 BK456;have hfz22_0:=fz BK456 0;have hfz22_1:=fz BK456 1;have hfz22_2:=fz BK456 2)|(go_at_call 88;(with_reducible refine (impl_isTautology_1_any.calls k1 _ _ l0 false A455_1 c455_1 ((rd_T83 l0 x7_1).f1) A455_2 c455_2 ((rd_T83 l0 x7_1).f2) gb456 true _ ?side1 ?side2 ?side3 ?side4 ?side5 ?side6 ?side7 A19.out).mono ?_);(case side1=>exact Kd.C_below HR0.out bH);(case side2=>exact HC0.out);(case side3=>exact Zg);(case side4=>exact HC455_1.out);(case side5=>exact Zf);(case side6=>exact HC455_2.out);(case side7=>exact Yf);rintro e w23 ⟨rfl,hb⟩;replace BK456:=Aside0.mk (blk_below (g:=gb456) (o:=.cells #[.bool false,.slice A455_1 ((rd_T83 l0 x7_1).f1).length c455_1,.slice A455_2 ((rd_T83 l0 x7_1).f2).length c455_2] 83 (0,0)) Yf hb);replace HB:=bS hb;clear hb))
      go_ret
      exact ⟨Yb,bH⟩
     ·replace c20:=Bool.eq_false_iff.mpr c20
      subst c20
      replace H:=pF H
      have H':=Aside0.mk H
      clear H
      have p455:0 ≤ (x7_1:Int):=oD
      have q455:x7_1 < (l0.length:Int):=oD
      obtain ⟨ad455,A455_1,c455_1,A455_2,c455_2,e455,hx455_0,hx455_1,hx455_2,hl455_1,hi455_1,hl455_2,hi455_2⟩:=at_T83 HR0.out x7_1 p455 q455
      (try rw [← Nbq5.out] at hx455_0)
      cases e455
      replace hx455_0:=(HB.out.cell (World.block_lt_of_cell? w _ hx455_0)).trans hx455_0
      replace hx455_1:=(HB.out.cell (World.block_lt_of_cell? w _ hx455_1)).trans hx455_1
      replace hx455_2:=(HB.out.cell (World.block_lt_of_cell? w _ hx455_2)).trans hx455_2
      have HR455_1:=Aside0.mk hi455_1
      have HC455_1:=Aside0.mk hl455_1
      clear hi455_1 hl455_1
      have HR455_2:=Aside0.mk hi455_2
      have HC455_2:=Aside0.mk hl455_2
      clear hi455_2 hl455_2
      replace p455:=eq_true p455
      replace q455:=eq_true q455
      go_wp2_with (first|(refine xB 4 #[.bool false,.slice none 0 0,.slice none 0 0] 83 ?_;intro gb456 hg w24 hbox hb;have BK456:=Aside0.mk (hbox);have GW456:=gZ w gb456;have GE456:=GW456;replace HB:=bS hb;clear hb hbox hg;have hcz25_0:=qc3_0 BK456;have hcz25_1:=qc3_1 BK456;have hcz25_2:=qc3_2 BK456;have hfz25_0:=fz BK456 0;have hfz25_1:=fz BK456 1;have hfz25_2:=fz BK456 2)|(go_at_call 88;(with_reducible refine (impl_isTautology_1_any.calls k1 _ _ l0 false A455_1 c455_1 ((rd_T83 l0 x7_1).f1) A455_2 c455_2 ((rd_T83 l0 x7_1).f2) gb456 false _ ?side1 ?side2 ?side3 ?side4 ?side5 ?side6 ?side7 A19.out).mono ?_);(case side1=>exact Kd.C_below HR0.out bH);(case side2=>exact HC0.out);(case side3=>exact Zg);(case side4=>exact HC455_1.out);(case side5=>exact Zf);(case side6=>exact HC455_2.out);(case side7=>exact Yf);rintro e w26 ⟨rfl,hb⟩;replace BK456:=Aside0.mk (blk_below (g:=gb456) (o:=.cells #[.bool false,.slice A455_1 ((rd_T83 l0 x7_1).f1).length c455_1,.slice A455_2 ((rd_T83 l0 x7_1).f2).length c455_2] 83 (0,0)) Yf hb);replace HB:=bS hb;clear hb))
      go_roundg k1
      case measure=>have:=HK1.out;omega
      case rel=>exact ⟨(wrap64 (x7_1 + 1)),Yd,H',⟨YH⟩,⟨bH⟩⟩
   ·rw [if_neg c2] at H
    have c2b0:decide (x7_1 < (l0.length:Int)) = false:=decide_eq_false c2
    clear c2
    obtain rfl:=Option.some.inj H
    go_wp2
    go_ret
    exact ⟨Yb,bH⟩

/-! ### impl_IsTautology: function 23 -/
def impl_IsTautology.f (k:Nat) (l0_0:List Int) (l1:List (S83)):Option (Bool × Bool):=(impl_GoodClause.f k l0_0 l1).bind fun t461=>(if t461 = true then ((impl_isTautology.f k l1).bind fun t462=>(some (t462,true))) else (some (false,false)))
theorem impl_IsTautology.mono:∀ a0 a1 k,LeO (impl_IsTautology.f k a0 a1) (impl_IsTautology.f (k + 1) a0 a1):=by
 intro a0 a1 k
 unfold impl_IsTautology.f
 have m0:=@impl_GoodClause.mono
 have m1:=@impl_isTautology.mono
 exact mO
set_option maxHeartbeats 8000000 in
set_option maxRecDepth 100000 in
theorem impl_IsTautology.calls (k:Nat) (A0_0:Option Addr) (c0_0:Nat) (l0_0:List Int) (A1:Option Addr) (c1:Nat) (l1:List (S83)) (r1:Bool) (r2:Bool) (w:World) (hr0_0:Kd.C (Kd.int .i64) w A0_0 l0_0.length l0_0) (hc0_0:l0_0.length ≤ c0_0) (hr1:Kd.C k83 w A1 l1.length l1) (hc1:l1.length ≤ c1) (h:impl_IsTautology.f k l0_0 l1 = some (r1,r2)) :
  Calls Try.prog 23 #[.agg #[.slice A0_0 l0_0.length c0_0],.slice A1 l1.length c1] w fun e w'=>e = .returned (.tuple #[.bool r1,.bool r2]) ∧ Below w.heap.size w w':=by
 have hu26:=Try.underlying26
 have HR0_0:=Aside0.mk hr0_0
 have HC0_0:=Aside0.mk hc0_0
 clear hr0_0 hc0_0
 have HR1:=Aside0.mk hr1
 have HC1:=Aside0.mk hc1
 clear hr1 hc1
 have HB:=Aside0.mk (Below.refl w.heap.size w)
 have H:((impl_GoodClause.f k l0_0 l1).bind fun t461=>(if t461 = true then ((impl_isTautology.f k l1).bind fun t462=>(some (t462,true))) else (some (false,false)))) = some (r1,r2):=h
 clear h
 replace H:=bI H;obtain ⟨t461,A3,H⟩:=H
 by_cases c4:t461 = true
 ·subst c4
  replace H:=pT H
  replace H:=bI H;obtain ⟨t462,A5,H⟩:=H
  simp only [Option.some.injEq,Prod.mk.injEq] at H
  obtain ⟨rfl,rfl⟩:=H
  go_enter Try.func23,Try.ntmps23
  go_wp2_with (first|(refine xB 2 #[.slice A0_0 l0_0.length c0_0] 26 ?_;intro gb460 hg w6 hbox hb;have BK460:=Aside0.mk (hbox);have GW460:=gZ w gb460;have GE460:=GW460;replace HB:=bS hb;clear hb hbox hg;have hcz7_0:=qc1_0 BK460;have hfz7_0:=fz BK460 0)|((with_reducible refine gate_callee (f:=26) rfl ?_);refine goesL_ (some 8) rfl rfl Try.func26 (by kernel_rfl) rfl #[.agg #[.slice A0_0 l0_0.length c0_0],.slice A1 l1.length c1] rfl Ya ?_;(with_reducible refine (impl_GoodClause.calls k _ _ l0_0 _ _ l1 true _ ?side1 ?side2 ?side3 ?side4 A3.out).mono ?_);(case side1=>exact Yx);(case side2=>exact Yw);(case side3=>exact sC HR1);(case side4=>exact HC1.out);rintro e w8 ⟨rfl,hb⟩;refine ⟨_,rfl,?_⟩;replace BK460:=bb BK460 hb;replace HB:=bS hb;clear hb)|((with_reducible refine gate_callee (f:=63) rfl ?_);refine goesL_ (some 11) rfl rfl Try.func63 (by kernel_rfl) rfl #[.slice A1 l1.length c1] rfl Ya ?_;(with_reducible refine (impl_isTautology.calls k _ _ l1 t462 _ ?side1 ?side2 A5.out).mono ?_);(case side1=>exact sC HR1);(case side2=>exact HC1.out);rintro e w9 ⟨rfl,hb⟩;refine ⟨_,rfl,?_⟩;replace BK460:=bb BK460 hb;replace HB:=bS hb;clear hb))
  go_ret2
  exact ⟨Yb,bH⟩
 ·replace c4:=Bool.eq_false_iff.mpr c4
  subst c4
  replace H:=pF H
  simp only [Option.some.injEq,Prod.mk.injEq] at H
  obtain ⟨rfl,rfl⟩:=H
  go_enter Try.func23,Try.ntmps23
  go_wp2_with (first|(refine xB 2 #[.slice A0_0 l0_0.length c0_0] 26 ?_;intro gb460 hg w10 hbox hb;have BK460:=Aside0.mk (hbox);have GW460:=gZ w gb460;have GE460:=GW460;replace HB:=bS hb;clear hb hbox hg;have hcz11_0:=qc1_0 BK460;have hfz11_0:=fz BK460 0)|((with_reducible refine gate_callee (f:=26) rfl ?_);refine goesL_ (some 8) rfl rfl Try.func26 (by kernel_rfl) rfl #[.agg #[.slice A0_0 l0_0.length c0_0],.slice A1 l1.length c1] rfl Ya ?_;(with_reducible refine (impl_GoodClause.calls k _ _ l0_0 _ _ l1 false _ ?side1 ?side2 ?side3 ?side4 A3.out).mono ?_);(case side1=>exact Yx);(case side2=>exact Yw);(case side3=>exact sC HR1);(case side4=>exact HC1.out);rintro e w12 ⟨rfl,hb⟩;refine ⟨_,rfl,?_⟩;replace BK460:=bb BK460 hb;replace HB:=bS hb;clear hb))
  go_ret2
  exact ⟨Yb,bH⟩

end Go.Proofs.Ytmgkflkfoccgkaa.QFnTidied
