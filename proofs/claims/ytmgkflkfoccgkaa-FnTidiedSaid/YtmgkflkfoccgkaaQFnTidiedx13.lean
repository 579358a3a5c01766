-- Written by this session's own program (wip/x/xprint.py, over the kit's printer); Lean checks it.
import Derived.Test.YtmgkflkfoccgkaaQFnTidiedx0
import Derived.Test.YtmgkflkfoccgkaaQFnTidiedx9
import Derived.Test.YtmgkflkfoccgkaaQFnTidiedx12
namespace Go.Proofs.Ytmgkflkfoccgkaa.QFnTidied
open Go.RowKit Go.Proofs.YtmgkflkfoccgkaaW.PrintWords Go.Proofs.YtmgkflkfoccgkaaW.PrintLast Go.Proofs.YtmgkflkfoccgkaaW.PrintMore
attribute [local go_sem] max2_int min2_int max_two min_two max_three min_three max_four min_four   -- for this text's walks alone
set_option linter.unusedVariables false
set_option linter.unusedSimpArgs false

/-! ### impl_renameClause: function 61, by a walk of this session's own -/
/-- An element of a row whose elements lie apart: its blocks; what becomes of the row if just these are written, or one of the element's own cells. -/
theorem S_at {α:Type} {d:Kd α} {e:Nat} {w:World} {base:Nat} {ok:Nat → Prop} {g n cap:Nat} {xs:List α} (h:Kd.S d e w base ok (.slice (some ⟨g,0,none⟩) n cap) xs) (i:Nat) (x:α) (hx:xs[i]? = some x) :
  ∃ (oki:Nat → Prop) (c:List Value),c.length = d.sz ∧ d.M w base oki x c ∧ (∀ j u,c[j]? = some u → w.cell? ⟨g,i * d.sz + j,none⟩ = some u) ∧ (∀ j,w.frozen? ⟨g,i * d.sz + j,none⟩ = false) ∧ (∀ k,oki k → ok k ∧ k ≠ g) ∧
   (∀ (w1:World) (x':α),Kept w w1 oki → d.M w1 base oki x' c → Kd.S d e w1 base ok (.slice (some ⟨g,0,none⟩) n cap) (xs.set i x')) ∧
   (∀ (t:Nat) (u:Value) (x':α),t + 1 ≤ d.sz → d.M w base oki x' (c.take t ++ [u] ++ c.drop (t + 1)) → Kd.S d e (w.setCells g (i * d.sz + t) [u]) base ok (.slice (some ⟨g,0,none⟩) n cap) (xs.set i x')):=by
 obtain ⟨hil,hxe⟩:=List.getElem?_eq_some_iff.1 hx
 have hn:=(Kd.S_reads' h).1
 obtain ⟨oki,c,hcl,hM,hcc,hfr,hoki,hH⟩:=Kd.S_elem h x (i:Int) (by omega) (by omega)
 rw [Int.toNat_natCast] at hM hcc hfr
 have e1:xs.getD i x = x:=by rw [List.getD_eq_getElem?_getD,hx];rfl
 rw [e1] at hM
 refine ⟨oki,c,hcl,hM,hcc,hfr,hoki,fun w1 x' hk hM1=>?_,fun t u x' ht hM1=>?_⟩
 ·have:=Kd.H_back (Kd.H_kept hH hk (fun k _ hn=>hn)) hM1 (fun _ hk=>hk)
  rwa [Int.toNat_natCast] at this
 ·have:=(Kd.S_seg (okg:=fun _=>False) (ok:=ok) (by
    obtain ⟨h1,f,h2⟩:=hH
    exact ⟨fun k hk=>⟨h1 k hk,fun q=>q⟩,f,Kd.R_mono h2 (fun k hk=>⟨⟨hk.1,fun q=>q⟩,hk.2⟩)⟩) (i:=(i:Int)) (by omega) (by omega) (seg:=[u]) (j:=t) (by simpa using ht) (okp:=oki) (x':=x') (by simpa using hM1) (fun k hk=>.inl hk) (fun k hk=>hk.elim)).1
  rwa [Int.toNat_natCast] at this
/-! ### New names for variables: the names met, in order; the map that holds them -/
theorem nodup_rev {met:List Int} (h:met.Nodup):met.reverse.Nodup:=by
 unfold List.Nodup at h ⊢
 rw [List.pairwise_reverse]
 exact h.imp (fun a=>Ne.symm a)
def rnT:List Int → List Int → List Int × List Int
 | met,[]=>(met,[])
 | met,n :: t=>if 0 ≤ n then ((rnT met t).1,n :: (rnT met t).2) else ((rnT (if n ∈ met then met else met ++ [n]) t).1,(-1 - (((if n ∈ met then met else met ++ [n]).idxOf n:Nat):Int)) :: (rnT (if n ∈ met then met else met ++ [n]) t).2)
def rnL:List Int → List (List Int) → List (List Int)
 | _,[]=>[]
 | met,x :: t=>(rnT met x).2 :: rnL (rnT met x).1 t
open Go.Maps in
def MdR:List Int → DataW Unit
 | []=>.map []
 | n :: t=>(MdR t).put (.int .i64 n) (.lit (.int .i64 (-1 - (t.length:Int))))
def Md (met:List Int):DataW Unit:=MdR met.reverse
theorem Md_snoc (met:List Int) (n:Int):Md (met ++ [n]) = (Md met).put (.int .i64 n) (.lit (.int .i64 (-1 - (met.length:Int)))):=by
 unfold Md
 rw [List.reverse_append,List.reverse_singleton,List.singleton_append,MdR,List.length_reverse]
open Go.Maps in
theorem MdR_tidy (t:List Int):Tidy (MdR t):=by
 induction t with
 | nil=>exact tidy_empty
 | cons n t ih=>exact ih.put (by simp [WideAt.IsKeyLit]) _
open Go.Maps in
theorem MdR_has (t:List Int) (n:Int):has (MdR t) (.int .i64 n) = decide (n ∈ t):=by
 induction t with
 | nil=>rfl
 | cons m t ih =>
  rw [MdR]
  by_cases e:n = m
  ·subst e
   rw [has_put_same (MdR_tidy t).isMap (by simp [WideAt.IsKeyLit])]
   simp
  ·rw [has_put_other (by simp [e]),ih]
   simp [e]
open Go.Maps in
theorem Md_has (met:List Int) (n:Int):has (Md met) (.int .i64 n) = decide (n ∈ met):=by
 unfold Md
 rw [MdR_has]
 simp
open Go.Maps in
theorem MdR_size (t:List Int) (h:t.Nodup):size (MdR t) = t.length:=by
 induction t with
 | nil=>rfl
 | cons m t ih =>
  rw [List.nodup_cons] at h
  rw [MdR,size_put (MdR_tidy t),MdR_has,ih h.2]
  simp [h.1]
open Go.Maps in
theorem Md_size (met:List Int) (h:met.Nodup):size (Md met) = met.length:=by
 unfold Md
 rw [MdR_size _ (nodup_rev h),List.length_reverse]
open Go.Maps in
theorem MdR_at (t:List Int) (n:Int) (h:n ∈ t) (z:DataW Unit) (hd:t.Nodup):(MdR t).atKey (.int .i64 n) z = .lit (.int .i64 (-1 - ((t.reverse.idxOf n:Nat):Int))):=by
 induction t with
 | nil=>simp at h
 | cons m t ih =>
  rw [List.nodup_cons] at hd
  rw [MdR]
  by_cases e:n = m
  ·subst e
   rw [atKey_put_same (MdR_tidy t).isMap (by simp [WideAt.IsKeyLit]),List.reverse_cons,List.idxOf_append,if_neg (by simpa using hd.1),List.idxOf_cons_self,List.length_reverse]
   simp
  ·have hm:n ∈ t:=by simpa [e] using h
   rw [atKey_put_other (by simp [e]),ih hm hd.2,List.reverse_cons,List.idxOf_append,if_pos (by simpa using hm)]
open Go.Maps in
theorem Md_at (met:List Int) (n:Int) (h:n ∈ met) (z:DataW Unit) (hd:met.Nodup):(Md met).atKey (.int .i64 n) z = .lit (.int .i64 (-1 - ((met.idxOf n:Nat):Int))):=by
 unfold Md
 rw [MdR_at _ n (by simpa using h) z (nodup_rev hd),List.reverse_reverse]
def impl_rename.f (l:List (List Int)):Option (List (List Int)):=if l.length ≤ 2097152 ∧ (l.all fun x=>decide (x.length ≤ 1048576) && x.all fun n=>decide (-9223372036854775808 ≤ n ∧ n ≤ 9223372036854775807)) = true then some (rnL [] l) else none
theorem Try.keyed3:Go.Maps.Keyed Try.prog 3:=Go.Maps.int_keyed Try.underlying3
theorem Try.zero3 (w:World):(zeroValue 3).run Try.prog w = .ok (.int .i64 0) w:=by kernel_rfl
theorem map_keep {w w':World} {P:Program} {b n g:Nat} {D:DataW Unit} (h:w.ownsMap P 3 (plainElem P 3) b n D) (hg:w.grownBy w' (some g)) {cs:Array Value} {t:Nat} (hc:w.heap[g]? = some (.cells cs t (0,0))):w'.ownsMap P 3 (plainElem P 3) b n D:=by
 refine h.kept hg (fun e=>?_)
 injection e with e
 subst e
 obtain ⟨es,clock,hb,_⟩:=h
 rw [hc] at hb
 cases hb
theorem map_below {w w':World} {P:Program} {b n:Nat} {D:DataW Unit} (h:w.ownsMap P 3 (plainElem P 3) b n D) (hb:Below w.heap.size w w'):w'.ownsMap P 3 (plainElem P 3) b n D:=h.kept (grown_of_below hb none) (by simp)
theorem s_mapped {α:Type} {d:Kd α} {e:Nat} {w w1:World} {base gm n:Nat} {ok:Nat → Prop} {v:Value} {xs:List α} {P:Program} {D:DataW Unit} (h:Kd.S d e w base ok v xs) (hm:w.ownsMap P 3 (plainElem P 3) gm n D) (hg:w.grownBy w1 (some gm)):Kd.S d e w1 base ok v xs:=by
 refine Kd.S_mono (Kd.S_grown (Kd.S_bound h) hg (fun k hk q=>?_)) (fun _ hk=>hk.1)
 injection q with q
 subst q
 obtain ⟨_,_,_,e',_,cells,hc⟩:=hk
 obtain ⟨es,clock,hb,_⟩:=hm
 rw [hc] at hb
 cases hb
set_option maxHeartbeats 16000000 in
set_option maxRecDepth 1000000 in
theorem impl_rename.calls (A0:Option Addr) (c0:Nat) (l0:List (List Int)) (r:List (List Int)) (w:World) (hr0:Kd.C (Kd.slice 3 (Kd.int .i64)) w A0 l0.length l0) (hc0:l0.length ≤ c0) (h:impl_rename.f l0 = some r) :
  Calls Try.prog 105 #[.slice A0 l0.length c0] w fun e w'=>∃ v0_:Value,e = .returned v0_ ∧ Kd.S (Kd.slice 3 (Kd.int .i64)) 24 w' w.heap.size (fun _=>True) v0_ r ∧ Below w.heap.size w w':=by
 unfold impl_rename.f at h
 split at h
 rotate_left
 ·cases h
 rename_i hn
 obtain ⟨hn,hall⟩:=hn
 obtain rfl:=Option.some.inj h
 have H0:=Aside0.mk hr0
 have HALL:=Aside0.mk hall
 clear h hr0 hall
 have hmm:=@run_makeMap Try.prog
 go_enter Try.func105,Try.ntmps105
 go_upto_region 2 with fail
 have HM:Aside0 ((w.alloc (.map #[] 0)).ownsMap Try.prog 3 (plainElem Try.prog 3) w.heap.size 0 (Md [])):=⟨World.ownsMap_made _ _ _ _⟩
 have HB:Aside0 (Below w.heap.size w (w.alloc (.map #[] 0))):=⟨Below.alloc (Below.refl _ _) (Nat.le_refl _) _⟩
 obtain ⟨gm,hgm⟩:∃ g,g = w.heap.size:=⟨_,rfl⟩
 have HGM:Aside0 (w.heap.size ≤ gm):=⟨Nat.le_of_eq hgm.symm⟩
 generalize w.alloc (.map #[] 0) = W0 at HM HB ⊢
 rw [← hgm] at HM ⊢
 clear hgm hmm
 go_wp2_with ((with_reducible refine gate_dst (N:=14) rfl ?_);refine Kd.S_make (Kd.slice 3 (Kd.int .i64)) _ 24 rfl (N:=14) rfl 27 _ _ rfl (l0.length:Int) rfl rfl Try.underlying27 (.slice none 0 0) 24 info24 rfl (by decide) (by decide) [] (ok:=fun _=>True) (okp:=fun _=>True) ⟨_,rfl,Kd.R_nil _ _ _ _ _⟩ (fun _ hk=>hk) trivial (by omega) (by rw [Int.toNat_natCast];omega) (Below.refl _ _) (Nat.le_refl _) ?_;intro vo w1 ho hb hg_ hnew_;rw [Int.toNat_natCast] at ho;have HS:=Aside0.mk (Kd.S_lower ho HB.out.size);have HM:=Aside0.mk (map_below HM.out hb);have HB:=Aside0.mk (below_step HB.out hb);clear ho hb hg_ hnew_;obtain ⟨AO,cO,rfl⟩:∃ A c,vo = .slice A l0.length c:=by have h9:=Kd.S_slice HS.out;rwa [List.length_replicate] at h9)
 go_loopw [17] (fun v17 WR=>∃ (i:Nat) (met:List Int) (dn:List (List Int)),i ≤ l0.length ∧ v17 = .int .i64 i ∧ Hid (dn.length = i) ∧ Hid (dn ++ rnL met (l0.drop i) = rnL [] l0) ∧ Hid (met.length ≤ i * 1048576) ∧ Hid met.Nodup ∧ Hid (Kd.S (Kd.slice 3 (Kd.int .i64)) 24 WR w.heap.size (fun _=>True) (.slice AO l0.length cO) (dn ++ List.replicate (l0.length - i) [])) ∧ Hid (WR.ownsMap Try.prog 3 (plainElem Try.prog 3) gm met.length (Md met)) ∧ Hid (Below w.heap.size w WR)) (fun v17 _=>l0.length - (intOf v17).toNat)
 case atStart=>exact ⟨0,[],[],Nat.zero_le _,rfl,rfl,rfl,Nat.zero_le _,List.nodup_nil,HS.out,HM.out,HB.out⟩
 case round =>
  rename World=>WR
  clear HS HM HB
  obtain ⟨i,met,dn,hi,rfl,hdl,hde,hml,hmd,hS,hM,hB⟩:=hrel
  unfold Hid at hdl hde hml hmd hS hM hB
  by_cases hp:i < l0.length
  ·obtain ⟨c,hcl,hK,hcc⟩:∃ c:List Value,c.length = 1 ∧ (∃ A c',c = [.slice A (l0.getD i []).length c'] ∧ (l0.getD i []).length ≤ c' ∧ (Kd.int .i64).C w A (l0.getD i []).length (l0.getD i [])) ∧ ∃ ad,A0 = some ad ∧ ∀ u,c[0]? = some u → w.cell? (ad.add i) = some u:=by
    obtain ⟨ad,c,rfl,hcl,hK,hcc⟩:=Kd.C_get H0.out [] (i:Int) (by omega) (by omega)
    rw [Int.toNat_natCast] at hK hcc
    refine ⟨c,hcl,hK,ad,rfl,fun u hu=>?_⟩
    have:=hcc 0 u hu
    rwa [show i * (Kd.slice 3 (Kd.int .i64)).sz + 0 = i by show i * 1 + 0 = i;omega] at this
   obtain ⟨AX,cX,rfl,hXc,hXr⟩:=hK
   obtain ⟨ad,rfl,hcc⟩:=hcc
   have q0:=hcc _ rfl
   have hx0:l0.getD i [] = l0[i]:=by rw [List.getD_eq_getElem?_getD,List.getElem?_eq_getElem hp];rfl
   rw [hx0] at hXc hXr q0
   rw [List.drop_eq_getElem_cons hp] at hde
   have hxm:l0[i].length ≤ 1048576 ∧ ∀ n ∈ l0[i],-9223372036854775808 ≤ n ∧ n ≤ 9223372036854775807:=by
    have:=List.all_eq_true.1 HALL.out l0[i] (List.getElem_mem hp)
    rw [Bool.and_eq_true,decide_eq_true_iff,List.all_eq_true] at this
    exact ⟨this.1,fun n hn=>of_decide_eq_true (this.2 n hn)⟩
   clear hcc hcl hx0
   replace q0:=(hB.cell (World.block_lt_of_cell? w _ q0)).trans q0
   generalize l0[i] = x at hXc hXr q0 hde hxm
   simp only [rnL] at hde
   have hxl:=hxm.1
   have HXW:=Aside0.mk hxm.2
   have HX:=Aside0.mk hXr
   have HDL:=Aside0.mk hdl
   have HDE:=Aside0.mk hde
   have HML:=Aside0.mk hml
   have HMD:=Aside0.mk hmd
   have HS:=Aside0.mk hS
   have HM:=Aside0.mk hM
   have HB:=Aside0.mk hB
   have hcall:=slices_Clone_int_int.calls AX cX x x WR (Kd.C_below hXr hB) hXc (by unfold slices_Clone_int_int.f;rw [if_pos (by omega)])
   clear hdl hde hml hmd hS hM hB hXr hxm
   obtain ⟨go,capO,eO,_,_,csO,hcO⟩:=Kd.S_form HS.out (by rw [List.length_append,List.length_replicate];have:=HDL.out;omega)
   injection eO with eO eL eO2
   clear eL
   subst eO eO2
   have HCO:=Aside0.mk hcO
   have hgo:go < WR.heap.size:=blk_lt hcO
   have HGB:Aside0 (w.heap.size ≤ go):=⟨Kd.S_base HS.out go rfl⟩
   clear hcO
   go_wp2_with (go_at_call 119;refine hcall.mono ?_;first|rintro e W2 v rfl hr hd|rintro e W2 ⟨v,rfl,hr,hd⟩;have HSG:=Aside0.mk (Kd.S_below (Kd.S_mono (Kd.S_bound HS.out) (ok':=fun k_=>True ∧ ¬ WR.heap.size ≤ k_) (fun k_ h=>⟨trivial,by have:=h.2.2.1;omega⟩)) hd);have HM:=Aside0.mk (map_below HM.out hd);have HRX:=Aside0.mk (Kd.R_lower (Kd.R_bound hr) HB.out.size);have HB:=Aside0.mk (below_step HB.out hd);have hcO2:=Aside0.mk ((hd.block go hgo).trans HCO.out);clear hr hd HS;obtain ⟨AV,cV,rfl⟩:=Kd.R_slice HRX.out;obtain ⟨oki,cc_,hcl,hM_,hcc,hfr,hoki,hH⟩:=Kd.S_elem HSG.out [] (i:Int) (by omega) (by omega);obtain ⟨vold,rfl,hro⟩:=hM_;rw [Int.toNat_natCast] at hcc hfr hro;have q1:W2.cell? ⟨go,i,none⟩ = some vold:=(by have:=hcc 0 _ rfl;rwa [show i * (Kd.slice 3 (Kd.int .i64)).sz + 0 = i by show i * 1 + 0 = i;omega] at this);have q2:W2.frozen? ⟨go,i,none⟩ = false:=(by have:=hfr 0;rwa [show i * (Kd.slice 3 (Kd.int .i64)).sz + 0 = i by show i * 1 + 0 = i;omega] at this);obtain ⟨Ao_,co_,rfl⟩:=Kd.R_slice hro;have hSg:=(Kd.S_seg (ok:=fun _=>True) (okg:=fun k_=>WR.heap.size ≤ k_ ∧ k_ ≠ go) (Kd.H_mono hH (fun k_ h=>⟨trivial,fun q_=>h.2 q_.1⟩)) (by omega) (by omega) (seg:=[.slice AV x.length cV]) (j:=0) (by show 0 + 1 ≤ 1;omega) (okp:=fun k_=>WR.heap.size ≤ k_ ∧ k_ ≠ go) (x':=x) ⟨_,rfl,Kd.R_mono (Kd.R_types HRX.out hcO2.out (by decide)) (fun k_ h=>⟨h.1.2.1,h.2⟩)⟩ (fun k_ h=>.inr h) (fun k_ h=>⟨trivial,h.2⟩));have HSN:=Aside0.mk hSg.1;have HSG2:=Aside0.mk hSg.2;clear hSg hH hcc hfr hoki hro hcl)
   have hset:(dn ++ List.replicate (l0.length - i) []).set ((i:Int)).toNat x = dn ++ x :: List.replicate (l0.length - (i + 1)) []:=by
    have hdl:=HDL.out
    rw [Int.toNat_natCast,List.set_append_right _ _ (by omega),hdl,Nat.sub_self,show l0.length - i = (l0.length - (i + 1)) + 1 by omega,List.replicate_succ,List.set_cons_zero]
   have e9:((i:Int)).toNat * (Kd.slice 3 (Kd.int .i64)).sz + 0 = i:=by rw [Int.toNat_natCast];show i * 1 + 0 = i;omega
   have hs9:=HSN.out
   have hg9:=HSG2.out
   rw [hset,e9] at hs9
   rw [e9] at hg9
   have HS:=Aside0.mk (show Kd.S (Kd.slice 3 (Kd.int .i64)) 24 (W2.setCell ⟨go,i,none⟩ (.slice AV x.length cV)) w.heap.size (fun _=>True) (.slice (some ⟨go,0,none⟩) l0.length cO) (dn ++ x :: List.replicate (l0.length - (i + 1)) []) from hs9)
   have HM:=Aside0.mk (map_keep HM.out (show W2.grownBy (W2.setCell ⟨go,i,none⟩ (.slice AV x.length cV)) (some go) from hg9) hcO2.out)
   have HB:=Aside0.mk (below_set HB.out HGB.out (j:=i) (v:=.slice AV x.length cV))
   clear hs9 hg9 HSN HSG2 hset e9 HSG HRX hcO2 q1 q2 HCO
   generalize W2.setCell ⟨go,i,none⟩ (.slice AV x.length cV) = W3 at HS HM HB ⊢
   go_loopw [29] (fun v29 Wq=>∃ (k:Nat) (mt pr:List Int),k ≤ x.length ∧ v29 = .int .i64 k ∧ Hid (pr.length = k) ∧ Hid ((rnT mt (x.drop k)).1 = (rnT met x).1 ∧ pr ++ (rnT mt (x.drop k)).2 = (rnT met x).2) ∧ Hid (mt.length ≤ i * 1048576 + k) ∧ Hid mt.Nodup ∧ Hid (Kd.S (Kd.slice 3 (Kd.int .i64)) 24 Wq w.heap.size (fun _=>True) (.slice (some ⟨go,0,none⟩) l0.length cO) (dn ++ (pr ++ x.drop k) :: List.replicate (l0.length - (i + 1)) [])) ∧ Hid (Wq.ownsMap Try.prog 3 (plainElem Try.prog 3) gm mt.length (Md mt)) ∧ Hid (Below w.heap.size w Wq)) (fun v29 _=>x.length - (intOf v29).toNat)
   case atStart =>
    have a1:(rnT met (x.drop 0)).1 = (rnT met x).1 ∧ [] ++ (rnT met (x.drop 0)).2 = (rnT met x).2:=by rw [List.drop_zero];exact ⟨rfl,List.nil_append _⟩
    have a2:met.length ≤ i * 1048576 + 0:=Nat.le_trans HML.out (Nat.le_add_right _ _)
    have a3:Kd.S (Kd.slice 3 (Kd.int .i64)) 24 W3 w.heap.size (fun _=>True) (.slice (some ⟨go,0,none⟩) l0.length cO) (dn ++ ([] ++ x.drop 0) :: List.replicate (l0.length - (i + 1)) []):=by rw [List.drop_zero,List.nil_append];exact HS.out
    exact ⟨0,met,[],Nat.zero_le _,rfl,rfl,a1,by unfold Hid;exact a2,HMD.out,a3,HM.out,HB.out⟩
   case round =>
    rename World=>Wq
    clear HS HM HB HML HMD
    obtain ⟨k,mt,pr,hk,rfl,hpl,hrn,hml,hmd,hS,hM,hB⟩:=hrel
    unfold Hid at hpl hrn hml hmd hS hM hB
    by_cases hq:k < x.length
    ·obtain ⟨adx,cx,rfl,hcl,hKx,hcx⟩:=Kd.C_get (Kd.C_below HX.out hB) 0 (k:Int) (by omega) (by omega)
     rw [Int.toNat_natCast] at hKx hcx
     have hx0:x.getD k 0 = x[k]:=by rw [List.getD_eq_getElem?_getD,List.getElem?_eq_getElem hq];rfl
     rw [hx0] at hKx
     have q0:Wq.cell? (adx.add k) = some (.int .i64 x[k]):=by
      have hc9:cx = [.int .i64 x[k]]:=hKx
      subst hc9
      have:=hcx 0 _ rfl
      rwa [show k * (Kd.int .i64).sz + 0 = k by show k * 1 + 0 = k;omega] at this
     have hnb:=HXW.out x[k] (List.getElem_mem hq)
     rw [List.drop_eq_getElem_cons hq] at hrn hS
     have hsetk:∀ y:Int,(pr ++ x[k] :: x.drop (k + 1)).set k y = (pr ++ [y]) ++ x.drop (k + 1):=fun y=>by
      rw [List.set_append_right _ _ (by omega),hpl,Nat.sub_self,List.set_cons_zero,List.append_assoc];rfl
     have hlen9:(pr ++ x[k] :: x.drop (k + 1)).length = x.length:=by rw [List.length_append,List.length_cons,List.length_drop];omega
     clear hcl hKx hcx hx0
     generalize x[k] = n at q0 hnb hrn hS hsetk hlen9
     have hkb:k < 1048576:=by omega
     have HPL:=Aside0.mk hpl
     have HML:=Aside0.mk hml
     have HMD:=Aside0.mk hmd
     have HS:=Aside0.mk hS
     have HM:=Aside0.mk hM
     have HB:=Aside0.mk hB
     have HSK:=Aside0.mk hsetk
     have HL9:=Aside0.mk hlen9
     clear hpl hml hmd hS hM hB hsetk hlen9
     by_cases hneg:0 ≤ n
     ·simp only [rnT,if_pos hneg] at hrn
      have HRN:=Aside0.mk hrn
      clear hrn
      go_wp2
      go_roundw
      case rel=>exact ⟨k + 1,mt,pr ++ [n],hq,rfl,by have:=HPL.out;unfold Hid;rw [List.length_append,List.length_singleton];omega,⟨HRN.out.1,by have:=HRN.out.2;rw [List.append_assoc];exact this⟩,by have:=HML.out;unfold Hid;omega,HMD.out,by have:=HS.out;unfold Hid;rw [List.append_assoc];exact this,HM.out,HB.out⟩
      case measure=>simp [intOf];omega
     ·simp only [rnT,if_neg hneg] at hrn
      have HRN:=Aside0.mk hrn
      have hkey:keyOf Try.prog 3 (.int .i64 n) = some (.int .i64 n):=Go.Maps.keyOf_int_mk Try.underlying3 (by simp [Lit.wf,IntKind.min,IntKind.max,IntKind.signed,IntKind.bits];omega)
      have hng:(n ≥ 0) = False:=eq_false (by omega)
      clear hrn
      by_cases hin:n ∈ mt
      ·have hhas:Go.Maps.has (Md mt) (.int .i64 n) = true:=by rw [Md_has];exact decide_eq_true hin
       go_upto_region 14 with (at_lookup;refine wpList_lookup_own_ok_int _ rfl _ _ 119 rfl 3 3 .i64 Try.keyed3 Try.underlying119 Try.underlying3 (Try.zero3 _) gm _ (Md mt) rfl HM.out _ _ rfl hkey ?_;intro cv_ hcv_ hwc_)
       have HRN2:Aside0 ((rnT mt (x.drop (k + 1))).1 = (rnT met x).1 ∧ pr ++ (-1 - ((mt.idxOf n:Nat):Int)) :: (rnT mt (x.drop (k + 1))).2 = (rnT met x).2):=⟨by have:=HRN.out;simp only [if_pos hin] at this;exact this⟩
       have HML2:Aside0 (mt.length ≤ i * 1048576 + (k + 1)):=⟨by have:=HML.out;omega⟩
       have hin2:=Aside0.mk hin
       clear hin hhas HRN HML q0 hng
       have hS5:=Kd.S_drew HS.out
       have hM5:=HM.out.drew
       have hB5:=below_drew1 HB.out
       obtain ⟨oki,c,hcl,hM_,hcc,hfr,hoki,hkeep,_⟩:=S_at hS5 i (pr ++ n :: x.drop (k + 1)) (by rw [List.getElem?_append_right (by have:=HDL.out;omega),HDL.out,Nat.sub_self];rfl)
       obtain ⟨vi,rfl,hRi⟩:=hM_
       have q1:Wq.drew.cell? ⟨go,i,none⟩ = some vi:=by have:=hcc 0 _ rfl;rwa [show i * (Kd.slice 3 (Kd.int .i64)).sz + 0 = i by show i * 1 + 0 = i;omega] at this
       obtain ⟨gi,ci,rfl,hgib,hgil,csi,hci⟩:=Kd.R_form hRi (by rw [HL9.out];omega)
       rw [HL9.out] at q1
       obtain ⟨ck,hck,hMk,hcck,_⟩:=Kd.R_elem hRi 0 (k:Int) (by omega) (by rw [HL9.out];omega)
       obtain ⟨u0,hu0⟩:∃ u0,ck[0]? = some u0:=⟨_,List.getElem?_eq_getElem (by rw [hck];decide)⟩
       have q2:Wq.drew.cell? ⟨gi,k,none⟩ = some u0:=by have:=hcck 0 _ hu0;rwa [Int.toNat_natCast,show k * (Kd.int .i64).sz + 0 = k by show k * 1 + 0 = k;omega] at this
       have q3:=blk_frozen hci k
       obtain ⟨cv,hrun,hat,hwf⟩:=hM5.lookup_int Try.keyed3 Try.underlying119 Try.underlying3 (Try.zero3 _) hkey
       have hcv:cv = -1 - (((mt).idxOf n:Nat):Int):=by have h9:=Md_at (mt) n hin2.out (.lit (.int .i64 0)) HMD.out;rw [hat] at h9;injection h9 with h9;injection h9
       have hput:=Kd.R_put hRi (k:Int) cv
       rw [Int.toNat_natCast,HSK.out] at hput
       have hkp:=hkeep (Wq.drew.setCell ⟨gi,k,none⟩ (.int .i64 cv)) ((pr ++ [cv]) ++ x.drop (k + 1)) (Kept.setCell (Kept.refl _ _) (.inl (hRi.1 gi rfl)) _) ⟨_,rfl,by have h9:=hput.1;exact h9⟩
       rw [List.set_append_right _ _ (by have:=HDL.out;omega),HDL.out,Nat.sub_self,List.set_cons_zero] at hkp
       have HS:=Aside0.mk hkp
       have HM:=Aside0.mk (map_keep hM5 (show Wq.drew.grownBy (Wq.drew.setCell ⟨gi,k,none⟩ (.int .i64 cv)) (some gi) from hput.2) hci)
       have HB:=Aside0.mk (below_set hB5 hgib (j:=k) (v:=.int .i64 cv))
       have Q2:=Aside0.mk q2
       have Q3:=Aside0.mk q3
       have HCV:=Aside0.mk hcv
       clear hS5 hM5 hB5 hcl hcc hfr hoki hkeep hRi hck hMk hcck hu0 hput hkp hat hwf hgib hgil hci q2 q3 hcv
       refine start_ (n:=10) (S:=fun w'=>w'.cell? ⟨go,i,none⟩ = some (.slice (some ⟨gi,0,none⟩) x.length ci) ∧ (Instr.lookup 119 (.map (some gm)) (.int .i64 n) false).run Try.prog w' = .ok (.int .i64 cv) w') (ds:=[9]) #[false,false,false,false,false,false,false,false,false,false] (by kernel_rfl) rfl rfl ⟨q1,hrun⟩ (fun hHeld=>?_)
       clear q1 hrun
       generalize Wq.drew = W5 at HS HM HB Q2 Q3 hHeld ⊢
       refine pU (i:=0) (N:=some 49) #[true,false,false,false,false,false,false,false,false,false] (by kernel_rfl) ?_
       refine pU (i:=1) (N:=some 50) #[true,true,false,false,false,false,false,false,false,false] (by kernel_rfl) ?_
       refine pU (i:=2) (N:=some 51) #[true,true,true,false,false,false,false,false,false,false] (by kernel_rfl) ?_
       refine tK2 (i:=3) (N:=some 52) #[true,true,true,true,false,false,false,false,false,false] (by kernel_rfl) hHeld ?_
       refine pU (i:=4) (N:=some 53) #[true,true,true,true,true,false,false,false,false,false] (by kernel_rfl) ?_
       refine pU (i:=5) (N:=some 54) #[true,true,true,true,true,true,false,false,false,false] (by kernel_rfl) ?_
       refine pU (i:=6) (N:=some 55) #[true,true,true,true,true,true,true,false,false,false] (by kernel_rfl) ?_
       refine tK2 (i:=7) (N:=some 56) #[true,true,true,true,true,true,true,true,false,false] (by kernel_rfl) hHeld ?_
       refine pU (i:=8) (N:=some 57) #[true,true,true,true,true,true,true,true,true,false] (by kernel_rfl) ?_
       refine last_ (i:=9) (N:=none) #[true,true,true,true,true,true,true,true,true,true] rfl rfl (by kernel_rfl) (by decide) (fun K hK=>?_)
       have hs:=Q2.out
       have hf:=Q3.out
       clear hHeld
       refine skip_ (w1:=?_) (by rfl) rfl ?_ ?_
       rotate_left
       ·go_simp
        rfl
       clear hs hf Q2 Q3
       generalize W5.setCell ⟨gi,k,none⟩ (.int .i64 cv) = W6 at HS HM HB ⊢
       refine hK.out _ _ ?_
       clear hK K
       refine done_ (by kernel_rfl) ?_
       go_wp2
       go_roundw
       case rel=>exact ⟨k + 1,mt,pr ++ [cv],hq,rfl,by have:=HPL.out;unfold Hid;rw [List.length_append,List.length_singleton];omega,⟨HRN2.out.1,by have:=HRN2.out.2;rw [List.append_assoc,HCV.out];exact this⟩,by have:=HML2.out;unfold Hid;exact this,HMD.out,HS.out,HM.out,HB.out⟩
       case measure=>simp [intOf];omega
      ·have hhas:Go.Maps.has (Md mt) (.int .i64 n) = false:=by rw [Md_has];exact decide_eq_false hin
       have hsz:Go.Maps.size (Md mt) = mt.length:=Md_size mt HMD.out
       have hmb:mt.length ≤ 4398046511104:=by have:=HML.out;omega
       have hval:plainElem (H:=Unit) Try.prog 3 (.int .i64 (-1 - (mt.length:Int))) = some (.lit (.int .i64 (-1 - (mt.length:Int))),[]):=plainElem_int Try.underlying3 (by simp [Lit.wf,IntKind.min,IntKind.max,IntKind.signed,IntKind.bits];omega)
       go_upto_region 14 with (first
        | (at_lookup;refine wpList_lookup_own_ok_int _ rfl _ _ 119 rfl 3 3 .i64 Try.keyed3 Try.underlying119 Try.underlying3 (Try.zero3 _) gm _ (Md mt) rfl HM.out _ _ rfl hkey ?_;intro cv_ hcv_ hwc_)
        | (at_len;refine wpList_len_own _ rfl _ 119 rfl 3 3 Try.underlying119 _ gm _ (Md mt) rfl HM.out ?_)
        | (at_mapUpdate;go_loud (refine wpList_mapUpdate_own _ rfl _ _ _ 119 rfl 3 3 Try.keyed3 Try.underlying119 (plainElem (H:=Unit) Try.prog 3) gm mt.length (Md mt) rfl HM.out (by unfold maxLen;omega) _ _ (.int .i64 n) rfl rfl hkey (.lit (.int .i64 (-1 - (mt.length:Int)))) [] hval ?_);intro Wm hown1 hgrow1;go_loud (have HS:=Aside0.mk (s_mapped HS.out HM.out hgrow1);have HB:=Aside0.mk (Below.grown HB.out hgrow1 HB.out.size (fun k_ e_=>by injection e_ with e_;subst e_;exact HGM.out));have HM:=Aside0.mk hown1;clear hown1 hgrow1)))
       have HRN2:Aside0 ((rnT (mt ++ [n]) (x.drop (k + 1))).1 = (rnT met x).1 ∧ pr ++ (-1 - (((mt ++ [n]).idxOf n:Nat):Int)) :: (rnT (mt ++ [n]) (x.drop (k + 1))).2 = (rnT met x).2):=⟨by have:=HRN.out;simp only [if_neg hin] at this;exact this⟩
       have HML2:Aside0 ((mt ++ [n]).length ≤ i * 1048576 + (k + 1)):=⟨by have:=HML.out;rw [List.length_append,List.length_singleton];omega⟩
       have hin2:Aside0 (n ∈ mt ++ [n]):=⟨by simp⟩
       have HMD:Aside0 (mt ++ [n]).Nodup:=⟨by
        have h9:=HMD.out
        rw [List.nodup_append]
        exact ⟨h9,by simp,fun a ha b hb e=>by rw [List.mem_singleton] at hb;subst hb;subst e;exact hin ha⟩⟩
       have HM:Aside0 (Wm.ownsMap Try.prog 3 (plainElem Try.prog 3) gm (mt ++ [n]).length (Md (mt ++ [n]))):=⟨by rw [Md_snoc,List.length_append,List.length_singleton];exact HM.out⟩
       clear hin hhas HRN HML q0 hng hsz hmb hval
       have hS5:=Kd.S_drew HS.out
       have hM5:=HM.out.drew
       have hB5:=below_drew1 HB.out
       obtain ⟨oki,c,hcl,hM_,hcc,hfr,hoki,hkeep,_⟩:=S_at hS5 i (pr ++ n :: x.drop (k + 1)) (by rw [List.getElem?_append_right (by have:=HDL.out;omega),HDL.out,Nat.sub_self];rfl)
       obtain ⟨vi,rfl,hRi⟩:=hM_
       have q1:Wm.drew.cell? ⟨go,i,none⟩ = some vi:=by have:=hcc 0 _ rfl;rwa [show i * (Kd.slice 3 (Kd.int .i64)).sz + 0 = i by show i * 1 + 0 = i;omega] at this
       obtain ⟨gi,ci,rfl,hgib,hgil,csi,hci⟩:=Kd.R_form hRi (by rw [HL9.out];omega)
       rw [HL9.out] at q1
       obtain ⟨ck,hck,hMk,hcck,_⟩:=Kd.R_elem hRi 0 (k:Int) (by omega) (by rw [HL9.out];omega)
       obtain ⟨u0,hu0⟩:∃ u0,ck[0]? = some u0:=⟨_,List.getElem?_eq_getElem (by rw [hck];decide)⟩
       have q2:Wm.drew.cell? ⟨gi,k,none⟩ = some u0:=by have:=hcck 0 _ hu0;rwa [Int.toNat_natCast,show k * (Kd.int .i64).sz + 0 = k by show k * 1 + 0 = k;omega] at this
       have q3:=blk_frozen hci k
       obtain ⟨cv,hrun,hat,hwf⟩:=hM5.lookup_int Try.keyed3 Try.underlying119 Try.underlying3 (Try.zero3 _) hkey
       have hcv:cv = -1 - (((mt ++ [n]).idxOf n:Nat):Int):=by have h9:=Md_at (mt ++ [n]) n hin2.out (.lit (.int .i64 0)) HMD.out;rw [hat] at h9;injection h9 with h9;injection h9
       have hput:=Kd.R_put hRi (k:Int) cv
       rw [Int.toNat_natCast,HSK.out] at hput
       have hkp:=hkeep (Wm.drew.setCell ⟨gi,k,none⟩ (.int .i64 cv)) ((pr ++ [cv]) ++ x.drop (k + 1)) (Kept.setCell (Kept.refl _ _) (.inl (hRi.1 gi rfl)) _) ⟨_,rfl,by have h9:=hput.1;exact h9⟩
       rw [List.set_append_right _ _ (by have:=HDL.out;omega),HDL.out,Nat.sub_self,List.set_cons_zero] at hkp
       have HS:=Aside0.mk hkp
       have HM:=Aside0.mk (map_keep hM5 (show Wm.drew.grownBy (Wm.drew.setCell ⟨gi,k,none⟩ (.int .i64 cv)) (some gi) from hput.2) hci)
       have HB:=Aside0.mk (below_set hB5 hgib (j:=k) (v:=.int .i64 cv))
       have Q2:=Aside0.mk q2
       have Q3:=Aside0.mk q3
       have HCV:=Aside0.mk hcv
       clear hS5 hM5 hB5 hcl hcc hfr hoki hkeep hRi hck hMk hcck hu0 hput hkp hat hwf hgib hgil hci q2 q3 hcv
       refine start_ (n:=10) (S:=fun w'=>w'.cell? ⟨go,i,none⟩ = some (.slice (some ⟨gi,0,none⟩) x.length ci) ∧ (Instr.lookup 119 (.map (some gm)) (.int .i64 n) false).run Try.prog w' = .ok (.int .i64 cv) w') (ds:=[9]) #[false,false,false,false,false,false,false,false,false,false] (by kernel_rfl) rfl rfl ⟨q1,hrun⟩ (fun hHeld=>?_)
       clear q1 hrun
       generalize Wm.drew = W5 at HS HM HB Q2 Q3 hHeld ⊢
       refine pU (i:=0) (N:=some 49) #[true,false,false,false,false,false,false,false,false,false] (by kernel_rfl) ?_
       refine pU (i:=1) (N:=some 50) #[true,true,false,false,false,false,false,false,false,false] (by kernel_rfl) ?_
       refine pU (i:=2) (N:=some 51) #[true,true,true,false,false,false,false,false,false,false] (by kernel_rfl) ?_
       refine tK2 (i:=3) (N:=some 52) #[true,true,true,true,false,false,false,false,false,false] (by kernel_rfl) hHeld ?_
       refine pU (i:=4) (N:=some 53) #[true,true,true,true,true,false,false,false,false,false] (by kernel_rfl) ?_
       refine pU (i:=5) (N:=some 54) #[true,true,true,true,true,true,false,false,false,false] (by kernel_rfl) ?_
       refine pU (i:=6) (N:=some 55) #[true,true,true,true,true,true,true,false,false,false] (by kernel_rfl) ?_
       refine tK2 (i:=7) (N:=some 56) #[true,true,true,true,true,true,true,true,false,false] (by kernel_rfl) hHeld ?_
       refine pU (i:=8) (N:=some 57) #[true,true,true,true,true,true,true,true,true,false] (by kernel_rfl) ?_
       refine last_ (i:=9) (N:=none) #[true,true,true,true,true,true,true,true,true,true] rfl rfl (by kernel_rfl) (by decide) (fun K hK=>?_)
       have hs:=Q2.out
       have hf:=Q3.out
       clear hHeld
       refine skip_ (w1:=?_) (by rfl) rfl ?_ ?_
       rotate_left
       ·go_simp
        rfl
       clear hs hf Q2 Q3
       generalize W5.setCell ⟨gi,k,none⟩ (.int .i64 cv) = W6 at HS HM HB ⊢
       refine hK.out _ _ ?_
       clear hK K
       refine done_ (by kernel_rfl) ?_
       go_wp2
       go_roundw
       case rel=>exact ⟨k + 1,mt ++ [n],pr ++ [cv],hq,rfl,by have:=HPL.out;unfold Hid;rw [List.length_append,List.length_singleton];omega,⟨HRN2.out.1,by have:=HRN2.out.2;rw [List.append_assoc,HCV.out];exact this⟩,by have:=HML2.out;unfold Hid;exact this,HMD.out,HS.out,HM.out,HB.out⟩
       case measure=>simp [intOf];omega
    ·obtain rfl:k = x.length:=by omega
     rw [List.drop_length,List.append_nil] at hS
     rw [List.drop_length] at hrn
     simp only [rnT] at hrn
     obtain ⟨rfl,hrn2⟩:=hrn
     rw [List.append_nil] at hrn2
     subst hrn2
     have HS:=Aside0.mk hS
     have HM:=Aside0.mk hM
     have HB:=Aside0.mk hB
     have HML:=Aside0.mk hml
     have HMD:=Aside0.mk hmd
     clear hS hM hB hml hmd hpl
     go_wp2
     go_roundw
     case rel=>exact ⟨i + 1,(rnT met x).1,dn ++ [(rnT met x).2],hp,rfl,by have:=HDL.out;unfold Hid;rw [List.length_append,List.length_singleton];omega,by have:=HDE.out;unfold Hid;rw [List.append_assoc];exact this,by have:=HML.out;unfold Hid;omega,HMD.out,by have:=HS.out;unfold Hid;rw [List.append_assoc];exact this,HM.out,HB.out⟩
     case measure=>simp [intOf];omega
  ·obtain rfl:i = l0.length:=by omega
   rw [List.drop_length] at hde
   simp only [rnL] at hde
   rw [List.append_nil] at hde
   rw [Nat.sub_self,List.replicate_zero,List.append_nil] at hS
   subst hde
   have HS:=Aside0.mk hS
   have HB:=Aside0.mk hB
   clear hS hB hM hdl hml hmd
   go_wp2
   go_ret
   exact ⟨_,rfl,HS.out,HB.out⟩
def impl_renameClause.f (k:Nat) (l:List S83):Option (List S83):=(impl_termsOf.f l).bind fun t=>(impl_rename.f t).bind fun u=>impl_withTerms.f k l u
set_option maxHeartbeats 8000000 in
set_option maxRecDepth 1000000 in
theorem impl_renameClause.calls (k:Nat) (A0:Option Addr) (c0:Nat) (l0:List S83) (r:List S83) (w:World) (hr0:Kd.C k83 w A0 l0.length l0) (hc0:l0.length ≤ c0) (h:impl_renameClause.f k l0 = some r) :
  Calls Try.prog 61 #[.slice A0 l0.length c0] w fun e w'=>∃ v0_:Value,e = .returned v0_ ∧ Kd.N k83 83 w' w.heap.size (fun _=>True) v0_ r ∧ Below w.heap.size w w':=by
 unfold impl_renameClause.f at h
 obtain ⟨t,ht,h⟩:=Option.bind_eq_some_iff.1 h
 obtain ⟨u,hu,h⟩:=Option.bind_eq_some_iff.1 h
 have H0:=Aside0.mk hr0
 have HU:=Aside0.mk hu
 have HW:=Aside0.mk h
 have h1:=impl_termsOf.calls A0 c0 l0 t w hr0 hc0 ht
 clear h hr0 ht hu
 go_enter Try.func61,Try.ntmps61
 go_wp2_with (go_at_call 71;refine h1.mono ?_)
 first|rintro e W1 v rfl hr hd|rintro e W1 ⟨v,rfl,hr,hd⟩
 obtain ⟨A1,c1,rfl⟩:=Kd.N_slice hr
 have h2:=impl_rename.calls A1 c1 t u W1 (Kd.N_reads' hr).2.2 (Kd.N_reads' hr).2.1 HU.out
 have HB:=Aside0.mk hd
 clear h1 hr hd
 go_wp2_with (go_at_call 105;refine h2.mono ?_)
 first|rintro e W2 v rfl hr hd|rintro e W2 ⟨v,rfl,hr,hd⟩
 obtain ⟨A2,c2,rfl⟩:=Kd.S_slice hr
 have HB:=Aside0.mk (below_step HB.out hd)
 have h3:=impl_withTerms.calls k A0 c0 l0 (fun _=>True) A2 c2 u r W2 (Kd.C_below H0.out HB.out) hc0 (Kd.V_mk (Kd.S_reads' hr).2.1 (Kd.F_mono (Kd.S_F hr) (fun _ _=>trivial))) HW.out
 clear h2 hr hd
 go_wp2_with (go_at_call 104;refine h3.mono ?_)
 first|rintro e W3 v rfl hr hd|rintro e W3 ⟨v,rfl,hr,hd⟩
 have HR:=Aside0.mk (Kd.N_lower (Kd.N_mono hr (ok':=fun _=>True) (fun _ _=>trivial)) HB.out.size)
 have HB:=Aside0.mk (below_step HB.out hd)
 clear h3 hr hd
 go_wp2
 go_ret
 exact ⟨_,rfl,HR.out,HB.out⟩
theorem impl_renameClause.mono (y0:List S83) (k:Nat):LeO (impl_renameClause.f k y0) (impl_renameClause.f (k + 1) y0):=by
 unfold impl_renameClause.f
 exact LeO.bind (LeO.refl _) (fun _=>LeO.bind (LeO.refl _) (fun _=>impl_withTerms.mono _ _ _))

/-! ### impl_RenameClause: function 21 -/
def impl_RenameClause.f (k:Nat) (l0_0:List Int) (l1:List (S83)):Option ((List (S83)) × Bool):=(impl_GoodClause.f k l0_0 l1).bind fun t427=>(if t427 = true then ((impl_renameClause.f k l1).bind fun t428=>(some (t428,true))) else (some (([]:List (S83)),false)))
theorem impl_RenameClause.mono:∀ a0 a1 k,LeO (impl_RenameClause.f k a0 a1) (impl_RenameClause.f (k + 1) a0 a1):=by
 intro a0 a1 k
 unfold impl_RenameClause.f
 have m0:=@impl_GoodClause.mono
 have m1:=@impl_renameClause.mono
 exact mO
set_option maxHeartbeats 8000000 in
set_option maxRecDepth 100000 in
theorem impl_RenameClause.calls (k:Nat) (A0_0:Option Addr) (c0_0:Nat) (l0_0:List Int) (A1:Option Addr) (c1:Nat) (l1:List (S83)) (r1:List (S83)) (r2:Bool) (w:World) (hr0_0:Kd.C (Kd.int .i64) w A0_0 l0_0.length l0_0) (hc0_0:l0_0.length ≤ c0_0) (hr1:Kd.C k83 w A1 l1.length l1) (hc1:l1.length ≤ c1) (h:impl_RenameClause.f k l0_0 l1 = some (r1,r2)) :
  Calls Try.prog 21 #[.agg #[.slice A0_0 l0_0.length c0_0],.slice A1 l1.length c1] w fun e w'=>∃ v0_:Value,e = .returned (.tuple #[v0_,.bool r2]) ∧ Kd.N k83 83 w' w.heap.size (fun _=>True) v0_ r1 ∧ Below w.heap.size w w':=by
 have hu26:=Try.underlying26
 have HR0_0:=Aside0.mk hr0_0
 have HC0_0:=Aside0.mk hc0_0
 clear hr0_0 hc0_0
 have HR1:=Aside0.mk hr1
 have HC1:=Aside0.mk hc1
 clear hr1 hc1
 have HB:=Aside0.mk (Below.refl w.heap.size w)
 have H:((impl_GoodClause.f k l0_0 l1).bind fun t427=>(if t427 = true then ((impl_renameClause.f k l1).bind fun t428=>(some (t428,true))) else (some (([]:List (S83)),false)))) = some (r1,r2):=h
 clear h
 replace H:=bI H;obtain ⟨t427,A3,H⟩:=H
 by_cases c4:t427 = true
 ·subst c4
  replace H:=pT H
  replace H:=bI H;obtain ⟨t428,A5,H⟩:=H
  simp only [Option.some.injEq,Prod.mk.injEq] at H
  obtain ⟨rfl,rfl⟩:=H
  go_enter Try.func21,Try.ntmps21
  go_wp2_with (first|(refine xB 2 #[.slice A0_0 l0_0.length c0_0] 26 ?_;intro gb426 hg w6 hbox hb;have BK426:=Aside0.mk (hbox);have GW426:=gZ w gb426;have GE426:=GW426;replace HB:=bS hb;clear hb hbox hg;have hcz7_0:=qc1_0 BK426;have hfz7_0:=fz BK426 0)|((with_reducible refine gate_callee (f:=26) rfl ?_);refine goesL_ (some 8) rfl rfl Try.func26 (by kernel_rfl) rfl #[.agg #[.slice A0_0 l0_0.length c0_0],.slice A1 l1.length c1] rfl Ya ?_;(with_reducible refine (impl_GoodClause.calls k _ _ l0_0 _ _ l1 true _ ?side1 ?side2 ?side3 ?side4 A3.out).mono ?_);(case side1=>exact Yx);(case side2=>exact Yw);(case side3=>exact sC HR1);(case side4=>exact HC1.out);rintro e w8 ⟨rfl,hb⟩;refine ⟨_,rfl,?_⟩;replace BK426:=bb BK426 hb;replace HB:=bS hb;clear hb)|((with_reducible refine gate_callee (f:=61) rfl ?_);refine goesL_ (some 11) rfl rfl Try.func61 (by kernel_rfl) rfl #[.slice A1 l1.length c1] rfl Ya ?_;(with_reducible refine (impl_renameClause.calls k _ _ l1 t428 _ ?side1 ?side2 A5.out).mono ?_);(case side1=>exact sC HR1);(case side2=>exact HC1.out);rintro e w9 ⟨v429,rfl,ho0,hb⟩;refine ⟨_,rfl,?_⟩;have HO430:=Aside0.mk (Kd.N_lower ho0 (below_size bH));replace BK426:=bb BK426 hb;replace HB:=bS hb;clear hb ho0))
  go_ret2
  exact ⟨_,Yb,by (with_reducible repeat (first|apply Kd.N_alloc|apply Kd.N_drewN|apply Kd.N_drew));exact Kd.N_mono HO430.out (fun _ _=>trivial),bH⟩
 ·replace c4:=Bool.eq_false_iff.mpr c4
  subst c4
  replace H:=pF H
  simp only [Option.some.injEq,Prod.mk.injEq] at H
  obtain ⟨rfl,rfl⟩:=H
  go_enter Try.func21,Try.ntmps21
  go_wp2_with (first|(refine xB 2 #[.slice A0_0 l0_0.length c0_0] 26 ?_;intro gb426 hg w10 hbox hb;have BK426:=Aside0.mk (hbox);have GW426:=gZ w gb426;have GE426:=GW426;replace HB:=bS hb;clear hb hbox hg;have hcz11_0:=qc1_0 BK426;have hfz11_0:=fz BK426 0)|((with_reducible refine gate_callee (f:=26) rfl ?_);refine goesL_ (some 8) rfl rfl Try.func26 (by kernel_rfl) rfl #[.agg #[.slice A0_0 l0_0.length c0_0],.slice A1 l1.length c1] rfl Ya ?_;(with_reducible refine (impl_GoodClause.calls k _ _ l0_0 _ _ l1 false _ ?side1 ?side2 ?side3 ?side4 A3.out).mono ?_);(case side1=>exact Yx);(case side2=>exact Yw);(case side3=>exact sC HR1);(case side4=>exact HC1.out);rintro e w12 ⟨rfl,hb⟩;refine ⟨_,rfl,?_⟩;replace BK426:=bb BK426 hb;replace HB:=bS hb;clear hb))
  go_ret2
  exact ⟨_,Yb,Yl,bH⟩

/-! ### spec_l1Has: function 121 -/
def spec_l1Has.l0:Nat → Int → List Int → Int → Int → Option (Bool)
 | 0,_,_,_,_=>none
 | k + 1,x1,x7,x8,x9=>if x9 < x8 then (if 0 ≤ x9 then (if x9 < (x7.length:Int) then (if (rd x7 x9) = x1 then (some true) else (spec_l1Has.l0 k x1 x7 x8 (wrap64 (x9 + 1)))) else (none)) else (none)) else (some false)
def spec_l1Has.f (k:Nat) (l0:List Int) (a1:Int):Option (Bool):=spec_l1Has.l0 k a1 l0 (l0.length:Int) 0
theorem spec_l1Has.mono_l:∀ k,(∀ y0 y1 y2 y3,LeO (spec_l1Has.l0 k y0 y1 y2 y3) (spec_l1Has.l0 (k + 1) y0 y1 y2 y3))
 | 0=>fun _ _ _ _ r h=>by simp [spec_l1Has.l0] at h
 | k + 1=>by
  have ih0:=spec_l1Has.mono_l k
  ·intro y0 y1 y2 y3
   unfold spec_l1Has.l0
   exact mO
theorem spec_l1Has.mono:∀ a0 a1 k,LeO (spec_l1Has.f k a0 a1) (spec_l1Has.f (k + 1) a0 a1):=by
 intro a0 a1 k
 have ih0:=spec_l1Has.mono_l k
 unfold spec_l1Has.f
 exact mO
set_option maxHeartbeats 8000000 in
set_option maxRecDepth 100000 in
theorem spec_l1Has.calls (k:Nat) (A0:Option Addr) (c0:Nat) (l0:List Int) (a1:Int) (r:Bool) (w:World) (hr0:Kd.C (Kd.int .i64) w A0 l0.length l0) (hc0:l0.length ≤ c0) (h:spec_l1Has.f k l0 a1 = some r) :
  Calls Try.prog 121 #[.slice A0 l0.length c0,.int .i64 a1] w fun e w'=>e = .returned (.bool r) ∧ Drawn0 w w':=by
 have HR0:=Aside0.mk hr0
 have HC0:=Aside0.mk hc0
 clear hr0 hc0
 have H:(spec_l1Has.l0 k a1 l0 (l0.length:Int) 0) = some r:=h
 clear h
 have H':=Aside0.mk H
 clear H
 go_enter Try.func121,Try.ntmps121
 go_wp2
 go_loopg [9] k (fun kq v9 w'=>∃ (x9_1:Int),v9 = .int .i64 x9_1 ∧ Aside0 (spec_l1Has.l0 kq a1 l0 (l0.length:Int) x9_1 = some r) ∧ Aside0 (kq ≤ k) ∧ Drawn0 w w')
 case atStart=>exact ⟨(0),Yd,H',⟨Nat.le_refl _⟩,Yh⟩
 case round =>
  clear H'
  obtain ⟨x9_1,rfl,HA,HK1,⟨m1,rfl⟩⟩:=hrel
  cases gk with
  | zero=>exact absurd HA.out (by simp [spec_l1Has.l0])
  | succ k1 =>
   have H:=HA.out
   clear HA
   simp only [spec_l1Has.l0] at H
   by_cases c3:x9_1 < (l0.length:Int)
   ·rw [if_pos c3] at H
    have c3b0:=decide_eq_true c3
    clear c3
    replace H:=gI H;obtain ⟨c4b0,H⟩:=H
    replace H:=gI H;obtain ⟨c5b0,H⟩:=H
    by_cases c6:(rd l0 x9_1) = a1
    ·rw [if_pos c6] at H
     have c6b0:((rd l0 x9_1) == a1) = true:=beq_iff_eq.mpr c6
     have c6b1:((rd l0 x9_1) != a1) = false:=bne_eq_false_iff_eq.mpr c6
     clear c6
     obtain rfl:=Option.some.inj H
     obtain ⟨p431,q431,ad431,e431,hx431_0⟩:=aI HR0.out x9_1;cases e431
     go_wp2
     go_ret
     exact ⟨Yd,Yh⟩
    ·rw [if_neg c6] at H
     have c6b0:((rd l0 x9_1) == a1) = false:=beq_eq_false_iff_ne.mpr c6
     have c6b1:((rd l0 x9_1) != a1) = true:=bne_iff_ne.mpr c6
     have H':=Aside0.mk H
     clear H
     obtain ⟨p431,q431,ad431,e431,hx431_0⟩:=aI HR0.out x9_1;cases e431
     go_wp2
     go_roundg k1
     case measure=>have:=HK1.out;omega
     case rel=>exact ⟨(wrap64 (x9_1 + 1)),Yd,H',⟨YH⟩,Yh⟩
   ·rw [if_neg c3] at H
    have c3b0:decide (x9_1 < (l0.length:Int)) = false:=decide_eq_false c3
    clear c3
    obtain rfl:=Option.some.inj H
    go_wp2
    go_ret
    exact ⟨Yd,Yh⟩

end Go.Proofs.Ytmgkflkfoccgkaa.QFnTidied
