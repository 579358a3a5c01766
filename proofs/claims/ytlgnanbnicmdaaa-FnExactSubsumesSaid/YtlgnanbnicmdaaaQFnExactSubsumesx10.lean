-- Written by this session's own program (wip/x/xprint.py, over the kit's printer); Lean checks it.
import Derived.Test.YtlgnanbnicmdaaaQFnExactSubsumesx0
import Derived.Test.YtlgnanbnicmdaaaQFnExactSubsumesx1
import Derived.Test.YtlgnanbnicmdaaaQFnExactSubsumesx2
import Derived.Test.YtlgnanbnicmdaaaQFnExactSubsumesx5
import Derived.Test.YtlgnanbnicmdaaaQFnExactSubsumesx6
import Derived.Test.YtlgnanbnicmdaaaQFnExactSubsumesx9
namespace Go.Proofs.Ytlgnanbnicmdaaa.QFnExactSubsumes
open Go.RowKit Go.Proofs.YtlgnanbnicmdaaaW.PrintWords Go.Proofs.YtlgnanbnicmdaaaW.PrintLast Go.Proofs.YtlgnanbnicmdaaaW.PrintMore
attribute [local go_sem] max2_int min2_int max_two min_two max_three min_three max_four min_four   -- for this text's walks alone
set_option linter.unusedVariables false
set_option linter.unusedSimpArgs false

/-! ### laws_FnExactSubsumes: function 6, by a walk of this session's own -/
/-! ### Marks: what is written into deep rows, told by its leaves (cells of whole numbers and bools, in the order in which they are marked) -/
/-- A leaf: its cell, and whether it is a bool. -/
abbrev Leaf:=Addr × Bool
def lval (b:Bool) (k:Int):Value:=if b then .bool (k % 3 == 0) else .int .i64 k
def wrL (w:World):List Leaf → Int → World
  | [],_=>w
  | a :: t,k=>wrL (w.setCell a.1 (lval a.2 k)) t (k + 1)
theorem wrL_append (qs bs:List Leaf):∀ (w:World) (k:Int),wrL w (qs ++ bs) k = wrL (wrL w qs k) bs (k + qs.length):=by
  induction qs with
  | nil=>intro w k;simp [wrL]
  | cons a t ih =>
    intro w k
    rw [List.cons_append,wrL,ih,wrL,List.length_cons]
    congr 1
    omega
def Lf (w:World) (a:Leaf):Prop:=(a.1.spot = none ∧ w.frozen? a.1 = false) ∧ if a.2 then ∃ x,w.cell? a.1 = some (.bool x) else ∃ x,w.cell? a.1 = some (.int .i64 x)
theorem Lf.cell {w:World} {a:Leaf} (h:Lf w a):∃ u,w.cell? a.1 = some u:=by
  unfold Lf at h
  split at h
  · exact ⟨_,h.2.choose_spec⟩
  · exact ⟨_,h.2.choose_spec⟩
theorem Lf.set {w:World} {a b:Leaf} (ha:Lf w a) (hb:Lf w b) (k:Int):Lf (w.setCell a.1 (lval a.2 k)) b:=by
  refine ⟨⟨hb.1.1,by rw [World.frozen?_setCell];exact hb.1.2⟩,?_⟩
  by_cases e:a.1 = b.1
  · have e2:a.2 = b.2:=by
      have h1:=ha.2
      have h2:=hb.2
      rw [e] at h1
      cases ha2:a.2 <;> cases hb2:b.2
      · rfl
      · rw [ha2,if_neg (by decide)] at h1
        rw [hb2,if_pos rfl] at h2
        obtain ⟨x,hx⟩:=h1
        obtain ⟨y,hy⟩:=h2
        rw [hx] at hy
        cases hy
      · rw [ha2,if_pos rfl] at h1
        rw [hb2,if_neg (by decide)] at h2
        obtain ⟨x,hx⟩:=h1
        obtain ⟨y,hy⟩:=h2
        rw [hx] at hy
        cases hy
      · rfl
    obtain ⟨u,hu⟩:=ha.cell
    rw [← e,World.cell?_setCell_same _ _ _ hu,← e2]
    unfold lval
    cases a.2
    · exact ⟨_,rfl⟩
    · exact ⟨_,rfl⟩
  · rw [World.cell?_setCell_other _ _ _ _ e]
    exact hb.2
theorem Lf.wr {b:Leaf} (qs:List Leaf):∀ (w:World) (k:Int),(∀ a ∈ qs,Lf w a) → Lf w b → Lf (wrL w qs k) b:=by
  induction qs with
  | nil=>intro w k _ h;exact h
  | cons a t ih=>intro w k h hb;exact ih _ _ (fun x hx=>(h a (by simp)).set (h x (by simp [hx])) k) ((h a (by simp)).set hb k)
theorem slice_set {w:World} {a:Leaf} (ha:Lf w a) (k:Int) {p:Addr} {A:Option Addr} {n c:Nat} (h:w.cell? p = some (.slice A n c)):(w.setCell a.1 (lval a.2 k)).cell? p = some (.slice A n c):=by
  rw [World.cell?_setCell_other _ _ _ _ (fun e=>?_)]
  · exact h
  · have h1:=ha.2
    rw [e,h] at h1
    cases a.2 <;> simp at h1
theorem slice_wr (qs:List Leaf):∀ (w:World) (k:Int),(∀ a ∈ qs,Lf w a) → ∀ {p:Addr} {A:Option Addr} {n c:Nat},w.cell? p = some (.slice A n c) → (wrL w qs k).cell? p = some (.slice A n c):=by
  induction qs with
  | nil=>intro w k _ p A n c h;exact h
  | cons a t ih=>intro w k h p A n c hp;exact ih _ _ (fun x hx=>(h a (by simp)).set (h x (by simp [hx])) k) (slice_set (h a (by simp)) k hp)
/-- The leaves of a row of whole numbers. -/
def leavesI (b o n:Nat):List Leaf:=(List.range n).map fun j=>(⟨b,o + j,none⟩,false)
theorem leavesI_succ (b o n:Nat):leavesI b o (n + 1) = leavesI b o n ++ [(⟨b,o + n,none⟩,false)]:=by unfold leavesI;rw [List.range_succ,List.map_append];rfl
theorem leavesI_length (b o n:Nat):(leavesI b o n).length = n:=by simp [leavesI]
theorem leavesI_mem {b o n j:Nat} (h:j < n):((⟨b,o + j,none⟩,false):Leaf) ∈ leavesI b o n:=List.mem_map.2 ⟨j,List.mem_range.2 h,rfl⟩
structure RowI (w:World) (v:Value) (qs:List Leaf):Prop where
  lf:∀ a ∈ qs,Lf w a
  fm:∃ b o n c,qs = leavesI b o n ∧ n ≤ 4611686018427387904 ∧ ((n = 0 ∧ ∃ A,v = .slice A 0 c) ∨ v = .slice (some ⟨b,o,none⟩) n c)
theorem RowI.wr {w:World} {v:Value} {qs:List Leaf} (h:RowI w v qs) (bs:List Leaf) (k:Int) (hb:∀ a ∈ bs,Lf w a):RowI (wrL w bs k) v qs :=
  ⟨fun a ha=>Lf.wr bs w k hb (h.lf a ha),h.fm⟩
set_option maxHeartbeats 4000000 in
set_option maxRecDepth 1000000 in
theorem Try.markI_walk (v:Value) (qs:List Leaf) (k:Int) (w:World) (h:RowI w v qs) (h0:0 ≤ k) (h1:k + qs.length ≤ 4611686018427387904) :
    Calls Try.prog 26 #[v,.int .i64 k] w fun e w'=>e = .returned (.int .i64 (k + qs.length)) ∧ Aside0 (w' = wrL w qs k):=by
  obtain ⟨hlf,b,o,n,c,rfl,hn,hv⟩:=h
  rw [leavesI_length] at h1 ⊢
  obtain ⟨A,rfl,hA⟩:∃ A,v = .slice A n c ∧ (0 < n → A = some ⟨b,o,none⟩):=by
    rcases hv with ⟨rfl,A,rfl⟩|rfl
    · exact ⟨A,rfl,fun h=>by omega⟩
    · exact ⟨_,rfl,fun _=>rfl⟩
  clear hv
  go_enter Try.func26,Try.ntmps26
  go_wp2
  go_loopw [1,5] (fun v1 v5 wr=>∃ i:Nat,i ≤ n ∧ v1 = .int .i64 (k + i) ∧ v5 = .int .i64 i ∧ Hid (wr = wrL w (leavesI b o i) k)) (fun _ v5 _=>n - (intOf v5).toNat)
  case atStart=>exact ⟨0,Nat.zero_le _,by simp,rfl,rfl⟩
  case round =>
    obtain ⟨i,hi,rfl,rfl,hw⟩:=hrel
    by_cases hp:i < n
    · obtain rfl:=hA (by omega)
      have hl:Lf wr (⟨b,o + i,none⟩,false):=by
        unfold Hid at hw
        rw [hw]
        exact Lf.wr _ _ _ (fun a ha=>hlf a (by
          unfold leavesI at ha ⊢
          obtain ⟨j,hj,rfl⟩:=List.mem_map.1 ha
          exact List.mem_map.2 ⟨j,List.mem_range.2 (by have:=List.mem_range.1 hj;omega),rfl⟩)) (hlf _ (leavesI_mem hp))
      obtain ⟨x,hx⟩:=hl.2
      have hf:=hl.1.2
      have hwr2:Hid (wr.setCell ⟨b,o + i,none⟩ (.int .i64 (k + i)) = wrL w (leavesI b o (i + 1)) k):=by
        unfold Hid at hw ⊢
        rw [leavesI_succ,wrL_append,← hw,leavesI_length]
        rfl
      clear hl hw hlf
      go_wp2
      go_roundw
      case rel=>exact ⟨i + 1,by omega,by congr 1;omega,rfl,hwr2⟩
      case measure=>simp [intOf];omega
    · obtain rfl:i = n:=by omega
      go_wp2
      go_ret
      exact ⟨rfl,⟨hw⟩⟩

/-- A literal at cell o: its bool, its two rows. -/
structure LitAt (w:World) (b o:Nat) (qs:List Leaf):Prop where
  ex:∃ v1 v2 q1 q2,qs = (⟨b,o,none⟩,true) :: (q1 ++ q2) ∧ Lf w (⟨b,o,none⟩,true) ∧ w.cell? ⟨b,o + 1,none⟩ = some v1 ∧ w.cell? ⟨b,o + 2,none⟩ = some v2 ∧ RowI w v1 q1 ∧ RowI w v2 q2
theorem RowI.slice {w:World} {v:Value} {qs:List Leaf} (h:RowI w v qs):∃ A n c,v = .slice A n c:=by
  obtain ⟨_,b,o,n,c,_,_,h⟩:=h
  rcases h with ⟨_,A,h⟩|h
  · exact ⟨_,_,_,h⟩
  · exact ⟨_,_,_,h⟩
theorem LitAt.lf {w:World} {b o:Nat} {qs:List Leaf} (h:LitAt w b o qs):∀ a ∈ qs,Lf w a:=by
  obtain ⟨v1,v2,q1,q2,rfl,h0,_,_,h1,h2⟩:=h
  intro a ha
  simp only [List.mem_cons,List.mem_append] at ha
  rcases ha with rfl|ha|ha
  · exact h0
  · exact h1.lf a ha
  · exact h2.lf a ha
theorem LitAt.wr {w:World} {b o:Nat} {qs:List Leaf} (h:LitAt w b o qs) (bs:List Leaf) (k:Int) (hb:∀ a ∈ bs,Lf w a):LitAt (wrL w bs k) b o qs:=by
  obtain ⟨v1,v2,q1,q2,e,h0,c1,c2,h1,h2⟩:=h
  obtain ⟨_,_,_,rfl⟩:=h1.slice
  obtain ⟨_,_,_,rfl⟩:=h2.slice
  exact ⟨_,_,q1,q2,e,Lf.wr _ _ _ hb h0,slice_wr _ _ _ hb c1,slice_wr _ _ _ hb c2,h1.wr _ _ hb,h2.wr _ _ hb⟩
/-- A row of literals: element j's leaves are the j-th list. -/
structure RowL (w:World) (v:Value) (qq:List (List Leaf)):Prop where
  ex:∃ b o c A,v = .slice A qq.length c ∧ (0 < qq.length → A = some ⟨b,o,none⟩) ∧ ∀ j,j < qq.length → LitAt w b (o + j * 3) (qq.getD j [])
theorem flat_take_succ {α:Type} (qq:List (List α)) (j:Nat) (h:j < qq.length):(qq.take (j + 1)).flatten = (qq.take j).flatten ++ qq.getD j []:=by
  rw [List.take_add_one,List.flatten_append,List.getD_eq_getElem?_getD,List.getElem?_eq_getElem h]
  simp
theorem flat_take_le {α:Type} (qq:List (List α)) (j:Nat):(qq.take j).flatten.length ≤ qq.flatten.length:=by
  rw [← List.take_append_drop j qq,List.flatten_append,List.length_append,List.take_append_drop]
  omega
theorem flat_mem {α:Type} {qq:List (List α)} {a:α} (h:a ∈ qq.flatten):∃ j,j < qq.length ∧ a ∈ qq.getD j []:=by
  obtain ⟨l,hl,ha⟩:=List.mem_flatten.1 h
  obtain ⟨j,hj,rfl⟩:=List.mem_iff_getElem.1 hl
  exact ⟨j,hj,by rw [List.getD_eq_getElem?_getD,List.getElem?_eq_getElem hj];exact ha⟩
theorem mem_flat_take {α:Type} {qq:List (List α)} {a:α} {j:Nat} (h:a ∈ (qq.take j).flatten):a ∈ qq.flatten:=by
  obtain ⟨l,hl,ha⟩:=List.mem_flatten.1 h
  exact List.mem_flatten.2 ⟨l,List.mem_of_mem_take hl,ha⟩
theorem RowL.lf {w:World} {v:Value} {qq:List (List Leaf)} (h:RowL w v qq):∀ a ∈ qq.flatten,Lf w a:=by
  obtain ⟨b,o,c,A,_,_,h⟩:=h
  intro a ha
  obtain ⟨j,hj,hm⟩:=flat_mem ha
  exact (h j hj).lf a hm
theorem RowL.wr {w:World} {v:Value} {qq:List (List Leaf)} (h:RowL w v qq) (bs:List Leaf) (k:Int) (hb:∀ a ∈ bs,Lf w a):RowL (wrL w bs k) v qq:=by
  obtain ⟨b,o,c,A,h0,h1,h⟩:=h
  exact ⟨b,o,c,A,h0,h1,fun j hj=>(h j hj).wr _ _ hb⟩
theorem RowL.slice {w:World} {v:Value} {qq:List (List Leaf)} (h:RowL w v qq):∃ A n c,v = .slice A n c:=by
  obtain ⟨b,o,c,A,h0,_⟩:=h
  exact ⟨_,_,_,h0⟩
set_option maxHeartbeats 8000000 in
set_option maxRecDepth 1000000 in
theorem Try.markL_walk (v:Value) (qq:List (List Leaf)) (k:Int) (w:World) (h:RowL w v qq) (hn:qq.length ≤ 4611686018427387904) (h0:0 ≤ k) (T:Nat) (hT:T = qq.flatten.length) (h1:k + T ≤ 4611686018427387904) :
    Calls Try.prog 33 #[v,.int .i64 k] w fun e w'=>e = .returned (.int .i64 (k + T)) ∧ Aside0 (w' = wrL w qq.flatten k):=by
  have hlf:=Aside0.mk h.lf
  obtain ⟨b,o,c,A,rfl,hA,he⟩:=h
  have HE:=Aside0.mk he
  have HT:=Aside0.mk hT
  clear he hT
  go_enter Try.func33,Try.ntmps33
  go_wp2
  go_loopw [1,5] (fun v1 v5 wr=>∃ i m:Nat,i ≤ qq.length ∧ v1 = .int .i64 (k + m) ∧ v5 = .int .i64 i ∧ Hid (m = (qq.take i).flatten.length) ∧ Hid (wr = wrL w (qq.take i).flatten k)) (fun _ v5 _=>qq.length - (intOf v5).toNat)
  case atStart=>exact ⟨0,0,Nat.zero_le _,by simp,rfl,rfl,rfl⟩
  case round =>
    obtain ⟨i,m,hi,rfl,rfl,hm,hw⟩:=hrel
    by_cases hp:i < qq.length
    · obtain rfl:=hA (by omega)
      have hlp:∀ a ∈ (qq.take i).flatten,Lf w a:=fun a ha=>hlf.out a (mem_flat_take ha)
      have hL:LitAt wr b (o + i * 3) (qq.getD i []):=by
        unfold Hid at hw
        rw [hw]
        exact (HE.out i hp).wr _ _ hlp
      obtain ⟨v1,v2,q1,q2,eq,l0,c1,c2,r1,r2⟩:=hL
      have hq:=flat_take_succ qq i hp
      rw [eq] at hq
      have hlen:=flat_take_le qq (i + 1)
      rw [hq,List.length_append,List.length_cons,List.length_append] at hlen
      have hnew:Hid ((qq.take (i + 1)).flatten.length = m + 1 + q1.length + q2.length):=by
        unfold Hid at hm ⊢
        rw [hq,List.length_append,List.length_cons,List.length_append,hm]
        omega
      unfold Hid at hm
      rw [← hm] at hlen
      rw [← HT.out] at hlen
      obtain ⟨n1',hn1⟩:∃ x,x = q1.length:=⟨_,rfl⟩
      obtain ⟨n2',hn2⟩:∃ x,x = q2.length:=⟨_,rfl⟩
      rw [← hn1,← hn2] at hlen hnew
      have r1:=r1.wr [(⟨b,o + i * 3,none⟩,true)] (k + m) (by intro a ha;rw [List.mem_singleton] at ha;rw [ha];exact l0)
      have r2:=r2.wr [(⟨b,o + i * 3,none⟩,true)] (k + m) (by intro a ha;rw [List.mem_singleton] at ha;rw [ha];exact l0)
      obtain ⟨A1,n1,p1,rfl⟩:=r1.slice
      obtain ⟨A2,n2,p2,rfl⟩:=r2.slice
      have c1':=slice_wr [(⟨b,o + i * 3,none⟩,true)] wr (k + m) (by intro a ha;rw [List.mem_singleton] at ha;rw [ha];exact l0) c1
      have c2':=slice_wr [(⟨b,o + i * 3,none⟩,true)] wr (k + m) (by intro a ha;rw [List.mem_singleton] at ha;rw [ha];exact l0) c2
      obtain ⟨x,hx⟩:=l0.2
      have hf:=l0.1.2
      simp only [wrL,lval,if_true] at r1 r2 c1' c2'
      have hwq:Hid (wrL w (qq.take (i + 1)).flatten k = wrL (wrL (wr.setCell ⟨b,o + i * 3,none⟩ (.bool ((k + (m:Int)) % 3 == 0))) q1 (k + m + 1)) q2 (k + m + 1 + n1')):=by
        unfold Hid at hw ⊢
        rw [hq,wrL_append,← hw,← hm,wrL,wrL_append,hn1]
        rfl
      have hcall1:=Try.markI_walk (.slice A1 n1 p1) q1 (k + m + 1) _ r1 (by omega) (by omega)
      have c2'':=slice_wr q1 _ (k + m + 1) r1.lf c2'
      have hcall2:=Try.markI_walk (.slice A2 n2 p2) q2 (k + m + 1 + n1') _ (r2.wr q1 (k + m + 1) r1.lf) (by omega) (by omega)
      rw [← hn1] at hcall1
      rw [← hn2] at hcall2
      clear r1 r2 l0 hlp hw hlf eq hq hm c2' hn1 hn2
      generalize hW1:wr.setCell ⟨b,o + i * 3,none⟩ (.bool ((k + (m:Int)) % 3 == 0)) = W1 at hcall1 hcall2 c1' c2'' hwq
      go_upto_region 6 with fail
      clear hW1
      go_wp2_with (go_at_call 26;refine hcall1.mono ?_)
      first|rintro e W2 rfl hW2|rintro e W2 ⟨rfl,hW2⟩
      replace hW2:=hW2.out
      rw [← hW2] at hcall2 c2'' hwq
      clear hW2 hcall1
      go_wp2_with (go_at_call 26;refine hcall2.mono ?_)
      first|rintro e W3 rfl hW3|rintro e W3 ⟨rfl,hW3⟩
      replace hW3:=hW3.out
      have hwq:Hid (W3 = wrL w (qq.take (i + 1)).flatten k):=by
        unfold Hid at hwq ⊢
        rw [hwq,hW3]
      clear hcall2 hW3
      go_wp2
      go_roundw
      case rel=>exact ⟨i + 1,m + 1 + n1' + n2',by omega,by congr 1;omega,rfl,hnew.symm,hwq⟩
      case measure=>simp [intOf];omega
    · obtain rfl:i = qq.length:=by omega
      unfold Hid at hm
      rw [List.take_length] at hw hm
      rw [← HT.out] at hm
      subst hm
      go_wp2
      go_ret
      exact ⟨rfl,⟨hw⟩⟩
/-- A step at cell o: its rule, its two rows of numbers, its row of literals. -/
def InB (P:Nat → Prop) (qs:List Leaf):Prop:=∀ a ∈ qs,P a.1.block
theorem RowI.of_R {e:Nat} {w:World} {base:Nat} {ok:Nat → Prop} {v:Value} {xs:List Int} (h:(Kd.int .i64).R e w base ok v xs) (hn:xs.length ≤ 4611686018427387904) :
    ∃ qs,RowI w v qs ∧ qs.length = xs.length ∧ InB (fun b=>ok b ∧ base ≤ b ∧ b < w.heap.size ∧ v.ownBlock = some b) qs:=by
  rcases Nat.eq_zero_or_pos xs.length with h0|h0
  · obtain ⟨A,c,rfl⟩:=Kd.R_slice h
    exact ⟨[],⟨fun a ha=>by simp at ha,0,0,0,c,rfl,by omega,.inl ⟨rfl,A,by rw [h0]⟩⟩,by rw [h0];rfl,fun a ha=>by simp at ha⟩
  · obtain ⟨g,c,rfl,hb,hl,_⟩:=Kd.R_form h h0
    refine ⟨leavesI g 0 xs.length,⟨fun a ha=>?_,g,0,xs.length,c,rfl,hn,.inr rfl⟩,leavesI_length _ _ _,fun a ha=>?_⟩
    · obtain ⟨j,hj,rfl⟩:=List.mem_map.1 ha
      have:=Kd.R_celln (0:Int) h (j:Int) (by omega) (by have:=List.mem_range.1 hj;omega)
      rw [Int.toNat_natCast] at this
      refine ⟨⟨rfl,?_⟩,?_⟩
      · rw [Nat.zero_add];exact this.2
      · exact ⟨_,by rw [Nat.zero_add];exact this.1⟩
    · obtain ⟨j,hj,rfl⟩:=List.mem_map.1 ha
      exact ⟨h.1 _ rfl,hb,hl,rfl⟩
def lsz (x:S72):Nat:=1 + x.f1.length + x.f2.length
def ltot (l:List S72):Nat:=(l.map lsz).sum
theorem LitAt.of_M {w:World} {base:Nat} {ok:Nat → Prop} {x:S72} {c:List Value} {b o:Nat} (h:k72.M w base ok x c) (hc:∀ j u,c[j]? = some u → w.cell? ⟨b,o + j,none⟩ = some u) (hf:∀ j,w.frozen? ⟨b,o + j,none⟩ = false) (h1:x.f1.length ≤ 4611686018427387904) (h2:x.f2.length ≤ 4611686018427387904) :
    ∃ qs,LitAt w b o qs ∧ qs.length = lsz x ∧ InB (fun k=>k = b ∨ (ok k ∧ base ≤ k ∧ k < w.heap.size)) qs:=by
  obtain ⟨v1,v2,rfl,r1,r2⟩:=k72_openM h
  obtain ⟨q1,g1,e1,b1⟩:=RowI.of_R r1 h1
  obtain ⟨q2,g2,e2,b2⟩:=RowI.of_R r2 h2
  refine ⟨(⟨b,o,none⟩,true) :: (q1 ++ q2),⟨v1,v2,q1,q2,rfl,⟨⟨rfl,hf 0⟩,x.f0,hc 0 _ rfl⟩,hc 1 _ rfl,hc 2 _ rfl,g1,g2⟩,?_,?_⟩
  · rw [List.length_cons,List.length_append,e1,e2];unfold lsz;omega
  · intro a ha
    simp only [List.mem_cons,List.mem_append] at ha
    rcases ha with rfl|ha|ha
    · exact .inl rfl
    · have:=b1 a ha;exact .inr ⟨this.1,this.2.1,this.2.2.1⟩
    · have:=b2 a ha;exact .inr ⟨this.1,this.2.1,this.2.2.1⟩
/-- Lists of leaves, element by element. -/
theorem leaves_list {α:Type} (xs:List α) (P:Nat → α → List Leaf → Prop) (h:∀ j x,xs[j]? = some x → ∃ qs,P j x qs):∃ qq:List (List Leaf),qq.length = xs.length ∧ ∀ j x,xs[j]? = some x → P j x (qq.getD j []):=by
  induction xs generalizing P with
  | nil=>exact ⟨[],rfl,fun j x h=>by simp at h⟩
  | cons x t ih =>
    obtain ⟨q,hq⟩:=h 0 x rfl
    obtain ⟨qq,h1,h2⟩:=ih (fun j=>P (j + 1)) (fun j y hj=>h (j + 1) y (by simpa using hj))
    refine ⟨q :: qq,by simp [h1],fun j y hj=>?_⟩
    cases j with
    | zero =>
      have:x = y:=by simpa using hj
      subst this
      exact hq
    | succ j=>exact h2 j y (by simpa using hj)
theorem flat_sum {α:Type} (f:α → Nat) (xs:List α):∀ (qq:List (List Leaf)),qq.length = xs.length → (∀ j x,xs[j]? = some x → (qq.getD j []).length = f x) → qq.flatten.length = (xs.map f).sum:=by
  induction xs with
  | nil=>intro qq h _;rw [List.length_nil] at h;rw [List.eq_nil_of_length_eq_zero h];rfl
  | cons x t ih =>
    intro qq h hq
    cases qq with
    | nil=>simp at h
    | cons q qq =>
      rw [List.flatten_cons,List.length_append,List.map_cons,List.sum_cons,ih qq (by simpa using h) (fun j y hj=>by simpa using hq (j + 1) y (by simpa using hj))]
      have:=hq 0 x rfl
      simp at this
      omega
theorem flat_inB {α:Type} {P:Nat → Prop} (xs:List α) (qq:List (List Leaf)) (hl:qq.length = xs.length) (h:∀ j x,xs[j]? = some x → InB P (qq.getD j [])):InB P qq.flatten:=by
  intro a ha
  obtain ⟨j,hj,hm⟩:=flat_mem ha
  exact h j _ (List.getElem?_eq_getElem (by omega)) a hm
theorem RowL.of_R {e:Nat} {w:World} {base:Nat} {ok:Nat → Prop} {v:Value} {xs:List S72} (h:k72.R e w base ok v xs) (hs:∀ x ∈ xs,x.f1.length ≤ 4611686018427387904 ∧ x.f2.length ≤ 4611686018427387904) :
    ∃ qq,RowL w v qq ∧ qq.length = xs.length ∧ qq.flatten.length = ltot xs ∧ InB (fun b=>ok b ∧ base ≤ b ∧ b < w.heap.size) qq.flatten:=by
  rcases Nat.eq_zero_or_pos xs.length with h0|h0
  · obtain ⟨A,c,rfl⟩:=Kd.R_slice h
    obtain rfl:=List.eq_nil_of_length_eq_zero h0
    exact ⟨[],⟨0,0,c,A,rfl,fun h=>by simp at h,fun j hj=>by simp at hj⟩,rfl,rfl,fun a ha=>by simp at ha⟩
  · obtain ⟨g,c,rfl,hb,hl,_⟩:=Kd.R_form h h0
    obtain ⟨qq,h1,h2⟩:=leaves_list xs (fun j x qs=>LitAt w g (0 + j * 3) qs ∧ qs.length = lsz x ∧ InB (fun b=>ok b ∧ base ≤ b ∧ b < w.heap.size) qs) (fun j x hj=>by
      obtain ⟨hjl,hjx⟩:=List.getElem?_eq_some_iff.1 hj
      obtain ⟨cs,hcl,hM,hcc,hfr⟩:=Kd.R_elem h x (j:Int) (by omega) (by omega)
      rw [Int.toNat_natCast,List.getD_eq_getElem?_getD,hj] at hM
      have hsx:=hs x (by rw [← hjx];exact List.getElem_mem hjl)
      obtain ⟨qs,q1,q2,q3⟩:=LitAt.of_M (b:=g) (o:=0 + j * 3) hM (fun i u hu=>by have:=hcc i u hu;rw [Int.toNat_natCast] at this;rw [Nat.zero_add];exact this) (fun i=>by have:=hfr i;rw [Int.toNat_natCast] at this;rw [Nat.zero_add];exact this) hsx.1 hsx.2
      refine ⟨qs,q1,q2,fun a ha=>?_⟩
      rcases q3 a ha with q|q
      · show ok a.1.block ∧ _;rw [q];exact ⟨h.1 _ rfl,hb,hl⟩
      · exact ⟨q.1.1,q.2.1,q.2.2⟩)
    refine ⟨qq,⟨g,0,c,some ⟨g,0,none⟩,by rw [h1],fun _=>rfl,fun j hj=>(h2 j _ (List.getElem?_eq_getElem (by omega))).1⟩,h1,flat_sum lsz xs qq h1 (fun j x hj=>(h2 j x hj).2.1),flat_inB xs qq h1 (fun j x hj=>(h2 j x hj).2.2)⟩
theorem wrL_kept (qs:List Leaf) (P:Nat → Prop):∀ (w:World) (k:Int),InB P qs → Kept w (wrL w qs k) P:=by
  induction qs with
  | nil=>intro w k _;exact Kept.refl w P
  | cons a t ih =>
    intro w k h
    have h1:Kept w (w.setCell a.1 (lval a.2 k)) P:=⟨by simp [World.setCell],fun i _ hn=>Below.heap_setCell w a.1 _ i (fun e=>hn (by rw [e];exact h a (by simp)))⟩
    exact Kept.then_ h1 (ih _ _ (fun x hx=>h x (by simp [hx]))) (fun k hk=>.inl hk)
theorem wrL_below (qs:List Leaf) (B:Nat):∀ (w w':World) (k:Int),Below B w w' → InB (fun b=>B ≤ b) qs → Below B w (wrL w' qs k):=by
  induction qs with
  | nil=>intro w w' k h _;exact h
  | cons a t ih =>
    intro w w' k h hq
    refine ih _ _ _ (h.trans ⟨rfl,rfl,rfl,by simp [World.setCell],fun i hi=>Below.heap_setCell w' a.1 _ i (fun e=>?_)⟩) (fun x hx=>hq x (by simp [hx]))
    have:=hq a (by simp)
    omega
/-- The marks of steps of the call's own, made from base on and before top. -/
theorem Try.markLitS (v:Value) (xs:List S72) (k:Int) (ok:Nat → Prop) (w0 w:World) (hB:Below w0.heap.size w0 w) (h:k72.R 72 w w0.heap.size ok v xs) (hs:∀ x ∈ xs,x.f1.length ≤ 4611686018427387904 ∧ x.f2.length ≤ 4611686018427387904) (hn:xs.length ≤ 4611686018427387904) (h0:0 ≤ k) (h1:k + ltot xs ≤ 4611686018427387904) :
    Calls Try.prog 33 #[v,.int .i64 k] w fun e w'=>e = .returned (.int .i64 (k + ltot xs)) ∧ Aside0 (Below w0.heap.size w0 w' ∧ Kept w w' ok):=by
  obtain ⟨qq,r,rl,rt,rb⟩:=RowL.of_R h hs
  refine (Try.markL_walk v qq k w r (by omega) h0 (ltot xs) rt.symm h1).mono ?_
  rintro e w' ⟨rfl,⟨rfl⟩⟩
  exact ⟨rfl,⟨wrL_below _ _ _ _ _ hB (fun a ha=>(rb a ha).2.1),wrL_kept _ _ _ _ (fun a ha=>(rb a ha).1)⟩⟩
/-! ### Marks of a row of rows of whole numbers -/
def mkSS (k:Nat):List (List Int) → Int → Option (Int × List (List Int))
  | [],a=>some (a,[])
  | x :: t,a=>(laws_markIntS.f k x a).bind fun r=>(mkSS k t r.1).bind fun q=>some (q.1,r.2 :: q.2)
theorem mkSS_mono (k:Nat) (l:List (List Int)):∀ a,LeO (mkSS k l a) (mkSS (k + 1) l a):=by
  induction l with
  | nil=>intro a;exact LeO.refl _
  | cons x t ih=>intro a;simp only [mkSS];exact LeO.bind (laws_markIntS.mono _ _ _) (fun _=>LeO.bind (ih _) (fun _=>LeO.refl _))
theorem mkSS_len (k:Nat) (l:List (List Int)):∀ {a b:Int} {y:List (List Int)},mkSS k l a = some (b,y) → y.length = l.length:=by
  induction l with
  | nil=>intro a b y h;simp only [mkSS,Option.some.injEq,Prod.mk.injEq] at h;rw [← h.2]
  | cons x t ih =>
    intro a b y h
    simp only [mkSS] at h
    obtain ⟨r,_,h⟩:=Option.bind_eq_some_iff.1 h
    obtain ⟨q,h2,h⟩:=Option.bind_eq_some_iff.1 h
    obtain ⟨q1,q2⟩:=q
    have:=ih h2
    simp only [Option.some.injEq,Prod.mk.injEq] at h
    rw [← h.2,List.length_cons,List.length_cons,this]
theorem RowsS.toS {w:World} {base g cap:Nat} {f:Nat → Nat} {xs:List (List Int)} (h:RowsS w base g cap f xs) (ok:Nat → Prop) (hg:ok g) (hok:∀ k j,j < xs.length → f k = j → k ≠ g → ok k):Kd.S (Kd.slice 3 (Kd.int .i64)) 22 w base ok (.slice (some ⟨g,0,none⟩) xs.length cap) xs:=by
  obtain ⟨⟨cs,hc,hs⟩,hl,hr⟩:=h
  refine ⟨f,fun k hk=>?_,cs.toList.take xs.length,⟨?_,.inr ⟨g,cap,cs,by rw [List.length_zipIdx],hl.2.2,hc,by rw [List.length_zipIdx];exact hl.1,by unfold maxLen;exact hl.2.1,by show cs.size = cap * 1;omega,by rw [List.length_zipIdx];show List.take (xs.length * 1) _ = _;rw [Nat.mul_one]⟩⟩,?_,fun j p hj=>?_⟩
  · have e:g = k:=by simpa [Value.ownBlock] using hk
    subst e
    exact hg
  · rw [List.length_zipIdx,List.length_take,Array.length_toList];show min xs.length cs.size = xs.length * 1;omega
  · rw [List.length_zipIdx,List.length_take,Array.length_toList];show min xs.length cs.size = xs.length * 1;omega
  · obtain ⟨hjl,hjp⟩:=List.getElem?_eq_some_iff.1 hj
    rw [List.length_zipIdx] at hjl
    obtain ⟨v,h1,h2⟩:=hr j hjl
    have e2:xs.getD j [] = xs[j]:=by simp [List.getD_eq_getElem?_getD,hjl]
    rw [e2] at h2
    have hp:p = (xs[j],j):=by rw [← hjp];simp
    subst hp
    refine ⟨v,?_,?_⟩
    · have hcell:cs[j]? = some v:=by
        unfold World.cell? at h1
        rw [hc] at h1
        exact h1
      show ((cs.toList.take xs.length).drop (j * 1)).take 1 = [v]
      rw [Nat.mul_one,List.drop_take,List.take_take]
      have h3:cs.toList[j]? = some v:=by rw [Array.getElem?_toList];exact hcell
      obtain ⟨h4,h5⟩:=List.getElem?_eq_some_iff.1 h3
      rw [List.drop_eq_getElem_cons h4,h5,show min 1 (xs.length - j) = 1 from by omega]
      rfl
    · refine Kd.R_mono h2 (fun k hk=>⟨⟨hok k j hjl hk.1 hk.2,?_⟩,hk.1⟩)
      intro q
      have e:k = g:=by simpa [Value.ownBlock] using q
      exact hk.2 e
theorem rowsS_of_S {w:World} {base:Nat} {ok:Nat → Prop} {v:Value} {xs:List (List Int)} (h:Kd.S (Kd.slice 3 (Kd.int .i64)) 22 w base ok v xs) (hp:0 < xs.length):∃ g cap f,v = .slice (some ⟨g,0,none⟩) xs.length cap ∧ RowsS w base g cap f xs ∧ ok g ∧ ∀ k j,j < xs.length → f k = j → k ≠ g → ok k:=by
  classical
  obtain ⟨f,h0,inner,ho,hr⟩:=h
  rw [List.length_zipIdx] at ho
  have ho1:=ho
  rcases ho.2 with ⟨_,hz⟩|⟨g,cap,cur,rfl,hb,hg,h1,h2,h3,h4⟩
  · omega
  refine ⟨g,cap,fun k=>if ok k then f k else xs.length,rfl,⟨⟨cur,hg,by have:cur.size = cap * 1:=h3;omega⟩,⟨h1,by unfold maxLen at h2;exact h2,hb⟩,fun j hj=>?_⟩,h0 g (by rfl),fun k j hj hk _=>?_⟩
  · obtain ⟨v,hv,hR⟩:=hr.2 j (xs[j],j) (by rw [List.getElem?_zipIdx,List.getElem?_eq_getElem hj];simp)
    have e2:xs.getD j [] = xs[j]:=by simp [List.getD_eq_getElem?_getD,hj]
    refine ⟨v,?_,?_⟩
    · have hcell:inner[j]? = some v:=by
        have h5:((inner.drop (j * 1)).take 1).head? = some v:=congrArg List.head? hv
        rw [Nat.mul_one,List.head?_take,if_neg (by omega),List.head?_drop] at h5
        exact h5
      have:=ho1.cells (g:=g) (by rfl) j v hcell
      rw [add_plain] at this
      exact this
    · rw [e2]
      exact Kd.R_mono hR (fun k hk=>⟨by rw [if_pos hk.1.1];exact hk.2,fun q=>hk.1.2 (by rw [q];rfl)⟩)
  · by_cases hq:ok k
    · exact hq
    · simp only [if_neg hq] at hk
      omega
theorem RowsS.marked {w w':World} {base g cap:Nat} {f:Nat → Nat} {xs:List (List Int)} (h:RowsS w base g cap f xs) (i:Nat) (hi:i < xs.length) {v:Value} {y:List Int} (hv:w.cell? ⟨g,i,none⟩ = some v) (hR:(Kd.int .i64).R 3 w' base (fun k=>f k = i ∧ k ≠ g) v y) (hk:Kept w w' (fun k=>f k = i ∧ k ≠ g)):RowsS w' base g cap f (xs.set i y):=by
  have hlt:=h.lt
  obtain ⟨⟨cs,hc,hs⟩,hl,hr⟩:=h
  have hg:w'.heap[g]? = w.heap[g]?:=hk.2 g hlt (fun q=>q.2 rfl)
  have hcell:∀ j,w'.cell? ⟨g,j,none⟩ = w.cell? ⟨g,j,none⟩:=fun j=>by unfold World.cell?;rw [hg]
  refine ⟨⟨cs,hg.trans hc,hs⟩,by rw [List.length_set];exact hl,fun j hj=>?_⟩
  rw [List.length_set] at hj
  by_cases e:j = i
  · subst e
    refine ⟨v,(hcell j).trans hv,?_⟩
    have e2:(xs.set j y).getD j [] = y:=by simp [List.getD_eq_getElem?_getD,hj]
    rw [e2]
    exact hR
  · obtain ⟨u,h1,h2⟩:=hr j hj
    refine ⟨u,(hcell j).trans h1,?_⟩
    have e2:(xs.set i y).getD j [] = xs.getD j []:=by rw [List.getD_eq_getElem?_getD,List.getD_eq_getElem?_getD,List.getElem?_set_ne (fun q=>e q.symm)]
    rw [e2]
    exact Kd.R_step h2 (fun k ho hlt=>hk.2 k hlt (fun q=>e (ho.1.symm.trans q.1)))
set_option maxHeartbeats 8000000 in
set_option maxRecDepth 1000000 in
theorem Try.markIntSS (k:Nat) (ok:Nat → Prop) (v:Value) (xs ys:List (List Int)) (a b:Int) (w0 w:World) (hB:Below w0.heap.size w0 w) (h:Kd.S (Kd.slice 3 (Kd.int .i64)) 22 w w0.heap.size ok v xs) (hm:mkSS k xs a = some (b,ys)) :
    Calls Try.prog 34 #[v,.int .i64 a] w fun e w'=>e = .returned (.int .i64 b) ∧ Aside0 (Kd.S (Kd.slice 3 (Kd.int .i64)) 22 w' w0.heap.size ok v ys ∧ Below w0.heap.size w0 w' ∧ Kept w w' ok):=by
  rcases Nat.eq_zero_or_pos xs.length with h0|h0
  · obtain rfl:=List.eq_nil_of_length_eq_zero h0
    simp only [mkSS,Option.some.injEq,Prod.mk.injEq] at hm
    obtain ⟨rfl,rfl⟩:=hm
    have H:=Aside0.mk h
    have HB:=Aside0.mk hB
    obtain ⟨A,c,rfl⟩:=Kd.S_slice h
    clear h hB
    obtain ⟨W0,hW0⟩:∃ W,W = w:=⟨_,rfl⟩
    rw [← hW0] at H HB ⊢
    rw [List.length_nil] at H ⊢
    clear hW0
    go_enter Try.func34,Try.ntmps34
    go_wp2
    go_loopw [1,5] (fun v1 v5 wr=>v1 = .int .i64 a ∧ v5 = .int .i64 0 ∧ Hid (wr = W0)) (fun _ _ _=>0)
    case atStart=>exact ⟨rfl,rfl,rfl⟩
    case round =>
      obtain ⟨rfl,rfl,hw⟩:=hrel
      unfold Hid at hw
      subst hw
      go_wp2
      go_ret
      exact ⟨rfl,⟨H.out,HB.out,Kept.refl _ _⟩⟩
  · obtain ⟨g,cap,f,rfl,hrs,hokg,hokr⟩:=rowsS_of_S h h0
    have hn:=hrs.le
    have HR:=Aside0.mk hrs
    have HM:=Aside0.mk hm
    have HB:=Aside0.mk hB
    have HG:=Aside0.mk hokg
    have HO:=Aside0.mk hokr
    have hxl:xs.length ≤ 9223372036854775807:=by omega
    have hyl:=Aside0.mk (mkSS_len k xs hm)
    clear h hrs hokg hokr hm hn hB
    have HK:=Aside0.mk (Kept.refl w ok)
    go_enter Try.func34,Try.ntmps34
    go_wp2
    go_loopw [1,5] (fun v1 v5 wr=>∃ (i:Nat) (a':Int) (pre post:List (List Int)),i ≤ xs.length ∧ v1 = .int .i64 a' ∧ v5 = .int .i64 i ∧ Hid (pre.length = i) ∧ Hid (pre ++ post = ys) ∧ Hid (mkSS k (xs.drop i) a' = some (b,post)) ∧ Hid (RowsS wr w0.heap.size g cap f (pre ++ xs.drop i)) ∧ Hid (Below w0.heap.size w0 wr) ∧ Hid (Kept w wr ok)) (fun _ v5 _=>xs.length - (intOf v5).toNat)
    case atStart=>exact ⟨0,a,[],ys,Nat.zero_le _,rfl,rfl,rfl,rfl,HM.out,HR.out,HB.out,HK.out⟩
    case round =>
      clear HM HR HB HK
      obtain ⟨i,a',pre,post,hi,rfl,rfl,hpl,hys,hmm,hR,hB,hK⟩:=hrel
      unfold Hid at hpl hys hmm hR hB hK
      by_cases hp:i < xs.length
      · rw [List.drop_eq_getElem_cons hp] at hmm hR
        simp only [mkSS] at hmm
        obtain ⟨⟨a2,y⟩,hmk,hmm⟩:=Option.bind_eq_some_iff.1 hmm
        obtain ⟨⟨b2,post2⟩,hm2,hmm⟩:=Option.bind_eq_some_iff.1 hmm
        simp only [Option.some.injEq,Prod.mk.injEq] at hmm
        obtain ⟨rfl,rfl⟩:=hmm
        have hlen:i < (pre ++ xs[i] :: xs.drop (i + 1)).length:=by rw [List.length_append,List.length_cons];omega
        obtain ⟨v,hv,hRv⟩:=hR.rd i hlen
        have e1:(pre ++ xs[i] :: xs.drop (i + 1)).getD i [] = xs[i]:=by rw [List.getD_eq_getElem?_getD,List.getElem?_append_right (by omega),hpl];simp [hp]
        rw [e1] at hRv
        have hcall:=laws_markIntS.calls k (fun k=>f k = i ∧ k ≠ g) v xs[i] a' a2 y w0 wr hB hRv hmk
        have HRV:=Aside0.mk hRv
        have HR:=Aside0.mk hR
        have HV:=Aside0.mk hv
        have HK:=Aside0.mk hK
        have HM2:=Aside0.mk hm2
        have HYS:=Aside0.mk hys
        have HPL:=Aside0.mk hpl
        obtain ⟨AV,cV,rfl⟩:=Kd.R_slice hRv
        have HPS:Aside0 (∀ (W:World) (y:List Int),RowsS W w0.heap.size g cap f ((pre ++ xs[i] :: xs.drop (i + 1)).set i y) → RowsS W w0.heap.size g cap f ((pre ++ [y]) ++ xs.drop (i + 1))):=⟨fun W y h=>by
          have e:(pre ++ xs[i] :: xs.drop (i + 1)).set i y = (pre ++ [y]) ++ xs.drop (i + 1):=by
            rw [List.set_append_right _ _ (by omega),hpl,Nat.sub_self,List.set_cons_zero,List.append_assoc];rfl
          rwa [e] at h⟩
        have HLEN:=Aside0.mk hlen
        clear hmk hm2 hys hpl hR hB hK hRv e1 hlen
        generalize xs[i] = x at hcall HRV HR hv HV HPS HLEN
        go_wp2_with (go_at_call 26;refine hcall.mono ?_)
        first|rintro e W1 rfl hr hb hkp|rintro e W1 ⟨rfl,hr,hb,hkp⟩
        have hnew:=HPS.out _ _ (HR.out.marked i HLEN.out HV.out (Kd.R_reok rfl hr (fun k_ e_=>HRV.out.1 k_ e_)) hkp)
        have HR:=Aside0.mk hnew
        have HB:=Aside0.mk hb
        have HK:=Aside0.mk (Kept.then_ HK.out hkp (fun k_ hk_=>.inl (HO.out k_ i hp hk_.1 hk_.2)))
        clear hr hb hkp hcall hnew HPS hv
        go_wp2
        go_roundw
        case rel=>exact ⟨i + 1,a2,pre ++ [y],post2,by omega,rfl,rfl,by have:=HPL.out;unfold Hid;rw [List.length_append,List.length_singleton];omega,by have:=HYS.out;unfold Hid;rw [List.append_assoc];exact this,HM2.out,HR.out,HB.out,HK.out⟩
        case measure=>simp [intOf];omega
      · obtain rfl:i = xs.length:=by omega
        rw [List.drop_length] at hmm hR
        simp only [mkSS,Option.some.injEq,Prod.mk.injEq] at hmm
        obtain ⟨rfl,rfl⟩:=hmm
        rw [List.append_nil] at hR hys
        subst hys
        have HR:=Aside0.mk hR
        have HB:=Aside0.mk hB
        have HK:=Aside0.mk hK
        have HPL:=Aside0.mk hpl
        clear hR hB hK hpl
        go_wp2
        go_ret
        refine ⟨rfl,⟨?_,HB.out,HK.out⟩⟩
        have:=HR.out.toS ok HG.out (fun k_ j hj hk_ hne=>HO.out k_ j (by have:=HPL.out;omega) hk_ hne)
        rw [HPL.out] at this
        exact this
theorem ivS_of {α:Type} {d:Kd α} {e:Nat} {W W':World} {v:Value} {xs:List α} (B:Nat) (h:Kd.S d e W' W.heap.size (fun _=>True) v xs) (hb:B ≤ W.heap.size):Kd.S d e W' B (Iv W.heap.size W'.heap.size) v xs :=
  Kd.S_lower (Kd.S_mono (Kd.S_bound h) (fun _ hk=>⟨hk.2.1,hk.2.2.1⟩)) hb
theorem ivS_step {α:Type} {d:Kd α} {e B lo hi:Nat} {W W':World} {v:Value} {xs:List α} {P:Nat → Prop} (h:Kd.S d e W B (Iv lo hi) v xs) (hk:Kept W W' P) (hn:∀ b,lo ≤ b → b < hi → ¬ P b):Kd.S d e W' B (Iv lo hi) v xs :=
  Kd.S_step h (fun k ho hlt=>hk.2 k hlt (hn k ho.1 ho.2))
theorem ivS_below {α:Type} {d:Kd α} {e B lo hi:Nat} {W W':World} {v:Value} {xs:List α} (h:Kd.S d e W B (Iv lo hi) v xs) (hb:Below W.heap.size W W'):Kd.S d e W' B (Iv lo hi) v xs:=Kd.S_below h hb
def okMarkL (x:S72):Prop:=x.f1.length ≤ 4611686018427387904 ∧ x.f2.length ≤ 4611686018427387904
structure laws_FnExactSubsumes.Main (k:Nat) (l0_0:List Int) (l1:List (S70)) (l2:List (S70)) (m1:List S72) (m2:List S72) (r0:List (List Int)) (r1:Bool) (k0:Int) (k1:Int) (k2:Int) (y0:List Int) (mm:Int) (rr:List (List Int)):Prop where
  h0:laws_toSign.f k l0_0 = some l0_0
  h1:laws_toLitS.f k l1 = some m1
  h2:laws_toLitS.f k l2 = some m2
  h3:spec_Subsumes.f k l0_0 m1 m2 = some (r0,r1)
  h4:impl_Subsumes.f k l0_0 m1 m2 = some (r0,r1)
  h5:laws_eqIntSS.f k r0 r0 = some true
  h6:laws_eqSign.f k l0_0 l0_0 = some true
  h7:laws_eqLitS.f k m1 m1 = some true
  h8:laws_eqLitS.f k m2 m2 = some true
  h9:0 ≤ k0
  h10:laws_markSign.f k l0_0 1 = some (k0,y0)
  h11:0 ≤ k1
  h12:(0 ≤ (k0:Int) ∧ k1 = k0 + ltot m1 ∧ k1 ≤ 4611686018427387904) ∧ (∀ x ∈ m1,okMarkL x) ∧ m1.length ≤ 4611686018427387904
  h13:0 ≤ k2
  h14:(0 ≤ (k1:Int) ∧ k2 = k1 + ltot m2 ∧ k2 ≤ 4611686018427387904) ∧ (∀ x ∈ m2,okMarkL x) ∧ m2.length ≤ 4611686018427387904
  h15:mkSS k r0 1 = some (mm,rr)
  h16:laws_heldIntSS.f k rr 1 = some mm
  h17:0 ≤ mm
def laws_FnExactSubsumes.Facts (k:Nat) (l0_0:List Int) (l1:List (S70)) (l2:List (S70)):Prop:=∃ z0:Int,laws_szSign.f l0_0 1048576 = some z0 ∧ (z0 < 0 ∨ (0 ≤ z0 ∧ ∃ z1:Int,laws_szLitS.f k l1 z0 = some z1 ∧ (z1 < 0 ∨ (0 ≤ z1 ∧ ∃ z2:Int,laws_szLitS.f k l2 z1 = some z2 ∧ (z2 < 0 ∨ (0 ≤ z2 ∧ ∃ (m1:List S72) (m2:List S72) (r0:List (List Int)) (r1:Bool) (k0:Int) (k1:Int) (k2:Int) (y0:List Int) (mm:Int) (rr:List (List Int)),laws_FnExactSubsumes.Main k l0_0 l1 l2 m1 m2 r0 r1 k0 k1 k2 y0 mm rr))))))
open Classical in
noncomputable def laws_FnExactSubsumes.f (k:Nat) (l0_0:List Int) (l1:List (S70)) (l2:List (S70)):Option Bool:=if laws_FnExactSubsumes.Facts k l0_0 l1 l2 then some true else none
theorem laws_FnExactSubsumes.f_of {k:Nat} {l0_0:List Int} {l1:List (S70)} {l2:List (S70)} (h:laws_FnExactSubsumes.Facts k l0_0 l1 l2):laws_FnExactSubsumes.f k l0_0 l1 l2 = some true:=by unfold laws_FnExactSubsumes.f;rw [if_pos h]
theorem laws_FnExactSubsumes.of_f {k:Nat} {l0_0:List Int} {l1:List (S70)} {l2:List (S70)} {r:Bool} (h:laws_FnExactSubsumes.f k l0_0 l1 l2 = some r):r = true ∧ laws_FnExactSubsumes.Facts k l0_0 l1 l2:=by
  unfold laws_FnExactSubsumes.f at h
  split at h
  · rename_i g;exact ⟨(Option.some.inj h).symm,g⟩
  · cases h
set_option maxHeartbeats 64000000 in
set_option maxRecDepth 1000000 in
theorem laws_FnExactSubsumes.calls (k:Nat) (A0_0:Option Addr) (c0_0:Nat) (l0_0:List Int) (A1:Option Addr) (c1:Nat) (l1:List (S70)) (A2:Option Addr) (c2:Nat) (l2:List (S70)) (r:Bool) (w:World) (hr0_0:Kd.C (Kd.int .i64) w A0_0 l0_0.length l0_0) (hc0_0:l0_0.length ≤ c0_0) (hr1:Kd.C k70 w A1 l1.length l1) (hc1:l1.length ≤ c1) (hr2:Kd.C k70 w A2 l2.length l2) (hc2:l2.length ≤ c2) (h:laws_FnExactSubsumes.f k l0_0 l1 l2 = some r) :
    Calls Try.prog 6 #[.agg #[.slice A0_0 l0_0.length c0_0],.slice A1 l1.length c1,.slice A2 l2.length c2] w fun e w'=>e = .returned (.bool r) ∧ Below w.heap.size w w':=by
  have hR0:=Aside0.mk hr0_0
  have hR1:=Aside0.mk hr1
  have hR2:=Aside0.mk hr2
  clear hr0_0 hr1 hr2
  obtain ⟨rfl,hF⟩:=laws_FnExactSubsumes.of_f h
  unfold laws_FnExactSubsumes.Facts at hF
  clear h
  have bx0:Aside0 (Bx (w.alloc (.cells #[.slice A0_0 l0_0.length c0_0] 24)) w.heap.size (.slice A0_0 l0_0.length c0_0) 24):=⟨heap_alloc_new w _⟩
  have hw0:=Aside0.mk bx0.out.lt
  have hB:Aside0 (Below w.heap.size w (w.alloc (.cells #[.slice A0_0 l0_0.length c0_0] 24))):=⟨Below.alloc (Below.refl _ _) (Nat.le_refl _) _⟩
  go_enter Try.func6,Try.ntmps6
  go_upto_region 1 with fail
  generalize w.alloc (.cells #[.slice A0_0 l0_0.length c0_0] 24) = W0 at bx0 hB hw0 ⊢
  try clear bx0_c
  have bx0_c:=Bx.cell bx0.out
  obtain ⟨z0,hz,hF⟩:=hF
  have hzz:=Aside0.mk hz
  clear hz
  have hcall:=laws_szSign.calls A0_0 c0_0 l0_0 1048576 z0 W0 (Kd.C_below hR0.out hB.out) hc0_0 hzz.out
  go_wp2_with (go_at_call 9;refine hcall.mono ?_)
  first|rintro e W1 rfl hd|rintro e W1 ⟨rfl,hd⟩
  replace hd:Below W0.heap.size W0 W1:=by first|exact hd|exact hd.below
  clear hcall
  replace bx0:=Aside0.mk (Bx.below bx0.out hd)
  replace hB:=Aside0.mk (below_step hB.out hd)
  have hz1:=Aside0.mk hd.size
  try clear bx0_c
  have bx0_c:=Bx.cell bx0.out
  clear hd
  clear hzz
  rcases hF with hE|⟨hE,hF⟩
  · go_wp2
    go_ret
    exact ⟨rfl,hB.out⟩
  obtain ⟨z1,hz,hF⟩:=hF
  have hzz:=Aside0.mk hz
  clear hz
  have hcall:=laws_szLitS.calls k A1 c1 l1 z0 z1 W1 (Kd.C_below hR1.out hB.out) hc1 hzz.out
  go_wp2_with (go_at_call 10;refine hcall.mono ?_)
  first|rintro e W2 rfl hd|rintro e W2 ⟨rfl,hd⟩
  replace hd:Below W1.heap.size W1 W2:=by first|exact hd|exact hd.below
  clear hcall
  replace bx0:=Aside0.mk (Bx.below bx0.out hd)
  replace hB:=Aside0.mk (below_step hB.out hd)
  have hz2:=Aside0.mk hd.size
  try clear bx0_c
  have bx0_c:=Bx.cell bx0.out
  clear hd
  clear hzz
  rcases hF with hE|⟨hE,hF⟩
  · go_wp2
    go_ret
    exact ⟨rfl,hB.out⟩
  obtain ⟨z2,hz,hF⟩:=hF
  have hzz:=Aside0.mk hz
  clear hz
  have hcall:=laws_szLitS.calls k A2 c2 l2 z1 z2 W2 (Kd.C_below hR2.out hB.out) hc2 hzz.out
  go_wp2_with (go_at_call 10;refine hcall.mono ?_)
  first|rintro e W3 rfl hd|rintro e W3 ⟨rfl,hd⟩
  replace hd:Below W2.heap.size W2 W3:=by first|exact hd|exact hd.below
  clear hcall
  replace bx0:=Aside0.mk (Bx.below bx0.out hd)
  replace hB:=Aside0.mk (below_step hB.out hd)
  have hz3:=Aside0.mk hd.size
  try clear bx0_c
  have bx0_c:=Bx.cell bx0.out
  clear hd
  clear hzz
  rcases hF with hE|⟨hE,hF⟩
  · go_wp2
    go_ret
    exact ⟨rfl,hB.out⟩
  obtain ⟨m1,m2,r0,r1,k0,k1,k2,y0,mm,rr,hM⟩:=hF
  have H:=Aside0.mk hM
  clear hM
  have hcall:=laws_toSign.calls k A0_0 c0_0 l0_0 l0_0 W3 (Kd.C_below hR0.out hB.out) hc0_0 H.out.h0
  go_wp2_with (go_at_call 12;refine hcall.mono ?_)
  first|rintro e W4 v rfl hr hd|rintro e W4 ⟨v,rfl,hr,hd⟩
  have hS:=Aside0.mk hB.out.size
  clear hcall
  replace bx0:=Aside0.mk (Bx.below bx0.out hd)
  replace hB:=Aside0.mk (below_step hB.out hd)
  have hz4:=Aside0.mk hd.size
  try clear bx0_c
  have bx0_c:=Bx.cell bx0.out
  have q1:=Aside0.mk (iv_of (W:=W3) w.heap.size (by first|exact hr|exact Kd.S_R hr) hS.out)
  obtain ⟨Aq1,cq1,eq1⟩:=Kd.R_slice q1.out
  subst eq1
  clear hr hd hS
  have hcall:=laws_toLitS.calls k A1 c1 l1 m1 W4 (Kd.C_below hR1.out hB.out) hc1 H.out.h1
  go_wp2_with (go_at_call 13;refine hcall.mono ?_)
  first|rintro e W5 v rfl hr hd|rintro e W5 ⟨v,rfl,hr,hd⟩
  have hS:=Aside0.mk hB.out.size
  clear hcall
  replace q1:=Aside0.mk (iv_below q1.out hd)
  replace bx0:=Aside0.mk (Bx.below bx0.out hd)
  replace hB:=Aside0.mk (below_step hB.out hd)
  have hz5:=Aside0.mk hd.size
  try clear bx0_c
  have bx0_c:=Bx.cell bx0.out
  have q2:=Aside0.mk (iv_of (W:=W4) w.heap.size (by first|exact hr|exact Kd.S_R hr) hS.out)
  obtain ⟨Aq2,cq2,eq2⟩:=Kd.R_slice q2.out
  subst eq2
  clear hr hd hS
  have hcall:=laws_toLitS.calls k A2 c2 l2 m2 W5 (Kd.C_below hR2.out hB.out) hc2 H.out.h2
  go_wp2_with (go_at_call 13;refine hcall.mono ?_)
  first|rintro e W6 v rfl hr hd|rintro e W6 ⟨v,rfl,hr,hd⟩
  have hS:=Aside0.mk hB.out.size
  clear hcall
  replace q1:=Aside0.mk (iv_below q1.out hd)
  replace q2:=Aside0.mk (iv_below q2.out hd)
  replace bx0:=Aside0.mk (Bx.below bx0.out hd)
  replace hB:=Aside0.mk (below_step hB.out hd)
  have hz6:=Aside0.mk hd.size
  try clear bx0_c
  have bx0_c:=Bx.cell bx0.out
  have q3:=Aside0.mk (iv_of (W:=W5) w.heap.size (by first|exact hr|exact Kd.S_R hr) hS.out)
  obtain ⟨Aq3,cq3,eq3⟩:=Kd.R_slice q3.out
  subst eq3
  clear hr hd hS
  have hcall:=spec_Subsumes.calls k Aq1 cq1 l0_0 Aq2 cq2 m1 Aq3 cq3 m2 r0 r1 W6 (Kd.R_reads' q1.out).2.2 (Kd.R_reads' q1.out).2.1 (Kd.R_reads' q2.out).2.2 (Kd.R_reads' q2.out).2.1 (Kd.R_reads' q3.out).2.2 (Kd.R_reads' q3.out).2.1 H.out.h3
  go_wp2_with (go_at_call 30;refine hcall.mono ?_)
  first|rintro e W7 v rfl hr hd|rintro e W7 ⟨v,rfl,hr,hd⟩
  have hS:=Aside0.mk hB.out.size
  clear hcall
  replace q1:=Aside0.mk (iv_below q1.out hd)
  replace q2:=Aside0.mk (iv_below q2.out hd)
  replace q3:=Aside0.mk (iv_below q3.out hd)
  replace bx0:=Aside0.mk (Bx.below bx0.out hd)
  replace hB:=Aside0.mk (below_step hB.out hd)
  have hz7:=Aside0.mk hd.size
  try clear bx0_c
  have bx0_c:=Bx.cell bx0.out
  have q4:=Aside0.mk (ivS_of (W:=W6) w.heap.size (by first|exact hr|exact Kd.S_R hr) hS.out)
  obtain ⟨Aq4,cq4,eq4⟩:=Kd.S_slice q4.out
  subst eq4
  clear hr hd hS
  clear q1
  clear q2
  clear q3
  have hcall:=laws_toSign.calls k A0_0 c0_0 l0_0 l0_0 W7 (Kd.C_below hR0.out hB.out) hc0_0 H.out.h0
  go_wp2_with (go_at_call 12;refine hcall.mono ?_)
  first|rintro e W8 v rfl hr hd|rintro e W8 ⟨v,rfl,hr,hd⟩
  have hS:=Aside0.mk hB.out.size
  clear hcall
  replace q4:=Aside0.mk (ivS_below q4.out hd)
  replace bx0:=Aside0.mk (Bx.below bx0.out hd)
  replace hB:=Aside0.mk (below_step hB.out hd)
  have hz8:=Aside0.mk hd.size
  try clear bx0_c
  have bx0_c:=Bx.cell bx0.out
  have q5:=Aside0.mk (iv_of (W:=W7) w.heap.size (by first|exact hr|exact Kd.S_R hr) hS.out)
  obtain ⟨Aq5,cq5,eq5⟩:=Kd.R_slice q5.out
  subst eq5
  clear hr hd hS
  go_upto_region 13 with fail
  have hd:Below W8.heap.size W8 (W8.alloc (.cells #[.slice Aq5 l0_0.length cq5] 30)):=Below.alloc (Below.refl _ _) (Nat.le_refl _) _
  have bx1:Aside0 (Bx (W8.alloc (.cells #[.slice Aq5 l0_0.length cq5] 30)) W8.heap.size (.slice Aq5 l0_0.length cq5) 30):=⟨heap_alloc_new W8 _⟩
  generalize (W8.alloc (.cells #[.slice Aq5 l0_0.length cq5] 30)) = W9 at bx1 hd ⊢
  replace q4:=Aside0.mk (ivS_below q4.out hd)
  replace q5:=Aside0.mk (iv_below q5.out hd)
  replace bx0:=Aside0.mk (Bx.below bx0.out hd)
  replace hB:=Aside0.mk (below_step hB.out hd)
  have hz9:=Aside0.mk hd.size
  try clear bx0_c
  have bx0_c:=Bx.cell bx0.out
  clear hd
  try clear bx0_c
  have bx0_c:=Bx.cell bx0.out
  try clear bx1_c
  have bx1_c:=Bx.cell bx1.out
  have hcall:=laws_toLitS.calls k A1 c1 l1 m1 W9 (Kd.C_below hR1.out hB.out) hc1 H.out.h1
  go_wp2_with (go_at_call 13;refine hcall.mono ?_)
  first|rintro e W10 v rfl hr hd|rintro e W10 ⟨v,rfl,hr,hd⟩
  have hS:=Aside0.mk hB.out.size
  clear hcall
  replace q4:=Aside0.mk (ivS_below q4.out hd)
  replace q5:=Aside0.mk (iv_below q5.out hd)
  replace bx0:=Aside0.mk (Bx.below bx0.out hd)
  replace bx1:=Aside0.mk (Bx.below bx1.out hd)
  replace hB:=Aside0.mk (below_step hB.out hd)
  have hz10:=Aside0.mk hd.size
  try clear bx0_c
  have bx0_c:=Bx.cell bx0.out
  try clear bx1_c
  have bx1_c:=Bx.cell bx1.out
  have q6:=Aside0.mk (iv_of (W:=W9) w.heap.size (by first|exact hr|exact Kd.S_R hr) hS.out)
  obtain ⟨Aq6,cq6,eq6⟩:=Kd.R_slice q6.out
  subst eq6
  clear hr hd hS
  have hcall:=laws_toLitS.calls k A2 c2 l2 m2 W10 (Kd.C_below hR2.out hB.out) hc2 H.out.h2
  go_wp2_with (go_at_call 13;refine hcall.mono ?_)
  first|rintro e W11 v rfl hr hd|rintro e W11 ⟨v,rfl,hr,hd⟩
  have hS:=Aside0.mk hB.out.size
  clear hcall
  replace q4:=Aside0.mk (ivS_below q4.out hd)
  replace q5:=Aside0.mk (iv_below q5.out hd)
  replace q6:=Aside0.mk (iv_below q6.out hd)
  replace bx0:=Aside0.mk (Bx.below bx0.out hd)
  replace bx1:=Aside0.mk (Bx.below bx1.out hd)
  replace hB:=Aside0.mk (below_step hB.out hd)
  have hz11:=Aside0.mk hd.size
  try clear bx0_c
  have bx0_c:=Bx.cell bx0.out
  try clear bx1_c
  have bx1_c:=Bx.cell bx1.out
  have q7:=Aside0.mk (iv_of (W:=W10) w.heap.size (by first|exact hr|exact Kd.S_R hr) hS.out)
  obtain ⟨Aq7,cq7,eq7⟩:=Kd.R_slice q7.out
  subst eq7
  clear hr hd hS
  have hcall:=impl_Subsumes.calls k Aq5 cq5 l0_0 Aq6 cq6 m1 Aq7 cq7 m2 r0 r1 W11 (Kd.R_reads' q5.out).2.2 (Kd.R_reads' q5.out).2.1 (Kd.R_reads' q6.out).2.2 (Kd.R_reads' q6.out).2.1 (Kd.R_reads' q7.out).2.2 (Kd.R_reads' q7.out).2.1 H.out.h4
  go_wp2_with (go_at_call 31;refine hcall.mono ?_)
  first|rintro e W12 v rfl hr hd|rintro e W12 ⟨v,rfl,hr,hd⟩
  have hS:=Aside0.mk hB.out.size
  clear hcall
  replace q4:=Aside0.mk (ivS_below q4.out hd)
  replace q5:=Aside0.mk (iv_below q5.out hd)
  replace q6:=Aside0.mk (iv_below q6.out hd)
  replace q7:=Aside0.mk (iv_below q7.out hd)
  replace bx0:=Aside0.mk (Bx.below bx0.out hd)
  replace bx1:=Aside0.mk (Bx.below bx1.out hd)
  replace hB:=Aside0.mk (below_step hB.out hd)
  have hz12:=Aside0.mk hd.size
  try clear bx0_c
  have bx0_c:=Bx.cell bx0.out
  try clear bx1_c
  have bx1_c:=Bx.cell bx1.out
  have q8:=Aside0.mk (ivS_of (W:=W11) w.heap.size (by first|exact hr|exact Kd.S_R hr) hS.out)
  obtain ⟨Aq8,cq8,eq8⟩:=Kd.S_slice q8.out
  subst eq8
  clear hr hd hS
  have hcall:=laws_eqIntSS.calls k Aq8 cq8 r0 Aq4 cq4 r0 true W12 (Kd.S_reads' q8.out).2.2 (Kd.S_reads' q8.out).2.1 (Kd.S_reads' q4.out).2.2 (Kd.S_reads' q4.out).2.1 H.out.h5
  go_wp2_with (go_at_call 32;refine hcall.mono ?_)
  first|rintro e W13 rfl hd|rintro e W13 ⟨rfl,hd⟩
  replace hd:Below W12.heap.size W12 W13:=by first|exact hd|exact hd.below
  clear hcall
  replace q4:=Aside0.mk (ivS_below q4.out hd)
  replace q5:=Aside0.mk (iv_below q5.out hd)
  replace q6:=Aside0.mk (iv_below q6.out hd)
  replace q7:=Aside0.mk (iv_below q7.out hd)
  replace q8:=Aside0.mk (ivS_below q8.out hd)
  replace bx0:=Aside0.mk (Bx.below bx0.out hd)
  replace bx1:=Aside0.mk (Bx.below bx1.out hd)
  replace hB:=Aside0.mk (below_step hB.out hd)
  have hz13:=Aside0.mk hd.size
  try clear bx0_c
  have bx0_c:=Bx.cell bx0.out
  try clear bx1_c
  have bx1_c:=Bx.cell bx1.out
  clear hd
  go_upto_region 18 with fail
  have hsgn:∀ W,Drawn0 W13 W → Calls Try.prog 12 #[.agg #[.slice A0_0 l0_0.length c0_0]] W fun e w'=>∃ A c,e = .returned (.agg #[.slice A l0_0.length c]) ∧ Aside0 (SgRow W13 w' A c l0_0):=fun W hW=>(laws_toSign.calls k A0_0 c0_0 l0_0 l0_0 W (Kd.C_below hR0.out (below_step hB.out hW.below)) hc0_0 H.out.h0).mono fun e w' ⟨v,he,hr,hd⟩=>by
    obtain ⟨A,c,rfl⟩:=Kd.R_slice hr
    exact ⟨A,c,he,⟨⟨below_step hW.below hd,(Kd.R_reads' hr).2.2,(Kd.R_reads' hr).2.1⟩⟩⟩
  have heqs:∀ W A c,Aside0 (SgRow W13 W A c l0_0) → Calls Try.prog 15 #[.agg #[.slice Aq5 l0_0.length cq5],.agg #[.slice A l0_0.length c]] W fun e w'=>e = .returned (.bool true) ∧ Aside0 (Below W13.heap.size W13 w'):=fun W A c h=>(laws_eqSign.calls k Aq5 cq5 l0_0 A c l0_0 true W (Kd.C_below (Kd.R_reads' q5.out).2.2 h.out.bl) (Kd.R_reads' q5.out).2.1 h.out.rd h.out.le H.out.h6).mono fun e w' ⟨he,hd⟩=>⟨he,⟨below_step h.out.bl hd⟩⟩
  apply later
  · intro key
    go_region_with (first|(go_at_call 12;refine (hsgn _ (by first|exact Drawn0.refl _|exact ⟨⟨1,rfl⟩⟩|exact ⟨⟨2,rfl⟩⟩)).mono ?_;rintro e w' ⟨A,c,rfl,hf⟩;have hcx:=Bx.cell (Bx.below bx1.out hf.out.bl))|(go_at_call 15;refine (heqs _ _ _ (by first|exact hf|exact ⟨hf.out.drew⟩|exact ⟨hf.out.drewN _⟩)).mono ?_;rintro e W ⟨rfl,he⟩))
    all_goals (clear hf hcx;revert A c W;exact key)
  intro A c W14 he
  have hd:=he.out
  clear he hsgn heqs
  replace q4:=Aside0.mk (ivS_below q4.out hd)
  replace q5:=Aside0.mk (iv_below q5.out hd)
  replace q6:=Aside0.mk (iv_below q6.out hd)
  replace q7:=Aside0.mk (iv_below q7.out hd)
  replace q8:=Aside0.mk (ivS_below q8.out hd)
  replace bx0:=Aside0.mk (Bx.below bx0.out hd)
  replace bx1:=Aside0.mk (Bx.below bx1.out hd)
  replace hB:=Aside0.mk (below_step hB.out hd)
  have hz14:=Aside0.mk hd.size
  try clear bx0_c
  have bx0_c:=Bx.cell bx0.out
  try clear bx1_c
  have bx1_c:=Bx.cell bx1.out
  clear hd
  have hcall:=laws_toLitS.calls k A1 c1 l1 m1 W14 (Kd.C_below hR1.out hB.out) hc1 H.out.h1
  go_wp2_with (go_at_call 13;refine hcall.mono ?_)
  first|rintro e W15 v rfl hr hd|rintro e W15 ⟨v,rfl,hr,hd⟩
  have hS:=Aside0.mk hB.out.size
  clear hcall
  replace q4:=Aside0.mk (ivS_below q4.out hd)
  replace q5:=Aside0.mk (iv_below q5.out hd)
  replace q6:=Aside0.mk (iv_below q6.out hd)
  replace q7:=Aside0.mk (iv_below q7.out hd)
  replace q8:=Aside0.mk (ivS_below q8.out hd)
  replace bx0:=Aside0.mk (Bx.below bx0.out hd)
  replace bx1:=Aside0.mk (Bx.below bx1.out hd)
  replace hB:=Aside0.mk (below_step hB.out hd)
  have hz15:=Aside0.mk hd.size
  try clear bx0_c
  have bx0_c:=Bx.cell bx0.out
  try clear bx1_c
  have bx1_c:=Bx.cell bx1.out
  have q9:=Aside0.mk (iv_of (W:=W14) w.heap.size (by first|exact hr|exact Kd.S_R hr) hS.out)
  obtain ⟨Aq9,cq9,eq9⟩:=Kd.R_slice q9.out
  subst eq9
  clear hr hd hS
  have hcall:=laws_eqLitS.calls k Aq6 cq6 m1 Aq9 cq9 m1 true W15 (Kd.R_reads' q6.out).2.2 (Kd.R_reads' q6.out).2.1 (Kd.R_reads' q9.out).2.2 (Kd.R_reads' q9.out).2.1 H.out.h7
  go_wp2_with (go_at_call 16;refine hcall.mono ?_)
  first|rintro e W16 rfl hd|rintro e W16 ⟨rfl,hd⟩
  replace hd:Below W15.heap.size W15 W16:=by first|exact hd|exact hd.below
  clear hcall
  replace q4:=Aside0.mk (ivS_below q4.out hd)
  replace q5:=Aside0.mk (iv_below q5.out hd)
  replace q6:=Aside0.mk (iv_below q6.out hd)
  replace q7:=Aside0.mk (iv_below q7.out hd)
  replace q8:=Aside0.mk (ivS_below q8.out hd)
  replace q9:=Aside0.mk (iv_below q9.out hd)
  replace bx0:=Aside0.mk (Bx.below bx0.out hd)
  replace bx1:=Aside0.mk (Bx.below bx1.out hd)
  replace hB:=Aside0.mk (below_step hB.out hd)
  have hz16:=Aside0.mk hd.size
  try clear bx0_c
  have bx0_c:=Bx.cell bx0.out
  try clear bx1_c
  have bx1_c:=Bx.cell bx1.out
  clear hd
  clear q9
  have hcall:=laws_toLitS.calls k A2 c2 l2 m2 W16 (Kd.C_below hR2.out hB.out) hc2 H.out.h2
  go_wp2_with (go_at_call 13;refine hcall.mono ?_)
  first|rintro e W17 v rfl hr hd|rintro e W17 ⟨v,rfl,hr,hd⟩
  have hS:=Aside0.mk hB.out.size
  clear hcall
  replace q4:=Aside0.mk (ivS_below q4.out hd)
  replace q5:=Aside0.mk (iv_below q5.out hd)
  replace q6:=Aside0.mk (iv_below q6.out hd)
  replace q7:=Aside0.mk (iv_below q7.out hd)
  replace q8:=Aside0.mk (ivS_below q8.out hd)
  replace bx0:=Aside0.mk (Bx.below bx0.out hd)
  replace bx1:=Aside0.mk (Bx.below bx1.out hd)
  replace hB:=Aside0.mk (below_step hB.out hd)
  have hz17:=Aside0.mk hd.size
  try clear bx0_c
  have bx0_c:=Bx.cell bx0.out
  try clear bx1_c
  have bx1_c:=Bx.cell bx1.out
  have q10:=Aside0.mk (iv_of (W:=W16) w.heap.size (by first|exact hr|exact Kd.S_R hr) hS.out)
  obtain ⟨Aq10,cq10,eq10⟩:=Kd.R_slice q10.out
  subst eq10
  clear hr hd hS
  have hcall:=laws_eqLitS.calls k Aq7 cq7 m2 Aq10 cq10 m2 true W17 (Kd.R_reads' q7.out).2.2 (Kd.R_reads' q7.out).2.1 (Kd.R_reads' q10.out).2.2 (Kd.R_reads' q10.out).2.1 H.out.h8
  go_wp2_with (go_at_call 16;refine hcall.mono ?_)
  first|rintro e W18 rfl hd|rintro e W18 ⟨rfl,hd⟩
  replace hd:Below W17.heap.size W17 W18:=by first|exact hd|exact hd.below
  clear hcall
  replace q4:=Aside0.mk (ivS_below q4.out hd)
  replace q5:=Aside0.mk (iv_below q5.out hd)
  replace q6:=Aside0.mk (iv_below q6.out hd)
  replace q7:=Aside0.mk (iv_below q7.out hd)
  replace q8:=Aside0.mk (ivS_below q8.out hd)
  replace q10:=Aside0.mk (iv_below q10.out hd)
  replace bx0:=Aside0.mk (Bx.below bx0.out hd)
  replace bx1:=Aside0.mk (Bx.below bx1.out hd)
  replace hB:=Aside0.mk (below_step hB.out hd)
  have hz18:=Aside0.mk hd.size
  try clear bx0_c
  have bx0_c:=Bx.cell bx0.out
  try clear bx1_c
  have bx1_c:=Bx.cell bx1.out
  clear hd
  clear q10
  have hpos0:=H.out.h9
  have hcall:=laws_markSign.calls k (Iv W7.heap.size W8.heap.size) (.slice Aq5 l0_0.length cq5) l0_0 1 k0 y0 w W18 hB.out q5.out H.out.h10
  go_wp2_with (go_at_call 24;refine hcall.mono ?_)
  first|rintro e W19 rfl hr hb hkp|rintro e W19 ⟨rfl,hr,hb,hkp⟩
  have hz19:=Aside0.mk hkp.1
  replace q4:=Aside0.mk (ivS_step q4.out hkp (fun b_ h1_ h2_ h3_=>by have:=h3_.1;have:=h3_.2;have:=hw0.out;have:=hz1.out;have:=hz2.out;have:=hz3.out;have:=hz4.out;have:=hz5.out;have:=hz6.out;have:=hz7.out;have:=hz8.out;have:=hz9.out;have:=hz10.out;have:=hz11.out;have:=hz12.out;have:=hz13.out;have:=hz14.out;have:=hz15.out;have:=hz16.out;have:=hz17.out;have:=hz18.out;omega))
  replace q6:=Aside0.mk (iv_step q6.out hkp (fun b_ h1_ h2_ h3_=>by have:=h3_.1;have:=h3_.2;have:=hw0.out;have:=hz1.out;have:=hz2.out;have:=hz3.out;have:=hz4.out;have:=hz5.out;have:=hz6.out;have:=hz7.out;have:=hz8.out;have:=hz9.out;have:=hz10.out;have:=hz11.out;have:=hz12.out;have:=hz13.out;have:=hz14.out;have:=hz15.out;have:=hz16.out;have:=hz17.out;have:=hz18.out;omega))
  replace q7:=Aside0.mk (iv_step q7.out hkp (fun b_ h1_ h2_ h3_=>by have:=h3_.1;have:=h3_.2;have:=hw0.out;have:=hz1.out;have:=hz2.out;have:=hz3.out;have:=hz4.out;have:=hz5.out;have:=hz6.out;have:=hz7.out;have:=hz8.out;have:=hz9.out;have:=hz10.out;have:=hz11.out;have:=hz12.out;have:=hz13.out;have:=hz14.out;have:=hz15.out;have:=hz16.out;have:=hz17.out;have:=hz18.out;omega))
  replace q8:=Aside0.mk (ivS_step q8.out hkp (fun b_ h1_ h2_ h3_=>by have:=h3_.1;have:=h3_.2;have:=hw0.out;have:=hz1.out;have:=hz2.out;have:=hz3.out;have:=hz4.out;have:=hz5.out;have:=hz6.out;have:=hz7.out;have:=hz8.out;have:=hz9.out;have:=hz10.out;have:=hz11.out;have:=hz12.out;have:=hz13.out;have:=hz14.out;have:=hz15.out;have:=hz16.out;have:=hz17.out;have:=hz18.out;omega))
  replace bx0:=Aside0.mk (Bx.step bx0.out hkp (fun h3_=>by have:=h3_.1;have:=h3_.2;have:=hw0.out;have:=hz1.out;have:=hz2.out;have:=hz3.out;have:=hz4.out;have:=hz5.out;have:=hz6.out;have:=hz7.out;have:=hz8.out;have:=hz9.out;have:=hz10.out;have:=hz11.out;have:=hz12.out;have:=hz13.out;have:=hz14.out;have:=hz15.out;have:=hz16.out;have:=hz17.out;have:=hz18.out;omega))
  replace hB:=Aside0.mk hb
  clear hr hb hkp hcall bx1 bx1_c
  clear q5
  try clear bx0_c
  have bx0_c:=Bx.cell bx0.out
  have hcall:=Try.markLitS (.slice Aq6 m1.length cq6) m1 k0 (Iv W9.heap.size W10.heap.size) w W19 hB.out q6.out H.out.h12.2.1 H.out.h12.2.2 H.out.h12.1.1 (H.out.h12.1.2.1 ▸ H.out.h12.1.2.2)
  rw [← H.out.h12.1.2.1] at hcall
  have hpos1:=H.out.h11
  go_wp2_with (go_at_call 33;refine hcall.mono ?_)
  first|rintro e W20 rfl hk|rintro e W20 ⟨rfl,hk⟩
  obtain ⟨hb,hkp⟩:=hk.out
  have hz20:=Aside0.mk hkp.1
  replace q4:=Aside0.mk (ivS_step q4.out hkp (fun b_ h1_ h2_ h3_=>by have:=h3_.1;have:=h3_.2;have:=hw0.out;have:=hz1.out;have:=hz2.out;have:=hz3.out;have:=hz4.out;have:=hz5.out;have:=hz6.out;have:=hz7.out;have:=hz8.out;have:=hz9.out;have:=hz10.out;have:=hz11.out;have:=hz12.out;have:=hz13.out;have:=hz14.out;have:=hz15.out;have:=hz16.out;have:=hz17.out;have:=hz18.out;have:=hz19.out;omega))
  replace q7:=Aside0.mk (iv_step q7.out hkp (fun b_ h1_ h2_ h3_=>by have:=h3_.1;have:=h3_.2;have:=hw0.out;have:=hz1.out;have:=hz2.out;have:=hz3.out;have:=hz4.out;have:=hz5.out;have:=hz6.out;have:=hz7.out;have:=hz8.out;have:=hz9.out;have:=hz10.out;have:=hz11.out;have:=hz12.out;have:=hz13.out;have:=hz14.out;have:=hz15.out;have:=hz16.out;have:=hz17.out;have:=hz18.out;have:=hz19.out;omega))
  replace q8:=Aside0.mk (ivS_step q8.out hkp (fun b_ h1_ h2_ h3_=>by have:=h3_.1;have:=h3_.2;have:=hw0.out;have:=hz1.out;have:=hz2.out;have:=hz3.out;have:=hz4.out;have:=hz5.out;have:=hz6.out;have:=hz7.out;have:=hz8.out;have:=hz9.out;have:=hz10.out;have:=hz11.out;have:=hz12.out;have:=hz13.out;have:=hz14.out;have:=hz15.out;have:=hz16.out;have:=hz17.out;have:=hz18.out;have:=hz19.out;omega))
  replace bx0:=Aside0.mk (Bx.step bx0.out hkp (fun h3_=>by have:=h3_.1;have:=h3_.2;have:=hw0.out;have:=hz1.out;have:=hz2.out;have:=hz3.out;have:=hz4.out;have:=hz5.out;have:=hz6.out;have:=hz7.out;have:=hz8.out;have:=hz9.out;have:=hz10.out;have:=hz11.out;have:=hz12.out;have:=hz13.out;have:=hz14.out;have:=hz15.out;have:=hz16.out;have:=hz17.out;have:=hz18.out;have:=hz19.out;omega))
  replace hB:=Aside0.mk hb
  clear hk hb hkp hcall
  clear q6
  try clear bx0_c
  have bx0_c:=Bx.cell bx0.out
  have hcall:=Try.markLitS (.slice Aq7 m2.length cq7) m2 k1 (Iv W10.heap.size W11.heap.size) w W20 hB.out q7.out H.out.h14.2.1 H.out.h14.2.2 H.out.h14.1.1 (H.out.h14.1.2.1 ▸ H.out.h14.1.2.2)
  rw [← H.out.h14.1.2.1] at hcall
  have hpos2:=H.out.h13
  go_wp2_with (go_at_call 33;refine hcall.mono ?_)
  first|rintro e W21 rfl hk|rintro e W21 ⟨rfl,hk⟩
  obtain ⟨hb,hkp⟩:=hk.out
  have hz21:=Aside0.mk hkp.1
  replace q4:=Aside0.mk (ivS_step q4.out hkp (fun b_ h1_ h2_ h3_=>by have:=h3_.1;have:=h3_.2;have:=hw0.out;have:=hz1.out;have:=hz2.out;have:=hz3.out;have:=hz4.out;have:=hz5.out;have:=hz6.out;have:=hz7.out;have:=hz8.out;have:=hz9.out;have:=hz10.out;have:=hz11.out;have:=hz12.out;have:=hz13.out;have:=hz14.out;have:=hz15.out;have:=hz16.out;have:=hz17.out;have:=hz18.out;have:=hz19.out;have:=hz20.out;omega))
  replace q8:=Aside0.mk (ivS_step q8.out hkp (fun b_ h1_ h2_ h3_=>by have:=h3_.1;have:=h3_.2;have:=hw0.out;have:=hz1.out;have:=hz2.out;have:=hz3.out;have:=hz4.out;have:=hz5.out;have:=hz6.out;have:=hz7.out;have:=hz8.out;have:=hz9.out;have:=hz10.out;have:=hz11.out;have:=hz12.out;have:=hz13.out;have:=hz14.out;have:=hz15.out;have:=hz16.out;have:=hz17.out;have:=hz18.out;have:=hz19.out;have:=hz20.out;omega))
  replace bx0:=Aside0.mk (Bx.step bx0.out hkp (fun h3_=>by have:=h3_.1;have:=h3_.2;have:=hw0.out;have:=hz1.out;have:=hz2.out;have:=hz3.out;have:=hz4.out;have:=hz5.out;have:=hz6.out;have:=hz7.out;have:=hz8.out;have:=hz9.out;have:=hz10.out;have:=hz11.out;have:=hz12.out;have:=hz13.out;have:=hz14.out;have:=hz15.out;have:=hz16.out;have:=hz17.out;have:=hz18.out;have:=hz19.out;have:=hz20.out;omega))
  replace hB:=Aside0.mk hb
  clear hk hb hkp hcall
  clear q7
  try clear bx0_c
  have bx0_c:=Bx.cell bx0.out
  have hcall:=laws_eqIntSS.calls k Aq8 cq8 r0 Aq4 cq4 r0 true W21 (Kd.S_reads' q8.out).2.2 (Kd.S_reads' q8.out).2.1 (Kd.S_reads' q4.out).2.2 (Kd.S_reads' q4.out).2.1 H.out.h5
  go_wp2_with (go_at_call 32;refine hcall.mono ?_)
  first|rintro e W22 rfl hd|rintro e W22 ⟨rfl,hd⟩
  replace hd:Below W21.heap.size W21 W22:=by first|exact hd|exact hd.below
  clear hcall
  replace q4:=Aside0.mk (ivS_below q4.out hd)
  replace q8:=Aside0.mk (ivS_below q8.out hd)
  replace bx0:=Aside0.mk (Bx.below bx0.out hd)
  replace hB:=Aside0.mk (below_step hB.out hd)
  have hz22:=Aside0.mk hd.size
  try clear bx0_c
  have bx0_c:=Bx.cell bx0.out
  clear hd
  have hcall:=Try.markIntSS k (Iv W11.heap.size W12.heap.size) (.slice Aq8 r0.length cq8) r0 rr 1 mm w W22 hB.out q8.out H.out.h15
  go_wp2_with (go_at_call 34;refine hcall.mono ?_)
  first|rintro e W23 rfl hk|rintro e W23 ⟨rfl,hk⟩
  obtain ⟨hnew,hb,hkp⟩:=hk.out
  have hz23:=Aside0.mk hkp.1
  replace q4:=Aside0.mk (ivS_step q4.out hkp (fun b_ h1_ h2_ h3_=>by have:=h3_.1;have:=h3_.2;have:=hw0.out;have:=hz1.out;have:=hz2.out;have:=hz3.out;have:=hz4.out;have:=hz5.out;have:=hz6.out;have:=hz7.out;have:=hz8.out;have:=hz9.out;have:=hz10.out;have:=hz11.out;have:=hz12.out;have:=hz13.out;have:=hz14.out;have:=hz15.out;have:=hz16.out;have:=hz17.out;have:=hz18.out;have:=hz19.out;have:=hz20.out;have:=hz21.out;have:=hz22.out;omega))
  replace bx0:=Aside0.mk (Bx.step bx0.out hkp (fun h3_=>by have:=h3_.1;have:=h3_.2;have:=hw0.out;have:=hz1.out;have:=hz2.out;have:=hz3.out;have:=hz4.out;have:=hz5.out;have:=hz6.out;have:=hz7.out;have:=hz8.out;have:=hz9.out;have:=hz10.out;have:=hz11.out;have:=hz12.out;have:=hz13.out;have:=hz14.out;have:=hz15.out;have:=hz16.out;have:=hz17.out;have:=hz18.out;have:=hz19.out;have:=hz20.out;have:=hz21.out;have:=hz22.out;omega))
  replace hB:=Aside0.mk hb
  have hle:=Aside0.mk (Kd.S_reads' hnew).1
  replace q8:=Aside0.mk hnew
  clear hk hnew hb hkp hcall
  try clear bx0_c
  have bx0_c:=Bx.cell bx0.out
  have hposm:=H.out.h17
  have hcall:=laws_heldIntSS.calls k Aq8 cq8 rr 1 mm W23 (hle.out ▸ (Kd.S_reads' q8.out).2.2) (hle.out ▸ (Kd.S_reads' q8.out).2.1) H.out.h16
  rw [← hle.out] at hcall
  go_wp2_with (go_at_call 35;refine hcall.mono ?_)
  first|rintro e W24 rfl hd|rintro e W24 ⟨rfl,hd⟩
  replace hd:Below W23.heap.size W23 W24:=by first|exact hd|exact hd.below
  clear hcall
  replace q4:=Aside0.mk (ivS_below q4.out hd)
  replace q8:=Aside0.mk (ivS_below q8.out hd)
  replace bx0:=Aside0.mk (Bx.below bx0.out hd)
  replace hB:=Aside0.mk (below_step hB.out hd)
  have hz24:=Aside0.mk hd.size
  try clear bx0_c
  have bx0_c:=Bx.cell bx0.out
  clear hd
  have hcall:=laws_toSign.calls k A0_0 c0_0 l0_0 l0_0 W24 (Kd.C_below hR0.out hB.out) hc0_0 H.out.h0
  go_wp2_with (go_at_call 12;refine hcall.mono ?_)
  first|rintro e W25 v rfl hr hd|rintro e W25 ⟨v,rfl,hr,hd⟩
  have hS:=Aside0.mk hB.out.size
  clear hcall
  replace q4:=Aside0.mk (ivS_below q4.out hd)
  replace q8:=Aside0.mk (ivS_below q8.out hd)
  replace bx0:=Aside0.mk (Bx.below bx0.out hd)
  replace hB:=Aside0.mk (below_step hB.out hd)
  have hz25:=Aside0.mk hd.size
  try clear bx0_c
  have bx0_c:=Bx.cell bx0.out
  have q11:=Aside0.mk (iv_of (W:=W24) w.heap.size (by first|exact hr|exact Kd.S_R hr) hS.out)
  obtain ⟨Aq11,cq11,eq11⟩:=Kd.R_slice q11.out
  subst eq11
  clear hr hd hS
  have hcall:=laws_toLitS.calls k A1 c1 l1 m1 W25 (Kd.C_below hR1.out hB.out) hc1 H.out.h1
  go_wp2_with (go_at_call 13;refine hcall.mono ?_)
  first|rintro e W26 v rfl hr hd|rintro e W26 ⟨v,rfl,hr,hd⟩
  have hS:=Aside0.mk hB.out.size
  clear hcall
  replace q4:=Aside0.mk (ivS_below q4.out hd)
  replace q8:=Aside0.mk (ivS_below q8.out hd)
  replace q11:=Aside0.mk (iv_below q11.out hd)
  replace bx0:=Aside0.mk (Bx.below bx0.out hd)
  replace hB:=Aside0.mk (below_step hB.out hd)
  have hz26:=Aside0.mk hd.size
  try clear bx0_c
  have bx0_c:=Bx.cell bx0.out
  have q12:=Aside0.mk (iv_of (W:=W25) w.heap.size (by first|exact hr|exact Kd.S_R hr) hS.out)
  obtain ⟨Aq12,cq12,eq12⟩:=Kd.R_slice q12.out
  subst eq12
  clear hr hd hS
  have hcall:=laws_toLitS.calls k A2 c2 l2 m2 W26 (Kd.C_below hR2.out hB.out) hc2 H.out.h2
  go_wp2_with (go_at_call 13;refine hcall.mono ?_)
  first|rintro e W27 v rfl hr hd|rintro e W27 ⟨v,rfl,hr,hd⟩
  have hS:=Aside0.mk hB.out.size
  clear hcall
  replace q4:=Aside0.mk (ivS_below q4.out hd)
  replace q8:=Aside0.mk (ivS_below q8.out hd)
  replace q11:=Aside0.mk (iv_below q11.out hd)
  replace q12:=Aside0.mk (iv_below q12.out hd)
  replace bx0:=Aside0.mk (Bx.below bx0.out hd)
  replace hB:=Aside0.mk (below_step hB.out hd)
  have hz27:=Aside0.mk hd.size
  try clear bx0_c
  have bx0_c:=Bx.cell bx0.out
  have q13:=Aside0.mk (iv_of (W:=W26) w.heap.size (by first|exact hr|exact Kd.S_R hr) hS.out)
  obtain ⟨Aq13,cq13,eq13⟩:=Kd.R_slice q13.out
  subst eq13
  clear hr hd hS
  have hcall:=impl_Subsumes.calls k Aq11 cq11 l0_0 Aq12 cq12 m1 Aq13 cq13 m2 r0 r1 W27 (Kd.R_reads' q11.out).2.2 (Kd.R_reads' q11.out).2.1 (Kd.R_reads' q12.out).2.2 (Kd.R_reads' q12.out).2.1 (Kd.R_reads' q13.out).2.2 (Kd.R_reads' q13.out).2.1 H.out.h4
  go_wp2_with (go_at_call 31;refine hcall.mono ?_)
  first|rintro e W28 v rfl hr hd|rintro e W28 ⟨v,rfl,hr,hd⟩
  have hS:=Aside0.mk hB.out.size
  clear hcall
  replace q4:=Aside0.mk (ivS_below q4.out hd)
  replace q8:=Aside0.mk (ivS_below q8.out hd)
  replace q11:=Aside0.mk (iv_below q11.out hd)
  replace q12:=Aside0.mk (iv_below q12.out hd)
  replace q13:=Aside0.mk (iv_below q13.out hd)
  replace bx0:=Aside0.mk (Bx.below bx0.out hd)
  replace hB:=Aside0.mk (below_step hB.out hd)
  have hz28:=Aside0.mk hd.size
  try clear bx0_c
  have bx0_c:=Bx.cell bx0.out
  have q14:=Aside0.mk (ivS_of (W:=W27) w.heap.size (by first|exact hr|exact Kd.S_R hr) hS.out)
  obtain ⟨Aq14,cq14,eq14⟩:=Kd.S_slice q14.out
  subst eq14
  clear hr hd hS
  clear q11
  clear q12
  clear q13
  have hcall:=laws_eqIntSS.calls k Aq14 cq14 r0 Aq4 cq4 r0 true W28 (Kd.S_reads' q14.out).2.2 (Kd.S_reads' q14.out).2.1 (Kd.S_reads' q4.out).2.2 (Kd.S_reads' q4.out).2.1 H.out.h5
  go_wp2_with (go_at_call 32;refine hcall.mono ?_)
  first|rintro e W29 rfl hd|rintro e W29 ⟨rfl,hd⟩
  replace hd:Below W28.heap.size W28 W29:=by first|exact hd|exact hd.below
  clear hcall
  replace q4:=Aside0.mk (ivS_below q4.out hd)
  replace q8:=Aside0.mk (ivS_below q8.out hd)
  replace q14:=Aside0.mk (ivS_below q14.out hd)
  replace bx0:=Aside0.mk (Bx.below bx0.out hd)
  replace hB:=Aside0.mk (below_step hB.out hd)
  have hz29:=Aside0.mk hd.size
  try clear bx0_c
  have bx0_c:=Bx.cell bx0.out
  clear hd
  clear q14
  clear q4
  have hcall:=laws_heldIntSS.calls k Aq8 cq8 rr 1 mm W29 (hle.out ▸ (Kd.S_reads' q8.out).2.2) (hle.out ▸ (Kd.S_reads' q8.out).2.1) H.out.h16
  rw [← hle.out] at hcall
  go_wp2_with (go_at_call 35;refine hcall.mono ?_)
  first|rintro e W30 rfl hd|rintro e W30 ⟨rfl,hd⟩
  replace hd:Below W29.heap.size W29 W30:=by first|exact hd|exact hd.below
  clear hcall
  replace q8:=Aside0.mk (ivS_below q8.out hd)
  replace bx0:=Aside0.mk (Bx.below bx0.out hd)
  replace hB:=Aside0.mk (below_step hB.out hd)
  have hz30:=Aside0.mk hd.size
  try clear bx0_c
  have bx0_c:=Bx.cell bx0.out
  clear hd
  go_wp2
  go_ret
  exact ⟨rfl,hB.out⟩
/-- THE ONE PURE STATEMENT of laws_FnExactSubsumes. -/
def laws_FnExactSubsumes.Pure:Prop:=∀ (l0_0:List Int) (l1:List (S70)) (l2:List (S70)),(l0_0.length ≤ maxLen ∧ ∀ a ∈ l0_0,(Lit.int .i64 a).wf = true) → (l1.length ≤ maxLen ∧ ∀ a ∈ l1,(True ∧ (a.f1.length ≤ maxLen ∧ ∀ b ∈ a.f1,(Lit.int .i64 b).wf = true) ∧ (a.f2.length ≤ maxLen ∧ ∀ b ∈ a.f2,(Lit.int .i64 b).wf = true))) → (l2.length ≤ maxLen ∧ ∀ a ∈ l2,(True ∧ (a.f1.length ≤ maxLen ∧ ∀ b ∈ a.f1,(Lit.int .i64 b).wf = true) ∧ (a.f2.length ≤ maxLen ∧ ∀ b ∈ a.f2,(Lit.int .i64 b).wf = true))) → ∃ k,laws_FnExactSubsumes.f k l0_0 l1 l2 = some true

end Go.Proofs.Ytlgnanbnicmdaaa.QFnExactSubsumes
