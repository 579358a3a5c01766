
import Derived.Test.YtmgkflkfoccgkaaQFnTidiedx22
namespace Go.Proofs.Ytmgkflkfoccgkaa.Pure
open Go.RowKit Go.Proofs.Ytmgkflkfoccgkaa.QFnTidied Go.Proofs.YtmgkflkfoccgkaaW.PrintWords Go.Proofs.YtmgkflkfoccgkaaW.PrintLast Go.Proofs.YtmgkflkfoccgkaaW.PrintMore
set_option linter.unusedVariables false
set_option linter.unusedSimpArgs false
theorem w64 {x:Int} (h0:-9223372036854775808≤x)(h1:x≤9223372036854775807):wrap64 x=x:=by
 unfold wrap64;omega
theorem Ev.succ {α:Type} {g:Nat→Option α} {r:α} (h:Ev (fun k=>g (k+1)) r):Ev g r:=Ev.step (fun _=>rfl) h
theorem Ev.pos {α:Type} {c:Prop} [Decidable c] {a b:Nat→Option α} {r:α} (h:c)(e:Ev (fun k=>a k) r):Ev (fun k=>if c then a k else b k) r:=Ev.congr (fun _=>if_pos h) e
theorem Ev.neg {α:Type} {c:Prop} [Decidable c] {a b:Nat→Option α} {r:α} (h:¬ c)(e:Ev (fun k=>b k) r):Ev (fun k=>if c then a k else b k) r:=Ev.congr (fun _=>if_neg h) e
theorem Ev.bnd {α β:Type} {g:Nat→Option α} {f:Nat→α→Option β} {a:α} {r:β} (h:Ev (fun k=>g k) a)(k:Ev (fun n=>f n a) r):Ev (fun n=>(g n).bind (fun x=>f n x)) r:=Ev.bind h k
theorem Ev.bnd1 {α β:Type} {g:Option α} {f:Nat→α→Option β} {a:α} {r:β} (h:g=some a)(k:Ev (fun n=>f n a) r):Ev (fun n=>g.bind (fun x=>f n x)) r:=by
 rw[h];exact k
theorem Ev.ret {α:Type} (r:α):Ev (fun _=>some r) r:=Ev.now r
theorem Ev.eq {α:Type} {g:Nat→Option α} {r r':α} (h:Ev g r)(e:r=r'):Ev g r':=e ▸ h
theorem Ev.all {α:Type} {g:Nat→Option α} {r:α} (h:Ev (fun k=>g k) r):∃ k,g k=some r:=h.rounds
theorem rd_mid (pre:List Int)(x:Int)(post:List Int):rd (pre++x :: post) (pre.length:Int)=x:=by
 unfold rd;simp
theorem rd_nat (xs:List Int)(i:Nat)(h:i<xs.length):rd xs (i:Int)=xs[i]:=by
 unfold rd;simp[List.getD_eq_getElem?_getD,List.getElem?_eq_getElem h]
theorem spec_in_eq (a lo hi:Int):spec_l1In.f a lo hi=some (decide (lo≤a∧a≤hi)):=by
 unfold spec_l1In.f
 by_cases h1:a≥lo
 ·rw[if_pos h1]
  by_cases h2:a≤hi
  ·rw[decide_eq_true h2,decide_eq_true ⟨h1,h2⟩]
  ·rw[decide_eq_false h2,decide_eq_false (fun h=>h2 h.2)]
 ·rw[if_neg h1,decide_eq_false (fun h=>h1 h.1)]
def inAll (lo hi:Int)(l:List Int):Bool:=l.all fun x=>decide (lo≤x∧x≤hi)
theorem spec_l1All_l0 (lo hi:Int)(post:List Int):∀ pre:List Int,(pre++post).length≤140737488351232→Ev (fun k=>spec_l1All.l0 k lo hi (pre++post) ((pre++post).length:Int) (pre.length:Int)) (inAll lo hi post):=by
 induction post with
 | nil=>
  intro pre hl
  refine Ev.succ ?_
  simp only[spec_l1All.l0]
  exact Ev.neg (by simp) (Ev.ret _)
 | cons x post ih=>
  intro pre hl
  have h:=ih (pre++[x]) (by simpa using hl)
  simp only[List.length_append,List.length_cons]at hl
  refine Ev.succ ?_
  simp only[spec_l1All.l0]
  refine Ev.pos (by simp only[List.length_append,List.length_cons];omega) (Ev.pos (by omega) (Ev.pos (by simp only[List.length_append,List.length_cons];omega) ?_))
  rw[rd_mid]
  refine Ev.bnd1 (spec_in_eq _ _ _) ?_
  by_cases hx:lo≤x∧x≤hi
  ·rw[decide_eq_true hx]
   refine Ev.pos rfl ?_
   rw[w64 (by omega) (by omega)]
   refine Ev.eq (by simpa using h) ?_
   simp[inAll,hx]
  ·rw[decide_eq_false hx]
   exact Ev.neg (by simp) (Ev.eq (Ev.ret _) (by simp only[inAll,List.all_cons,decide_eq_false hx,Bool.false_and]))
theorem spec_l1All_ev (lo hi:Int)(l:List Int)(hl:l.length≤140737488351232):Ev (fun k=>spec_l1All.f k l lo hi) (inAll lo hi l):=by
 simp only[spec_l1All.f]
 simpa using spec_l1All_l0 lo hi l [] (by simpa using hl)
theorem inAll_mem {lo hi:Int} {l:List Int} (h:inAll lo hi l=true):∀ x∈l,lo≤x∧x≤hi:=by
 intro x hx
 unfold inAll at h
 simpa using List.all_eq_true.1 h x hx
theorem anyO_not {α:Type} (f:α→Option Bool)(p:α→Bool)(l:List α)(h:∀ x∈l,f x=some (!p x)):anyO f l=some (!l.all p):=by
 induction l with
 | nil=>rfl
 | cons x t ih=>
  simp only[anyO]
  rw[h x (by simp),Option.bind_some]
  cases hp:p x with
  | true=>simp[hp,ih (fun y hy=>h y (by simp[hy]))]
  | false=>simp[hp]
def goodSign (s:List Int):Bool:=decide (1≤s.length∧s.length≤10) && (inAll 0 3 s && (rd s 0 == 0))
theorem goodSign_len {s:List Int} (h:goodSign s=true):1≤s.length∧s.length≤10:=by
 unfold goodSign at h
 simp only[Bool.and_eq_true,decide_eq_true_eq]at h
 exact h.1
theorem goodSign_mem {s:List Int} (h:goodSign s=true):∀ x∈s,0≤x∧x≤3:=by
 unfold goodSign at h
 simp only[Bool.and_eq_true]at h
 exact inAll_mem h.2.1
theorem goodSign_rd {s:List Int} (h:goodSign s=true)(x:Int)(h0:0≤x)(h1:x<s.length):0≤rd s x∧rd s x≤3:=by
 obtain⟨n,rfl⟩:∃ n:Nat,x=n:=⟨x.toNat,by omega⟩
 have hn:n<s.length:=by omega
 rw[rd_nat s n hn]
 exact goodSign_mem h _ (List.getElem_mem hn)
theorem spec_GoodSign_ev (s:List Int)(hl:s.length≤140737488351232):Ev (fun k=>spec_GoodSign.f k s) (goodSign s):=by
 simp only[spec_GoodSign.f]
 refine Ev.bnd1 (spec_in_eq _ _ _) ?_
 by_cases g:1≤s.length∧s.length≤10
 ·have g':(1:Int)≤(s.length:Int)∧(s.length:Int)≤10:=by omega
  refine Ev.pos (decide_eq_true g') (Ev.bnd (spec_l1All_ev 0 3 s hl) ?_)
  unfold goodSign
  rw[decide_eq_true g,Bool.true_and]
  cases ha:inAll 0 3 s with
  | true=>exact Ev.pos rfl (Ev.pos (by omega) (Ev.eq (Ev.ret _) rfl))
  | false=>exact Ev.neg (by simp) (Ev.eq (Ev.ret _) rfl)
 ·have g':¬ ((1:Int)≤(s.length:Int)∧(s.length:Int)≤10):=by omega
  refine Ev.neg (by rw[decide_eq_false g'];simp) (Ev.eq (Ev.ret _) ?_)
  unfold goodSign
  rw[decide_eq_false g,Bool.false_and]
theorem impl_GoodSign_any (s:List Int):impl_GoodSign_1_any.f s=some (!inAll 0 3 s):=by
 unfold impl_GoodSign_1_any.f inAll
 refine anyO_not _ _ _ (fun x _=>?_)
 unfold impl_GoodSign_1.f
 by_cases h1:x<0
 ·rw[if_pos h1,decide_eq_false (by omega)];rfl
 ·rw[if_neg h1]
  by_cases h2:x≤3
  ·rw[decide_eq_true (show 0≤x∧x≤3 by omega),decide_eq_false (by omega)];rfl
  ·rw[decide_eq_false (show ¬ (0≤x∧x≤3) by omega),decide_eq_true (by omega)];rfl
theorem impl_GoodSign_eq (s:List Int):impl_GoodSign.f s=some (goodSign s):=by
 unfold impl_GoodSign.f goodSign
 by_cases g:1≤s.length∧s.length≤10
 ·rw[if_neg (by omega),if_neg (by omega),if_pos (by omega),decide_eq_true g,Bool.true_and]
  by_cases e:rd s 0=0
  ·rw[if_pos e,impl_GoodSign_any,e];simp
  ·rw[if_neg e];simp[e]
 ·rw[decide_eq_false g,Bool.false_and]
  by_cases h1:(s.length:Int)<1
  ·rw[if_pos h1]
  ·rw[if_neg h1,if_pos (by omega)]
def ar (s:List Int)(x:Int):Nat:=if x<0 then 0 else (rd s x).toNat
def tok (s:List Int)(x:Int):Bool:=decide (-12≤x∧x<s.length)
def eat (s:List Int):List Int→Nat→Option (List Int)
 | l,0=>some l
 | [],_+1=>none
 | x :: l,n+1=>if tok s x=true then eat s l (n+ar s x) else none
def isTerm (s:List Int)(l:List Int):Bool:=decide (1≤l.length∧l.length≤40) && (eat s l 1 == some [])
theorem ar_le {s:List Int} (h:goodSign s=true) {x:Int} (ht:tok s x=true):ar s x≤3:=by
 unfold tok at ht
 simp only[decide_eq_true_eq]at ht
 unfold ar
 by_cases g:x<0
 ·rw[if_pos g];omega
 ·rw[if_neg g]
  have:=goodSign_rd h x (by omega) (by omega)
  omega
theorem ar_rd {s:List Int} (h:goodSign s=true) {x:Int} (h0:0≤x)(ht:tok s x=true):rd s x=(ar s x:Int):=by
 unfold tok at ht
 simp only[decide_eq_true_eq]at ht
 unfold ar
 rw[if_neg (by omega)]
 have:=goodSign_rd h x (by omega) (by omega)
 omega
theorem eat_suf (s:List Int)(l:List Int):∀ (n:Nat) (r:List Int),eat s l n=some r→∃ c,l=c++r:=by
 induction l with
 | nil=>
  intro n r h
  cases n with
  | zero=>simp only[eat,Option.some.injEq]at h;exact⟨[],by simp[h]⟩
  | succ n=>simp[eat]at h
 | cons x l ih=>
  intro n r h
  cases n with
  | zero=>simp only[eat,Option.some.injEq]at h;exact⟨[],by simp[h]⟩
  | succ n=>
   simp only[eat]at h
   split at h
   ·obtain⟨c,e⟩:=ih _ _ h
    exact⟨x :: c,by rw[e];rfl⟩
   ·simp at h
theorem eat_zero (s:List Int)(l:List Int):eat s l 0=some l:=by cases l <;> rfl
theorem eat_split (s:List Int)(l:List Int):∀ (n m:Nat) (r:List Int),eat s l (n+m)=some r→∃ mid,eat s l n=some mid∧eat s mid m=some r:=by
 induction l with
 | nil=>
  intro n m r h
  cases n with
  | zero=>exact⟨[],eat_zero _ _,by simpa using h⟩
  | succ n=>rw[show n+1+m=(n+m)+1 by omega]at h;simp[eat]at h
 | cons x l ih=>
  intro n m r h
  cases n with
  | zero=>exact⟨x :: l,eat_zero _ _,by simpa using h⟩
  | succ n=>
   rw[show n+1+m=(n+m)+1 by omega]at h
   simp only[eat]at h ⊢
   split at h
   ·rename_i ht
    rw[if_pos ht]
    exact ih _ _ _ (by rw[← h];congr 1;omega)
   ·simp at h
theorem spec_l1End_l0 (s:List Int)(hs:goodSign s=true)(l:List Int):∀ (pre:List Int) (n:Nat),(pre++l).length≤1000000000→n≤3*pre.length+3 →
  Ev (fun k=>spec_l1End.l0 k (pre++l) (pre.length:Int) (n:Int) s) (match eat s l n with | some r=>((pre++l).length:Int) - r.length | none=>-1):=by
 have hsl:=goodSign_len hs
 induction l with
 | nil=>
  intro pre n hl hn
  refine Ev.succ ?_
  simp only[spec_l1End.l0]
  cases n with
  | zero=>exact Ev.neg (by simp) (Ev.eq (Ev.ret _) (by simp[eat]))
  | succ n=>
   refine Ev.pos (by omega) (Ev.pos (by simp) (Ev.succ ?_))
   simp only[spec_l1End.j1]
   exact Ev.pos trivial (Ev.eq (Ev.ret _) (by simp[eat]))
 | cons x l ih=>
  intro pre n hl hn
  have hl':=hl
  simp only[List.length_append,List.length_cons]at hl
  refine Ev.succ ?_
  simp only[spec_l1End.l0]
  cases n with
  | zero=>exact Ev.neg (by simp) (Ev.eq (Ev.ret _) (by simp only[eat,List.length_append,List.length_cons];omega))
  | succ n=>
   refine Ev.pos (by omega) (Ev.neg (by simp only[List.length_append,List.length_cons];omega) (Ev.pos (by omega) (Ev.pos (by simp only[List.length_append,List.length_cons];omega) ?_)))
   rw[rd_mid,w64 (x:=(s.length:Int) - 1) (by omega) (by omega)]
   refine Ev.bnd1 (spec_in_eq _ _ _) (Ev.succ ?_)
   simp only[spec_l1End.j1]
   by_cases g:-12≤x∧x≤(s.length:Int) - 1
   ·have ht:tok s x=true:=by unfold tok;exact decide_eq_true (by omega)
    have har:=ar_le hs ht
    have h:=ih (pre++[x]) (n+ar s x) (by simpa using hl') (by simp only[List.length_append,List.length_cons,List.length_nil];omega)
    refine Ev.neg (by rw[decide_eq_true g];simp) (Ev.pos (by omega) (Ev.pos (by simp only[List.length_append,List.length_cons];omega) ?_))
    have e:eat s (x :: l) (n+1)=eat s l (n+ar s x):=by simp only[eat];rw[if_pos ht]
    rw[e]
    have e0:wrap64 ((pre.length:Int)+1)=(pre.length:Int)+1:=w64 (by omega) (by omega)
    have e1:wrap64 (((n+1:Nat):Int) - 1)=(n:Int):=by rw[w64 (by omega) (by omega)];omega
    rw[rd_mid,e0,e1]
    have h':Ev (fun k=>spec_l1End.l0 k (pre++x :: l) ((pre.length:Int)+1) ((n:Int)+(ar s x:Int)) s) (match eat s l (n+ar s x) with | some r=>((pre++x :: l).length:Int) - r.length | none=>-1):=by simpa using h
    by_cases g0:x≥0
    ·refine Ev.pos g0 (Ev.pos g0 (Ev.pos (by omega) ?_))
     rw[ar_rd hs g0 ht,w64 (by omega) (by omega)]
     exact h'
    ·refine Ev.neg g0 ?_
     have e2:ar s x=0:=by unfold ar;rw[if_pos (by omega)]
     rw[e2]at h' ⊢
     simpa using h'
   ·have ht:¬ tok s x=true:=by unfold tok;rw[decide_eq_true_eq];omega
    refine Ev.pos (by rw[decide_eq_false g];rfl) (Ev.eq (Ev.ret _) ?_)
    simp only[eat]
    rw[if_neg ht]
theorem spec_l1End_ev (s:List Int)(hs:goodSign s=true)(pre l:List Int)(hl:(pre++l).length≤1000000000) :
  Ev (fun k=>spec_l1End.f k s (pre++l) (pre.length:Int)) (match eat s l 1 with | some r=>((pre++l).length:Int) - r.length | none=>-1):=by
 simp only[spec_l1End.f]
 exact spec_l1End_l0 s hs l pre 1 hl (by omega)
theorem spec_l1Term_ev (s:List Int)(hs:goodSign s=true)(l:List Int):Ev (fun k=>spec_l1Term.f k s l) (isTerm s l):=by
 simp only[spec_l1Term.f]
 refine Ev.bnd1 (spec_in_eq _ _ _) ?_
 unfold isTerm
 by_cases g:1≤l.length∧l.length≤40
 ·have g':(1:Int)≤(l.length:Int)∧(l.length:Int)≤40:=by omega
  have h:=spec_l1End_ev s hs [] l (by simp;omega)
  refine Ev.pos (decide_eq_true g') (Ev.bnd (by simpa using h) (Ev.eq (Ev.ret _) ?_))
  rw[decide_eq_true g,Bool.true_and]
  cases e:eat s l 1 with
  | none=>simp
  | some r=>
   cases r with
   | nil=>simp
   | cons y r=>simp;omega
 ·have g':¬ ((1:Int)≤(l.length:Int)∧(l.length:Int)≤40):=by omega
  refine Ev.neg (by rw[decide_eq_false g'];simp) (Ev.eq (Ev.ret _) ?_)
  rw[decide_eq_false g,Bool.false_and]
theorem impl_args_eq (s:List Int)(hs:goodSign s=true)(x:Int)(ht:tok s x=true):impl_Sign_args.f s x=some (ar s x:Int):=by
 unfold impl_Sign_args.f
 by_cases g:x<0
 ·rw[if_pos g];unfold ar;rw[if_pos g];rfl
 ·have ht':=ht
  unfold tok at ht'
  simp only[decide_eq_true_eq]at ht'
  rw[if_neg g,if_pos (by omega),if_pos (by omega),ar_rd hs (by omega) ht]
theorem impl_isTerm_l0 (s:List Int)(hs:goodSign s=true)(l:List Int):∀ (pre:List Int) (n:Nat),(pre++l).length≤1000000→n≤3*pre.length+3 →
  Ev (fun k=>impl_Sign_isTerm.l0 k (n:Int) (pre++l) ((pre++l).length:Int) (pre.length:Int) s) (eat s l n == some []):=by
 have hsl:=goodSign_len hs
 induction l with
 | nil=>
  intro pre n hl hn
  refine Ev.succ ?_
  simp only[impl_Sign_isTerm.l0]
  refine Ev.neg (by simp) (Ev.eq (Ev.ret _) ?_)
  cases n with
  | zero=>rfl
  | succ n=>first | (simp[eat];done) | (simp[eat];omega)
 | cons x l ih=>
  intro pre n hl hn
  have hl':=hl
  simp only[List.length_append,List.length_cons]at hl
  refine Ev.succ ?_
  simp only[impl_Sign_isTerm.l0]
  refine Ev.pos (by simp only[List.length_append,List.length_cons];omega) (Ev.pos (by omega) (Ev.pos (by simp only[List.length_append,List.length_cons];omega) ?_))
  cases n with
  | zero=>exact Ev.pos rfl (Ev.eq (Ev.ret _) (by simp[eat]))
  | succ n=>
   refine Ev.neg (by omega) ?_
   rw[rd_mid]
   by_cases g1:x < -12
   ·refine Ev.pos g1 (Ev.eq (Ev.ret _) ?_)
    have ht:¬ tok s x=true:=by unfold tok;rw[decide_eq_true_eq];omega
    simp only[eat]
    rw[if_neg ht];rfl
   ·refine Ev.neg g1 ?_
    by_cases g2:x≥(s.length:Int)
    ·refine Ev.pos g2 (Ev.eq (Ev.ret _) ?_)
     have ht:¬ tok s x=true:=by unfold tok;rw[decide_eq_true_eq];omega
     simp only[eat]
     rw[if_neg ht];rfl
    ·refine Ev.neg g2 ?_
     have ht:tok s x=true:=by unfold tok;exact decide_eq_true (by omega)
     have har:=ar_le hs ht
     have h:=ih (pre++[x]) (n+ar s x) (by simpa using hl') (by simp only[List.length_append,List.length_cons,List.length_nil];omega)
     refine Ev.bnd1 (impl_args_eq s hs x ht) ?_
     have e0:wrap64 ((pre.length:Int)+1)=(pre.length:Int)+1:=w64 (by omega) (by omega)
     have e1:wrap64 ((ar s x:Int) - 1)=(ar s x:Int) - 1:=w64 (by omega) (by omega)
     have e2:wrap64 (((n+1:Nat):Int)+((ar s x:Int) - 1))=(n:Int)+(ar s x:Int):=by rw[w64 (by omega) (by omega)];omega
     rw[e0,e1,e2]
     refine Ev.eq (by simpa using h) ?_
     simp only[eat]
     rw[if_pos ht]
theorem impl_isTerm_ev (s:List Int)(hs:goodSign s=true)(l:List Int):Ev (fun k=>impl_Sign_isTerm.f k s l) (isTerm s l):=by
 simp only[impl_Sign_isTerm.f]
 unfold isTerm
 by_cases g:l.length > 40
 ·refine Ev.pos (by omega) (Ev.eq (Ev.ret _) ?_)
  rw[decide_eq_false (by omega),Bool.false_and]
 ·refine Ev.neg (by omega) ?_
  have h:=impl_isTerm_l0 s hs l [] 1 (by simp;omega) (by omega)
  refine Ev.eq (by simpa using h) ?_
  cases l with
  | nil=>simp[eat]
  | cons x l=>rw[decide_eq_true (show 1≤(x :: l).length∧(x :: l).length≤40 by simp only[List.length_cons]at g ⊢;omega),Bool.true_and]
def smLit (x:S83):Prop:=x.f1.length≤1048576∧x.f2.length≤1048576
theorem rdLB_mid (pre:List S83)(x:S83)(post:List S83):rd_T83 (pre++x :: post) (pre.length:Int)=x:=by
 unfold rd_T83;simp
def isLit (s:List Int)(x:S83):Bool:=isTerm s x.f1 && isTerm s x.f2
def isClause (s:List Int)(l:List S83):Bool:=decide (l.length≤8) && l.all (isLit s)
theorem spec_l1End_tot (s:List Int)(hsl:s.length≤1048576)(l:List Int):∀ (pre:List Int) (n:Int),(pre++l).length≤1000000000→∃ r,Ev (fun k=>spec_l1End.l0 k (pre++l) (pre.length:Int) n s) r:=by
 induction l with
 | nil=>
  intro pre n hl
  by_cases g:n > 0
  ·refine⟨-1,Ev.succ ?_⟩
   simp only[spec_l1End.l0]
   refine Ev.pos g (Ev.pos (by simp) (Ev.succ ?_))
   simp only[spec_l1End.j1]
   exact Ev.pos trivial (Ev.ret _)
  ·refine⟨(pre.length:Int),Ev.succ ?_⟩
   simp only[spec_l1End.l0]
   exact Ev.neg g (Ev.ret _)
 | cons x l ih=>
  intro pre n hl
  have hl':=hl
  simp only[List.length_append,List.length_cons]at hl
  by_cases g:n > 0
  ·by_cases g1:-12≤x∧x≤(s.length:Int) - 1
   ·by_cases g2:x≥0
    ·obtain⟨r,hr⟩:=ih (pre++[x]) (wrap64 (wrap64 (n - 1)+rd s x)) (by simpa using hl')
     refine⟨r,Ev.succ ?_⟩
     simp only[spec_l1End.l0]
     refine Ev.pos g (Ev.neg (by simp only[List.length_append,List.length_cons];omega) (Ev.pos (by omega) (Ev.pos (by simp only[List.length_append,List.length_cons];omega) ?_)))
     rw[rd_mid,w64 (x:=(s.length:Int) - 1) (by omega) (by omega)]
     refine Ev.bnd1 (spec_in_eq _ _ _) (Ev.succ ?_)
     simp only[spec_l1End.j1]
     refine Ev.neg (by rw[decide_eq_true g1];simp) (Ev.pos (by omega) (Ev.pos (by simp only[List.length_append,List.length_cons];omega) ?_))
     rw[rd_mid,w64 (x:=(pre.length:Int)+1) (by omega) (by omega)]
     exact Ev.pos g2 (Ev.pos g2 (Ev.pos (by omega) (by simpa using hr)))
    ·obtain⟨r,hr⟩:=ih (pre++[x]) (wrap64 (n - 1)) (by simpa using hl')
     refine⟨r,Ev.succ ?_⟩
     simp only[spec_l1End.l0]
     refine Ev.pos g (Ev.neg (by simp only[List.length_append,List.length_cons];omega) (Ev.pos (by omega) (Ev.pos (by simp only[List.length_append,List.length_cons];omega) ?_)))
     rw[rd_mid,w64 (x:=(s.length:Int) - 1) (by omega) (by omega)]
     refine Ev.bnd1 (spec_in_eq _ _ _) (Ev.succ ?_)
     simp only[spec_l1End.j1]
     refine Ev.neg (by rw[decide_eq_true g1];simp) (Ev.pos (by omega) (Ev.pos (by simp only[List.length_append,List.length_cons];omega) ?_))
     rw[rd_mid,w64 (x:=(pre.length:Int)+1) (by omega) (by omega)]
     exact Ev.neg g2 (by simpa using hr)
   ·refine⟨-1,Ev.succ ?_⟩
    simp only[spec_l1End.l0]
    refine Ev.pos g (Ev.neg (by simp only[List.length_append,List.length_cons];omega) (Ev.pos (by omega) (Ev.pos (by simp only[List.length_append,List.length_cons];omega) ?_)))
    rw[rd_mid,w64 (x:=(s.length:Int) - 1) (by omega) (by omega)]
    refine Ev.bnd1 (spec_in_eq _ _ _) (Ev.succ ?_)
    simp only[spec_l1End.j1]
    exact Ev.pos (by rw[decide_eq_false g1];rfl) (Ev.ret _)
  ·refine⟨(pre.length:Int),Ev.succ ?_⟩
   simp only[spec_l1End.l0]
   exact Ev.neg g (Ev.ret _)
theorem spec_l1Term_tot (s:List Int)(hsl:s.length≤1048576)(l:List Int):∃ b,Ev (fun k=>spec_l1Term.f k s l) b∧(goodSign s=true→b=isTerm s l):=by
 by_cases hs:goodSign s=true
 ·exact⟨_,spec_l1Term_ev s hs l,fun _=>rfl⟩
 ·simp only[spec_l1Term.f]
  by_cases g:(1:Int)≤(l.length:Int)∧(l.length:Int)≤40
  ·obtain⟨r,h⟩:=spec_l1End_tot s hsl l [] 1 (by simp only[List.nil_append];omega)
   refine⟨_,Ev.bnd1 (spec_in_eq _ _ _) (Ev.pos (decide_eq_true g) (Ev.bnd (a:=r) ?_ (Ev.ret _))),fun h=>absurd h hs⟩
   simp only[spec_l1End.f]
   simpa using h
  ·exact⟨_,Ev.bnd1 (spec_in_eq _ _ _) (Ev.neg (by rw[decide_eq_false g];simp) (Ev.ret _)),fun h=>absurd h hs⟩
theorem spec_l4Lit_tot (s:List Int)(hsl:s.length≤1048576)(x:S83):∃ b,Ev (fun k=>spec_l4Lit.f k s x.f0 x.f1 x.f2) b∧(goodSign s=true→b=isLit s x):=by
 obtain⟨b1,h1,e1⟩:=spec_l1Term_tot s hsl x.f1
 obtain⟨b2,h2,e2⟩:=spec_l1Term_tot s hsl x.f2
 simp only[spec_l4Lit.f]
 cases b1 with
 | true=>exact⟨b2,Ev.bnd h1 (Ev.pos rfl (Ev.bnd h2 (Ev.ret _))),fun h=>by unfold isLit;rw[← e1 h,← e2 h];rfl⟩
 | false=>exact⟨false,Ev.bnd h1 (Ev.neg (by simp) (Ev.ret _)),fun h=>by unfold isLit;rw[← e1 h];rfl⟩
theorem spec_l4Clause_l0 (s:List Int)(hsl:s.length≤1048576)(x1:List S83)(post:List S83):∀ pre:List S83,(pre++post).length≤1048576 →
  ∃ b,Ev (fun k=>spec_l4Clause.l0 k x1 (pre++post) ((pre++post).length:Int) (pre.length:Int) s) b∧(goodSign s=true→b=(post.all (isLit s) && decide (x1.length≤8))):=by
 induction post with
 | nil=>
  intro pre hl
  refine⟨decide ((x1.length:Int)≤8),Ev.succ ?_,fun _=>?_⟩
  ·simp only[spec_l4Clause.l0]
   exact Ev.neg (by simp) (Ev.ret _)
  ·rw[List.all_nil,Bool.true_and];congr 1;simp only[eq_iff_iff];omega
 | cons x post ih=>
  intro pre hl
  have hl':=hl
  simp only[List.length_append,List.length_cons]at hl
  obtain⟨b1,h1,e1⟩:=spec_l4Lit_tot s hsl x
  have pref:∀ {g:Nat→Option Bool} {r:Bool},Ev (fun k=>(spec_l4Lit.f k s x.f0 x.f1 x.f2).bind fun t=>if t=true then g k else some false) r→Ev (fun k=>if (pre.length:Int)<((pre++x :: post).length:Int) then (if 0≤(pre.length:Int) then (if (pre.length:Int)<((pre++x :: post).length:Int) then ((spec_l4Lit.f k s ((rd_T83 (pre++x :: post) (pre.length:Int)).f0) ((rd_T83 (pre++x :: post) (pre.length:Int)).f1) ((rd_T83 (pre++x :: post) (pre.length:Int)).f2)).bind fun t=>if t=true then g k else some false) else none) else none) else some (decide ((x1.length:Int)≤8))) r:=by
   intro g r h
   refine Ev.pos (by simp only[List.length_append,List.length_cons];omega) (Ev.pos (by omega) (Ev.pos (by simp only[List.length_append,List.length_cons];omega) ?_))
   rw[rdLB_mid]
   exact h
  cases b1 with
  | true=>
   obtain⟨b2,h2,e2⟩:=ih (pre++[x]) (by simpa using hl')
   refine⟨b2,Ev.succ ?_,fun h=>by rw[e2 h,List.all_cons,← e1 h,Bool.true_and]⟩
   simp only[spec_l4Clause.l0]
   rw[w64 (x:=(pre.length:Int)+1) (by omega) (by omega)]
   exact pref (Ev.bnd h1 (Ev.pos rfl (by simpa using h2)))
  | false=>
   refine⟨false,Ev.succ ?_,fun h=>by rw[List.all_cons,← e1 h,Bool.false_and,Bool.false_and]⟩
   simp only[spec_l4Clause.l0]
   exact pref (Ev.bnd h1 (Ev.neg (by simp) (Ev.ret _)))
theorem spec_l4Clause_tot (s:List Int)(hsl:s.length≤1048576)(l:List S83)(hl:l.length≤1048576):∃ b,Ev (fun k=>spec_l4Clause.f k s l) b∧(goodSign s=true→b=isClause s l):=by
 obtain⟨b,h,e⟩:=spec_l4Clause_l0 s hsl l l [] (by simpa using hl)
 simp only[spec_l4Clause.f]
 exact⟨b,by simpa using h,fun hs=>by rw[e hs,isClause,Bool.and_comm]⟩
theorem impl_isLit_ev (s:List Int)(hs:goodSign s=true)(x:S83):Ev (fun k=>impl_Sign_isLit.f k s x.f0 x.f1 x.f2) (isLit s x):=by
 simp only[impl_Sign_isLit.f]
 refine Ev.bnd (impl_isTerm_ev s hs x.f1) ?_
 unfold isLit
 cases isTerm s x.f1 with
 | true=>exact Ev.pos rfl (Ev.bnd (impl_isTerm_ev s hs x.f2) (Ev.eq (Ev.ret _) rfl))
 | false=>exact Ev.neg (by simp) (Ev.ret _)
theorem anyO_ev {α:Type} (f:Nat→α→Option Bool)(p:α→Bool)(l:List α)(h:∀ x∈l,Ev (fun k=>f k x) (!p x)):Ev (fun k=>anyO (fun x=>f k x) l) (!l.all p):=by
 induction l with
 | nil=>exact Ev.ret _
 | cons x t ih=>
  simp only[anyO]
  refine Ev.bnd (h x (by simp)) ?_
  cases hp:p x with
  | true=>exact Ev.neg (by simp) (Ev.eq (ih (fun y hy=>h y (by simp[hy]))) (by simp[hp]))
  | false=>exact Ev.pos rfl (Ev.eq (Ev.ret _) (by simp[hp]))
theorem impl_isClause_ev (s:List Int)(hs:goodSign s=true)(l:List S83):Ev (fun k=>impl_Sign_isClause.f k s l) (isClause s l):=by
 simp only[impl_Sign_isClause.f,isClause]
 by_cases g:l.length≤8
 ·refine Ev.pos (by omega) (Ev.bnd (a:=!l.all (isLit s)) ?_ (Ev.eq (Ev.ret _) ?_))
  ·simp only[impl_Sign_isClause_1_any.f]
   refine anyO_ev _ _ _ (fun x _=>?_)
   simp only[impl_Sign_isClause_1.f]
   exact Ev.bnd (impl_isLit_ev s hs x) (Ev.ret _)
  ·rw[decide_eq_true g,Bool.not_not,Bool.true_and]
 ·exact Ev.neg (by omega) (Ev.eq (Ev.ret _) (by rw[decide_eq_false g,Bool.false_and]))
def goodClause (s:List Int)(c:List S83):Bool:=goodSign s && isClause s c
theorem spec_GoodClause_ev (s:List Int)(hs:s.length≤1048576)(c:List S83)(hc:c.length≤1048576):Ev (fun k=>spec_GoodClause.f k s c) (goodClause s c):=by
 obtain⟨b,h,e⟩:=spec_l4Clause_tot s hs c hc
 simp only[spec_GoodClause.f,goodClause]
 refine Ev.bnd (spec_GoodSign_ev s (by omega)) ?_
 by_cases g:goodSign s=true
 ·refine Ev.pos g (Ev.bnd h (Ev.eq (Ev.ret _) ?_))
  rw[e g,g,Bool.true_and]
 ·exact Ev.neg g (Ev.eq (Ev.ret _) (by rw[Bool.eq_false_iff.2 g,Bool.false_and]))
theorem impl_GoodClause_ev (s:List Int)(c:List S83):Ev (fun k=>impl_GoodClause.f k s c) (goodClause s c):=by
 simp only[impl_GoodClause.f,goodClause]
 refine Ev.bnd1 (impl_GoodSign_eq s) ?_
 by_cases g:goodSign s=true
 ·refine Ev.pos g (Ev.bnd (impl_isClause_ev s g c) (Ev.eq (Ev.ret _) ?_))
  rw[g,Bool.true_and]
 ·exact Ev.neg g (Ev.eq (Ev.ret _) (by rw[Bool.eq_false_iff.2 g,Bool.false_and]))
theorem isTerm_of {s l:List Int} (h:isTerm s l=true):l.length≤40∧eat s l 1=some []:=by
 unfold isTerm at h
 simp only[Bool.and_eq_true,decide_eq_true_eq,beq_iff_eq]at h
 exact⟨h.1.2,h.2⟩
theorem isLit_of {s:List Int} {x:S83} (h:isLit s x=true):isTerm s x.f1=true∧isTerm s x.f2=true:=by
 unfold isLit at h
 rwa [Bool.and_eq_true]at h
theorem isClause_of {s:List Int} {c:List S83} (h:isClause s c=true):c.length≤8∧∀ x∈c,isLit s x=true:=by
 unfold isClause at h
 rw[Bool.and_eq_true,decide_eq_true_eq,List.all_eq_true]at h
 exact h
theorem eat_tok (s:List Int)(l:List Int):∀ n,eat s l n=some []→∀ x∈l,tok s x=true:=by
 induction l with
 | nil=>intro n h x hx;simp at hx
 | cons x l ih=>
  intro n h y hy
  cases n with
  | zero=>simp[eat]at h
  | succ n=>
   simp only[eat]at h
   split at h
   ·rename_i ht
    rcases List.mem_cons.1 hy with rfl | hy
    ·exact ht
    ·exact ih _ h y hy
   ·simp at h
theorem eat_cons {s:List Int} {x:Int} {l:List Int} {n:Nat} {r:List Int} (h:eat s (x :: l) (n+1)=some r):tok s x=true∧eat s l (n+ar s x)=some r:=by
 simp only[eat]at h
 split at h
 ·rename_i ht;exact⟨ht,h⟩
 ·simp at h
theorem same_l0 (post:List Int):∀ (pre post2:List Int),post2.length=post.length→(pre++post).length≤1000000→∀ pre2:List Int,pre2.length=pre.length →
  Ev (fun k=>spec_l1Same.l0 k (pre++post) (pre2++post2) ((pre++post).length:Int) (pre.length:Int)) (decide (post=post2))∧Ev (fun k=>slices_Equal_int_int.l0 k (pre++post) (pre2++post2) ((pre++post).length:Int) (pre.length:Int)) (decide (post=post2)):=by
 induction post with
 | nil=>
  intro pre post2 h2 hl pre2 hp
  have e2:post2=[]:=List.eq_nil_of_length_eq_zero h2
  subst e2
  constructor
  ·refine Ev.succ ?_
   simp only[spec_l1Same.l0]
   exact Ev.neg (by simp) (Ev.eq (Ev.ret _) (by simp))
  ·refine Ev.succ ?_
   simp only[slices_Equal_int_int.l0]
   exact Ev.neg (by simp) (Ev.eq (Ev.ret _) (by simp))
 | cons x post ih=>
  intro pre post2 h2 hl pre2 hp
  obtain⟨y,post2,rfl⟩:∃ y t,post2=y :: t:=by cases post2 with | nil=>simp at h2 | cons y t=>exact⟨y,t,rfl⟩
  obtain⟨i1,i2⟩:=ih (pre++[x]) post2 (by simpa using h2) (by simpa using hl) (pre2++[y]) (by simpa using hp)
  simp only[List.length_append,List.length_cons]at hl
  have e0:wrap64 ((pre.length:Int)+1)=(pre.length:Int)+1:=w64 (by omega) (by omega)
  have ey:rd (pre2++y :: post2) (pre.length:Int)=y:=by rw[← hp];exact rd_mid _ _ _
  constructor
  ·refine Ev.succ ?_
   simp only[spec_l1Same.l0]
   refine Ev.pos (by simp only[List.length_append,List.length_cons];omega) (Ev.pos (by omega) (Ev.pos (by simp only[List.length_append,List.length_cons];omega) (Ev.pos (by simp only[List.length_append,List.length_cons];omega) ?_)))
   rw[rd_mid,ey,e0]
   by_cases g:x=y
   ·refine Ev.pos g (Ev.eq (by simpa using i1) (by simp[g]))
   ·refine Ev.neg g (Ev.eq (Ev.ret _) (by simp[g]))
  ·refine Ev.succ ?_
   simp only[slices_Equal_int_int.l0]
   refine Ev.pos (by simp only[List.length_append,List.length_cons];omega) (Ev.pos (by omega) (Ev.pos (by simp only[List.length_append,List.length_cons];omega) (Ev.pos (by simp only[List.length_append,List.length_cons];omega) ?_)))
   rw[rd_mid,ey,e0]
   by_cases g:x=y
   ·refine Ev.pos g (Ev.eq (by simpa using i2) (by simp[g]))
   ·refine Ev.neg g (Ev.eq (Ev.ret _) (by simp[g]))
theorem spec_l1Same_ev (a b:List Int)(h:a.length≤1000000):Ev (fun k=>spec_l1Same.f k a b) (decide (a=b)):=by
 simp only[spec_l1Same.f]
 by_cases g:a.length=b.length
 ·exact Ev.pos (by omega) (by simpa using (same_l0 a [] b g.symm (by simpa using h) [] rfl).1)
 ·exact Ev.neg (by omega) (Ev.eq (Ev.ret _) (by rw[decide_eq_false];intro e;exact g (by rw[e])))
theorem impl_Equal_ev (a b:List Int)(h:a.length≤1000000):Ev (fun k=>slices_Equal_int_int.f k a b) (decide (a=b)):=by
 simp only[slices_Equal_int_int.f]
 by_cases g:a.length=b.length
 ·exact Ev.pos (by omega) (by simpa using (same_l0 a [] b g.symm (by simpa using h) [] rfl).2)
 ·exact Ev.neg (by omega) (Ev.eq (Ev.ret _) (by rw[decide_eq_false];intro e;exact g (by rw[e])))
theorem has_l0 (x:Int)(post:List Int):∀ (pre:List Int),(pre++post).length≤1000000→Ev (fun k=>spec_l1Has.l0 k x (pre++post) ((pre++post).length:Int) (pre.length:Int)) (decide (x∈post)):=by
 induction post with
 | nil=>
  intro pre hl
  refine Ev.succ ?_
  simp only[spec_l1Has.l0]
  exact Ev.neg (by simp) (Ev.eq (Ev.ret _) (by simp))
 | cons y post ih=>
  intro pre hl
  have h:=ih (pre++[y]) (by simpa using hl)
  simp only[List.length_append,List.length_cons]at hl
  refine Ev.succ ?_
  simp only[spec_l1Has.l0]
  refine Ev.pos (by simp only[List.length_append,List.length_cons];omega) (Ev.pos (by omega) (Ev.pos (by simp only[List.length_append,List.length_cons];omega) ?_))
  rw[rd_mid,w64 (by omega) (by omega)]
  by_cases g:y=x
  ·exact Ev.pos g (Ev.eq (Ev.ret _) (by simp[g]))
  ·refine Ev.neg g (Ev.eq (by simpa using h) ?_)
   exact decide_eq_decide.2 ⟨fun q=>List.mem_cons_of_mem _ q,fun q=>(List.mem_cons.1 q).resolve_left (fun e=>g e.symm)⟩
theorem spec_l1Has_ev (l:List Int)(x:Int)(hl:l.length≤1000000):Ev (fun k=>spec_l1Has.f k l x) (decide (x∈l)):=by
 simp only[spec_l1Has.f]
 simpa using has_l0 x l [] (by simpa using hl)
theorem index_l0 (x:Int)(post:List Int):∀ (pre:List Int),(pre++post).length≤1000000→∃ r,Ev (fun k=>slices_Index_int_int.l0 k (pre++post) x ((pre++post).length:Int) (pre.length:Int)) r∧decide (r≥0)=decide (x∈post):=by
 induction post with
 | nil=>
  intro pre hl
  refine⟨-1,Ev.succ ?_,by simp⟩
  simp only[slices_Index_int_int.l0]
  exact Ev.neg (by simp) (Ev.ret _)
 | cons y post ih=>
  intro pre hl
  obtain⟨r,h,e⟩:=ih (pre++[y]) (by simpa using hl)
  simp only[List.length_append,List.length_cons]at hl
  by_cases g:x=y
  ·refine⟨(pre.length:Int),Ev.succ ?_,by simp[g]⟩
   simp only[slices_Index_int_int.l0]
   refine Ev.pos (by simp only[List.length_append,List.length_cons];omega) (Ev.pos (by omega) (Ev.pos (by simp only[List.length_append,List.length_cons];omega) ?_))
   rw[rd_mid]
   exact Ev.pos g (Ev.ret _)
  ·refine⟨r,Ev.succ ?_,by rw[e];simp[g]⟩
   simp only[slices_Index_int_int.l0]
   refine Ev.pos (by simp only[List.length_append,List.length_cons];omega) (Ev.pos (by omega) (Ev.pos (by simp only[List.length_append,List.length_cons];omega) ?_))
   rw[rd_mid,w64 (by omega) (by omega)]
   exact Ev.neg g (by simpa using h)
theorem contains_ev (l:List Int)(x:Int)(hl:l.length≤1000000):Ev (fun k=>slices_Contains_int_int.f k l x) (decide (x∈l)):=by
 obtain⟨r,h,e⟩:=index_l0 x l [] (by simpa using hl)
 simp only[slices_Contains_int_int.f,slices_Index_int_int.f]
 refine Ev.bnd (by simpa using h) (Ev.eq (Ev.ret _) e)
def covers (a b:List Int):Prop:=∀ j:Nat,j<12→b.count (-1 - (j:Int))≤a.count (-1 - (j:Int))
noncomputable instance (a b:List Int):Decidable (covers a b):=Classical.propDecidable _
def totL (l:List (List Int)):Nat:=(l.map List.length).sum
theorem totL_cons (x:List Int)(t:List (List Int)):totL (x :: t)=x.length+totL t:=by simp[totL]
theorem rnT_len (t:List Int):∀ met:List Int,(rnT met t).2.length=t.length∧(rnT met t).1.length≤met.length+t.length:=by
 induction t with
 | nil=>intro met;exact⟨rfl,by simp[rnT]⟩
 | cons n t ih=>
  intro met
  rw[rnT]
  split
  ·have:=ih met
   exact⟨by simp only[List.length_cons];omega,by simp only[List.length_cons];omega⟩
  ·have:=ih (if n∈met then met else met++[n])
   have h2:(if n∈met then met else met++[n]).length≤met.length+1:=by
    split
    ·omega
    ·rw[List.length_append,List.length_singleton];omega
   exact⟨by simp only[List.length_cons];omega,by simp only[List.length_cons];omega⟩
theorem rnT_neg (t:List Int):∀ met:List Int,(∀ m∈met,m<0)→∀ m∈(rnT met t).1,m<0:=by
 induction t with
 | nil=>intro met h;exact h
 | cons n t ih=>
  intro met h
  rw[rnT]
  split
  ·exact ih met h
  ·rename_i hn
   refine ih _ (fun m hm=>?_)
   split at hm
   ·exact h m hm
   ·rcases List.mem_append.1 hm with hm | hm
    ·exact h m hm
    ·rw[List.mem_singleton]at hm;omega
theorem rnL_len (l:List (List Int)):∀ met,(rnL met l).length=l.length:=by
 induction l with
 | nil=>intro met;rfl
 | cons x t ih=>intro met;simp[rnL,ih]
theorem ren_l2 (n:Int)(x3:List Int)(x4:List (List Int))(x7:List Int)(x12:List (List Int))(x13 x14:Int)(x18:List Int)(x19 x20:Int)(h7:x7.length≤1000000)(r:List (List Int))(post:List Int):∀ pre:List Int,n ∉ pre→(pre++post).length≤1000000 →
  Ev (fun k=>spec_l2Rename.l1 k x3 x4 (x7++[if n∈post then -1 - (((pre++post).idxOf n:Nat):Int) else n]) x12 x13 x14 x18 x19 (wrap64 (x20+1))) r →
  Ev (fun k=>spec_l2Rename.l2 k x3 x4 x7 n x12 x13 x14 x18 x19 x20 (pre++post) ((pre++post).length:Int) (pre.length:Int)) r:=by
 induction post with
 | nil=>
  intro pre hn hl h
  refine Ev.succ ?_
  simp only[spec_l2Rename.l2]
  rw[if_neg (by simp)]at h
  exact Ev.neg (by simp) (Ev.pos (by omega) h)
 | cons m post ih=>
  intro pre hn hl h
  have hl':=hl
  simp only[List.length_append,List.length_cons]at hl
  refine Ev.succ ?_
  simp only[spec_l2Rename.l2]
  rw[w64 (x:=-1 - (pre.length:Int)) (by omega) (by omega),w64 (x:=(pre.length:Int)+1) (by omega) (by omega),rd_mid]
  refine Ev.pos (by simp only[List.length_append,List.length_cons];omega) (Ev.pos (by omega) (Ev.pos (by simp only[List.length_append,List.length_cons];omega) ?_))
  by_cases e:m=n
  ·subst e
   rw[if_pos (by simp),List.idxOf_append,if_neg hn,List.idxOf_cons_self,Nat.zero_add]at h
   exact Ev.pos rfl (Ev.pos (by omega) h)
  ·refine Ev.neg e ?_
   have hpp:pre++m :: post=(pre++[m])++post:=by simp
   have:=ih (pre++[m]) (by simp only[List.mem_append,List.mem_singleton,not_or];exact⟨hn,fun q=>e q.symm⟩) (by rw[← hpp];exact hl') (by
    rw[← hpp]
    have e2:(n∈m :: post)=(n∈post):=by rw[List.mem_cons];exact propext ⟨fun q=>q.elim (fun q=>absurd q.symm e) id,.inr⟩
    simp only[e2]at h
    exact h)
   rw[← hpp]at this
   simpa using this
theorem ren_l1 (l:List (List Int))(idx:Int)(out:List (List Int))(hout:out.length≤1000000)(r:List (List Int))(post:List Int):∀ (pre met acc:List Int),(∀ m∈met,m<0)→met.length+post.length≤900000→acc.length=pre.length→(pre++post).length≤900000 →
  Ev (fun k=>spec_l2Rename.l0 k (rnT met post).1 (out++[acc++(rnT met post).2]) l (l.length:Int) (wrap64 (idx+1))) r →
  Ev (fun k=>spec_l2Rename.l1 k met out acc l (l.length:Int) idx (pre++post) ((pre++post).length:Int) (pre.length:Int)) r:=by
 induction post with
 | nil=>
  intro pre met acc hm hb ha hl h
  refine Ev.succ ?_
  simp only[spec_l2Rename.l1]
  simp only[rnT,List.append_nil]at h
  exact Ev.neg (by simp) (Ev.pos (by omega) h)
 | cons n post ih=>
  intro pre met acc hm hb ha hl h
  have hl':=hl
  simp only[List.length_append,List.length_cons]at hl hb
  have hpp:pre++n :: post=(pre++[n])++post:=by simp
  have next:∀ (met':List Int) (y:Int),(∀ m∈met',m<0)→met'.length≤met.length+1→Ev (fun k=>spec_l2Rename.l0 k (rnT met' post).1 (out++[acc++y :: (rnT met' post).2]) l (l.length:Int) (wrap64 (idx+1))) r →
    Ev (fun k=>spec_l2Rename.l1 k met' out (acc++[y]) l (l.length:Int) idx (pre++n :: post) ((pre++n :: post).length:Int) (wrap64 ((pre.length:Int)+1))) r:=fun met' y h1 h2 h3=>by
   have:=ih (pre++[n]) met' (acc++[y]) h1 (by omega) (by simp[ha]) (by rw[← hpp];exact hl') (by simpa using h3)
   rw[← hpp]at this
   rw[w64 (by omega) (by omega)]
   simpa using this
  refine Ev.succ ?_
  simp only[spec_l2Rename.l1]
  rw[rd_mid]
  refine Ev.pos (by simp only[List.length_append,List.length_cons];omega) (Ev.pos (by omega) (Ev.pos (by simp only[List.length_append,List.length_cons];omega) ?_))
  rw[rnT]at h
  by_cases g:0≤n
  ·rw[if_pos g]at h
   have hnm:n ∉ met:=fun q=>by have:=hm n q;omega
   refine Ev.neg (by omega) (Ev.succ ?_)
   simp only[spec_l2Rename.j2]
   refine Ev.neg (by simp) (Ev.succ ?_)
   simp only[spec_l2Rename.j3]
   have:=ren_l2 n met out acc l (l.length:Int) idx (pre++n :: post) ((pre++n :: post).length:Int) (pre.length:Int) (by omega) r met [] (by simp) (by simp only[List.nil_append];omega) (by rw[if_neg hnm];exact next met n hm (by omega) h)
   simpa using this
  ·rw[if_neg g]at h
   refine Ev.pos (by omega) (Ev.bnd (spec_l1Has_ev met n (by omega)) (Ev.succ ?_))
   simp only[spec_l2Rename.j2]
   by_cases q:n∈met
   ·rw[if_pos q]at h
    refine Ev.neg (by simp[q]) (Ev.succ ?_)
    simp only[spec_l2Rename.j3]
    have:=ren_l2 n met out acc l (l.length:Int) idx (pre++n :: post) ((pre++n :: post).length:Int) (pre.length:Int) (by omega) r met [] (by simp) (by simp only[List.nil_append];omega) (by rw[if_pos q];exact next met _ hm (by omega) h)
    simpa using this
   ·rw[if_neg q]at h
    refine Ev.pos (by simp[q]) (Ev.pos (by omega) (Ev.succ ?_))
    simp only[spec_l2Rename.j3]
    have:=ren_l2 n (met++[n]) out acc l (l.length:Int) idx (pre++n :: post) ((pre++n :: post).length:Int) (pre.length:Int) (by omega) r (met++[n]) [] (by simp) (by simp only[List.nil_append,List.length_append,List.length_singleton];omega) (by
     rw[if_pos (by simp)]
     refine next (met++[n]) _ (fun m hm'=>?_) (by rw[List.length_append,List.length_singleton];omega) h
     rcases List.mem_append.1 hm' with hm' | hm'
     ·exact hm m hm'
     ·rw[List.mem_singleton]at hm';omega)
    simpa using this
theorem rdL2_mid9 (pre:List (List Int))(x:List Int)(post:List (List Int)):rd_L2 (pre++x :: post) (pre.length:Int)=x:=by
 unfold rd_L2;simp
theorem ren_l0 (post:List (List Int)):∀ (pre out:List (List Int)) (met:List Int),(∀ m∈met,m<0)→met.length+totL post≤900000→out.length=pre.length→(pre++post).length≤900000 →
  Ev (fun k=>spec_l2Rename.l0 k met out (pre++post) ((pre++post).length:Int) (pre.length:Int)) (out++rnL met post):=by
 induction post with
 | nil=>
  intro pre out met hm hb ho hl
  refine Ev.succ ?_
  simp only[spec_l2Rename.l0]
  exact Ev.neg (by simp) (Ev.eq (Ev.ret _) (by simp[rnL]))
 | cons x post ih=>
  intro pre out met hm hb ho hl
  have hl':=hl
  rw[totL_cons]at hb
  simp only[List.length_append,List.length_cons]at hl
  have hpp:pre++x :: post=(pre++[x])++post:=by simp
  have h:=ih (pre++[x]) (out++[(rnT met x).2]) (rnT met x).1 (rnT_neg x met hm) (by have:=(rnT_len x met).2;omega) (by simp[ho]) (by rw[← hpp];exact hl')
  rw[← hpp]at h
  refine Ev.succ ?_
  simp only[spec_l2Rename.l0]
  rw[rdL2_mid9]
  refine Ev.pos (by simp only[List.length_append,List.length_cons];omega) (Ev.pos (by omega) (Ev.pos (by simp only[List.length_append,List.length_cons];omega) ?_))
  have:=ren_l1 (pre++x :: post) (pre.length:Int) out (by omega) (out++rnL met (x :: post)) x [] met [] hm (by omega) rfl (by simp only[List.nil_append];omega) (by
   rw[w64 (by omega) (by omega)]
   simpa [rnL] using h)
  simpa using this
theorem spec_l2Rename_ev (l:List (List Int))(h1:l.length≤900000)(h2:totL l≤900000):Ev (fun k=>spec_l2Rename.f k l) (rnL [] l):=by
 simp only[spec_l2Rename.f]
 simpa using ren_l0 l [] [] [] (by simp) (by simpa using h2) rfl (by simpa using h1)
theorem spec_l4Rename_ev (l:List S83)(h1:l.length≤1000)(h2:totL (flatT l)≤900000):Ev (fun k=>spec_l4Rename.f k l) (zipN l (rnL [] (flatT l)) l.length):=by
 simp only[spec_l4Rename.f]
 refine Ev.pos (by omega) (Ev.bnd (spec_l2Rename_ev _ (by rw[flat_len];omega) h2) (Ev.pos (by rw[rnL_len,flat_len]) (Ev.ret _)))
theorem with_l0 (l:List S83)(u:List (List Int))(h1:l.length≤1000)(hu:u.length=2*l.length)(d:Nat):∀ j:Nat,j+d=l.length→Ev (fun k=>impl_withTerms.l0 k u (zipN l u j) l (l.length:Int) (j:Int)) (zipN l u l.length):=by
 induction d with
 | zero=>
  intro j hj
  obtain rfl:j=l.length:=by omega
  refine Ev.succ ?_
  simp only[impl_withTerms.l0]
  exact Ev.neg (by omega) (Ev.ret _)
 | succ d ih=>
  intro j hj
  have h:=ih (j+1) (by omega)
  refine Ev.succ ?_
  simp only[impl_withTerms.l0]
  rw[w64 (x:=2*(j:Int)) (by omega) (by omega),w64 (x:=2*(j:Int)+1) (by omega) (by omega),w64 (x:=(j:Int)+1) (by omega) (by omega)]
  refine Ev.pos (by omega) (Ev.pos (by omega) (Ev.pos (by omega) (Ev.pos (by omega) (Ev.pos (by omega) (Ev.pos (by omega) (Ev.pos (by omega) (Ev.pos (by rw[zipN_len];omega) ?_)))))))
  exact h
theorem impl_withTerms_ev (l:List S83)(u:List (List Int))(h1:l.length≤1000)(hu:u.length=2*l.length):Ev (fun k=>impl_withTerms.f k l u) (zipN l u l.length):=by
 simp only[impl_withTerms.f]
 exact with_l0 l u h1 hu l.length 0 (by omega)
theorem impl_rename_eq (l:List (List Int))(h1:l.length≤2097152)(h2:∀ x∈l,x.length≤1048576∧∀ n∈x,-9223372036854775808≤n∧n≤9223372036854775807):impl_rename.f l=some (rnL [] l):=by
 unfold impl_rename.f
 rw[if_pos]
 refine⟨h1,List.all_eq_true.2 (fun x hx=>?_)⟩
 rw[Bool.and_eq_true,decide_eq_true_iff,List.all_eq_true]
 exact⟨(h2 x hx).1,fun n hn=>decide_eq_true ((h2 x hx).2 n hn)⟩
theorem flat_mem (l:List S83):∀ t∈flatT l,∃ x∈l,t=x.f1∨t=x.f2:=by
 induction l with
 | nil=>intro t ht;simp[flatT]at ht
 | cons y l ih=>
  intro t ht
  simp only[flatT,List.mem_cons]at ht
  rcases ht with rfl | rfl | ht
  ·exact⟨y,by simp,.inl rfl⟩
  ·exact⟨y,by simp,.inr rfl⟩
  ·obtain⟨x,hx,h⟩:=ih t ht
   exact⟨x,by simp[hx],h⟩
theorem totL_le (N:Nat)(l:List (List Int))(h:∀ x∈l,x.length≤N):totL l≤l.length*N:=by
 induction l with
 | nil=>simp[totL]
 | cons x t ih=>
  have h1:=ih (fun y hy=>h y (by simp[hy]))
  have h2:=h x (by simp)
  rw[totL_cons,List.length_cons,Nat.add_mul,Nat.one_mul]
  omega
def wfLit (x:S83):Prop:=(∀ n∈x.f1,-9223372036854775808≤n∧n≤9223372036854775807)∧∀ n∈x.f2,-9223372036854775808≤n∧n≤9223372036854775807
def renT (l:List S83):List S83:=zipN l (rnL [] (flatT l)) l.length
theorem flat_small {s:List Int} {c:List S83} (h:isClause s c=true):c.length≤8∧(∀ t∈flatT c,t.length≤40)∧totL (flatT c)≤900000:=by
 have h1:=isClause_of h
 have h2:∀ t∈flatT c,t.length≤40:=fun t ht=>by
  obtain⟨x,hx,e⟩:=flat_mem c t ht
  have hl:=isLit_of (h1.2 x hx)
  rcases e with rfl | rfl
  ·exact (isTerm_of hl.1).1
  ·exact (isTerm_of hl.2).1
 refine⟨h1.1,h2,?_⟩
 have:=totL_le 40 _ h2
 rw[flat_len]at this
 have:2*c.length*40≤16*40:=Nat.mul_le_mul_right _ (by omega)
 omega
theorem spec_ren_ev {s:List Int} {c:List S83} (h:isClause s c=true):Ev (fun k=>spec_l4Rename.f k c) (renT c):=by
 obtain⟨h1,h2,h3⟩:=flat_small h
 exact spec_l4Rename_ev c (by omega) h3
theorem impl_renameClause_ev (l:List S83)(h1:l.length≤1000)(h2:∀ x∈l,(x.f1.length≤1048576∧∀ n∈x.f1,-9223372036854775808≤n∧n≤9223372036854775807)∧(x.f2.length≤1048576∧∀ n∈x.f2,-9223372036854775808≤n∧n≤9223372036854775807)) :
  Ev (fun k=>impl_renameClause.f k l) (zipN l (rnL [] (flatT l)) l.length):=by
 simp only[impl_renameClause.f]
 refine Ev.bnd1 (by unfold impl_termsOf.f;rw[if_pos (by omega)]) (Ev.bnd1 (impl_rename_eq (flatT l) (by rw[flat_len];omega) (fun t ht=>?_)) (impl_withTerms_ev l _ h1 (by rw[rnL_len,flat_len])))
 obtain⟨x,hx,h | h⟩:=flat_mem l t ht
 ·rw[h];exact (h2 x hx).1
 ·rw[h];exact (h2 x hx).2
theorem impl_ren_ev {s:List Int} {c:List S83} (h:isClause s c=true)(hw:∀ x∈c,wfLit x):Ev (fun k=>impl_renameClause.f k c) (renT c):=by
 have h1:=isClause_of h
 refine impl_renameClause_ev c (by omega) (fun x hx=>?_)
 have hl:=isLit_of (h1.2 x hx)
 have:=(isTerm_of hl.1).1
 have:=(isTerm_of hl.2).1
 exact⟨⟨by omega,(hw x hx).1⟩,⟨by omega,(hw x hx).2⟩⟩
def asc (l:List Int):Prop:=l.Pairwise (·<·)
theorem asc_ext (a:List Int):∀ b:List Int,asc a→asc b→(∀ x,x∈a↔x∈b)→a=b:=by
 induction a with
 | nil=>
  intro b _ _ h
  cases b with
  | nil=>rfl
  | cons y b=>exact absurd ((h y).2 (by simp)) (by simp)
 | cons x a ih=>
  intro b ha hb h
  cases b with
  | nil=>exact absurd ((h x).1 (by simp)) (by simp)
  | cons y b=>
   obtain⟨ha1,ha2⟩:=List.pairwise_cons.1 ha
   obtain⟨hb1,hb2⟩:=List.pairwise_cons.1 hb
   have e:x=y:=by
    rcases List.mem_cons.1 ((h x).1 (by simp)) with e | e
    ·exact e
    ·rcases List.mem_cons.1 ((h y).2 (by simp)) with e2 | e2
     ·exact e2.symm
     ·have:=hb1 x e
      have:=ha1 y e2
      omega
   subst e
   rw[ih b ha2 hb2 (fun z=>?_)]
   constructor
   ·intro hz
    rcases List.mem_cons.1 ((h z).1 (List.mem_cons_of_mem _ hz)) with e | e
    ·have:=ha1 z hz;omega
    ·exact e
   ·intro hz
    rcases List.mem_cons.1 ((h z).2 (List.mem_cons_of_mem _ hz)) with e | e
    ·have:=hb1 z hz;omega
    ·exact e
theorem asc_ins (pre post:List Int)(v:Int)(h:asc (pre++post))(h1:∀ x∈pre,x<v)(h2:∀ x∈post,v<x):asc (pre++v :: post):=by
 unfold asc at h ⊢
 rw[List.pairwise_append]at h ⊢
 refine⟨h.1,List.pairwise_cons.2 ⟨h2,h.2.1⟩,fun a ha b hb=>?_⟩
 rcases List.mem_cons.1 hb with rfl | hb
 ·exact h1 a ha
 ·exact h.2.2 a ha b hb
theorem putA_l0 (v:Int)(post:List Int):∀ (pre:List Int),(pre++post).length≤2097152→asc (pre++post)→(∀ x∈pre,x<v) →
  ∃ r,Ev (fun k=>spec_l1Put.l0 k (pre++post) v (pre.length:Int)) r∧asc r∧(∀ y,y∈r↔y=v∨y∈pre++post)∧r.length≤(pre++post).length+1:=by
 induction post with
 | nil=>
  intro pre hl ha hp
  simp only[List.length_append,List.length_nil]at hl
  refine⟨([]++(pre++[]).take ((pre.length:Int)).toNat++[v])++(pre++[]).drop ((pre.length:Int)).toNat,Ev.succ ?_,?_,fun y=>by simp[or_comm],by simp⟩
  ·simp only[spec_l1Put.l0]
   exact Ev.neg (by simp) (Ev.bnd1 rfl (Ev.pos (by omega) (Ev.pos (by simp) (Ev.bnd1 rfl (Ev.pos (by simp;omega) (Ev.bnd1 rfl (Ev.pos (by simp;omega) (Ev.bnd1 rfl (Ev.bnd1 rfl (Ev.pos (by simp;omega) (Ev.ret _)))))))))))
  ·have:=asc_ins pre [] v ha hp (by simp)
   simpa using this
 | cons x post ih=>
  intro pre hl ha hp
  have hl':=hl
  simp only[List.length_append,List.length_cons]at hl
  have e0:wrap64 ((pre.length:Int)+1)=(pre.length:Int)+1:=w64 (by omega) (by omega)
  by_cases g:x<v
  ·obtain⟨r,h1,h2,h3,h4⟩:=ih (pre++[x]) (by simpa using hl') (by simpa using ha) (fun y hy=>by
    rcases List.mem_append.1 hy with hy | hy
    ·exact hp y hy
    ·rw[List.mem_singleton.1 hy];exact g)
   refine⟨r,Ev.succ ?_,h2,fun y=>by rw[h3];simp,by simpa using h4⟩
   simp only[spec_l1Put.l0]
   refine Ev.pos (by simp only[List.length_append,List.length_cons];omega) (Ev.pos (by omega) ?_)
   rw[rd_mid,e0]
   exact Ev.pos g (by simpa using h1)
  ·by_cases g2:x=v
   ·refine⟨pre++x :: post,Ev.succ ?_,ha,fun y=>⟨fun h=>.inr h,fun h=>?_⟩,by omega⟩
    ·simp only[spec_l1Put.l0]
     refine Ev.pos (by simp only[List.length_append,List.length_cons];omega) (Ev.pos (by omega) ?_)
     rw[rd_mid]
     exact Ev.neg g (Ev.pos g2 (Ev.ret _))
    ·rcases h with rfl | h
     ·simp[g2]
     ·exact h
   ·refine⟨([]++(pre++x :: post).take ((pre.length:Int)).toNat++[v])++(pre++x :: post).drop ((pre.length:Int)).toNat,Ev.succ ?_,?_,fun y=>?_,by simp;omega⟩
    ·simp only[spec_l1Put.l0]
     refine Ev.pos (by simp only[List.length_append,List.length_cons];omega) (Ev.pos (by omega) ?_)
     rw[rd_mid]
     exact Ev.neg g (Ev.neg g2 (Ev.bnd1 rfl (Ev.pos (by simp only[List.length_append,List.length_cons];omega) (Ev.bnd1 rfl (Ev.pos (by simp;omega) (Ev.bnd1 rfl (Ev.pos (by simp;omega) (Ev.bnd1 rfl (Ev.bnd1 rfl (Ev.pos (by simp;omega) (Ev.ret _)))))))))))
    ·have hpost:∀ y∈x :: post,v<y:=fun y hy=>by
      rcases List.mem_cons.1 hy with rfl | hy
      ·omega
      ·unfold asc at ha
       rw[List.pairwise_append]at ha
       have:=(List.pairwise_cons.1 ha.2.1).1 y hy
       omega
     have:=asc_ins pre (x :: post) v ha hp hpost
     simpa using this
    ·simp only[Int.toNat_natCast,List.nil_append,List.take_left',List.drop_left',List.mem_append,List.mem_cons,List.not_mem_nil,or_false]
     constructor
     ·rintro ((h | h) | h | h)
      ·exact .inr (.inl h)
      ·exact .inl h
      ·exact .inr (.inr (.inl h))
      ·exact .inr (.inr (.inr h))
     ·rintro (h | h | h | h)
      ·exact .inl (.inr h)
      ·exact .inl (.inl h)
      ·exact .inr (.inl h)
      ·exact .inr (.inr h)
theorem put_ev (l:List Int)(v:Int)(hl:l.length≤2097152)(ha:asc l):∃ r,Ev (fun k=>spec_l1Put.f k l v) r∧asc r∧(∀ y,y∈r↔y=v∨y∈l)∧r.length≤l.length+1:=by
 obtain⟨r,h1,h2,h3,h4⟩:=putA_l0 v l [] (by simpa using hl) (by simpa using ha) (by simp)
 refine⟨r,?_,h2,by simpa using h3,by simpa using h4⟩
 simp only[spec_l1Put.f]
 simpa using h1
theorem and255 (x:Int):0≤Go.bits .and .u64 x 255∧Go.bits .and .u64 x 255≤255:=by
 simp only[Go.bits,BitVec.toNat_and]
 have h:=Nat.and_le_right (n:=(BitVec.ofInt IntKind.u64.bits x).toNat) (m:=(BitVec.ofInt IntKind.u64.bits 255).toNat)
 have h2:(BitVec.ofInt IntKind.u64.bits 255).toNat=255:=by decide
 rw[h2]at h ⊢
 generalize (BitVec.ofInt IntKind.u64.bits x).toNat &&& 255=y at h
 rw[IntWalk.u64_in _ (by omega)]
 omega
theorem rd_range (l:List Int)(hl:∀ x∈l,0≤x∧x≤255)(i:Int):0≤rd l i∧rd l i≤255:=by
 unfold rd
 rw[List.getD_eq_getElem?_getD]
 cases h:l[i.toNat]? with
 | none=>simp
 | some x=>exact hl x (List.mem_of_getElem? h)
theorem next_ok (l:List Int)(hl:∀ x∈l,0≤x∧x≤255)(a sd:Int)(h0:0≤a)(h1:a≤4611686018427387904):∃ b sd',spec_l1Cur_next.f l a sd=some (b,a+1,sd')∧0≤b∧b≤255:=by
 have hw:wrap64 (a+1)=a+1:=w64 (by omega) (by omega)
 have hr:=rd_range l hl a
 have hrw:wrap64 (rd l a)=rd l a:=w64 (by omega) (by omega)
 unfold spec_l1Cur_next.f
 rw[hw,hrw]
 by_cases g:a<(l.length:Int)
 ·rw[if_pos g,if_pos h0]
  by_cases g2:a+1≤(l.length:Int)
  ·rw[if_pos g2];exact⟨_,_,rfl,hr.1,hr.2⟩
  ·rw[if_neg g2]
   refine⟨_,_,rfl,?_⟩
   have:=and255 ((IntKind.u64.wrap ((IntKind.u64.wrap ((IntKind.u64.wrap (sd*6364136223846793005))+(IntKind.u64.wrap (rd l a))))+1442695040888963407)) / 1099511627776)
   rw[w64 (by omega) (by omega)]
   exact this
 ·rw[if_neg g]
  by_cases g2:a+1≤(l.length:Int)
  ·rw[if_pos g2];exact⟨_,_,rfl,by omega,by omega⟩
  ·rw[if_neg g2]
   refine⟨_,_,rfl,?_⟩
   generalize (IntKind.u64.wrap ((IntKind.u64.wrap (IntKind.u64.wrap (sd*6364136223846793005)))+1442695040888963407)) / 1099511627776=z
   have:=and255 z
   rw[w64 (by omega) (by omega)]
   exact this
theorem pick_ok (l:List Int)(hl:∀ x∈l,0≤x∧x≤255)(a sd n:Int)(h0:0≤a)(h1:a≤4611686018427387000)(hn:n≤1000000000):∃ p a' sd',spec_l1Cur_pick.f l a sd n=some (p,a',sd')∧0≤p∧(1≤n→p<n)∧a≤a'∧a'≤a+2:=by
 unfold spec_l1Cur_pick.f
 by_cases g:n≤1
 ·rw[if_pos g];exact⟨0,a,sd,rfl,by omega,by omega,by omega,by omega⟩
 ·rw[if_neg g]
  obtain⟨b,s1,e1,hb0,hb1⟩:=next_ok l hl a sd h0 (by omega)
  rw[e1]
  simp only[Option.bind_some]
  by_cases g2:n > 200
  ·rw[if_pos g2]
   obtain⟨c,s2,e2,hc0,hc1⟩:=next_ok l hl (a+1) s1 (by omega) (by omega)
   rw[e2]
   simp only[Option.bind_some]
   rw[if_neg (show ¬ n=0 by omega),w64 (x:=b*256) (by omega) (by omega),w64 (x:=b*256+c) (by omega) (by omega)]
   exact⟨_,_,_,rfl,Int.tmod_nonneg _ (by omega),fun _=>Int.tmod_lt_of_pos _ (by omega),by omega,by omega⟩
  ·rw[if_neg g2,if_neg (show ¬ n=0 by omega)]
   exact⟨_,_,_,rfl,Int.tmod_nonneg _ (by omega),fun _=>Int.tmod_lt_of_pos _ (by omega),by omega,by omega⟩
theorem one_ok (l:List Int)(hl:∀ x∈l,0≤x∧x≤255)(a sd n:Int)(h0:0≤a)(h1:a≤4611686018427387000)(hn:n≤1000000000):∃ b a' sd',spec_l1Cur_one.f l a sd n=some (b,a',sd')∧a≤a'∧a'≤a+2:=by
 obtain⟨p,a1,s1,e1,hp0,hp1,ha1,ha2⟩:=pick_ok l hl a sd n h0 h1 hn
 exact⟨_,a1,s1,by unfold spec_l1Cur_one.f;rw[e1];rfl,ha1,ha2⟩
def LT:Nat→Nat
 | 0=>1
 | d+1=>1+3*LT d
def SR (s:List Int):Prop:=s.length≤6∧∀ i:Int,0≤rd s i∧rd s i≤3
theorem SR_of (s:List Int)(h1:s.length≤6)(h2:∀ x∈s,0≤x∧x≤3):SR s:=by
 refine⟨h1,fun i=>?_⟩
 unfold rd
 rw[List.getD_eq_getElem?_getD]
 cases h:s[i.toNat]? with
 | none=>simp
 | some x=>exact h2 x (List.mem_of_getElem? h)
def Bs (l:List Int):Prop:=∀ x∈l,0≤x∧x≤255
theorem sign_ok (l:List Int)(hl:Bs l)(a sd:Int)(h0:0≤a)(h1:a≤4000000000000000000):∃ s a' sd',spec_l1Cur_sign.f l a sd=some (s,a',sd')∧SR s∧a≤a'∧a'≤a+2:=by
 obtain⟨p,a1,s1,e1,_,_,q1,q2⟩:=pick_ok l hl a sd 40 h0 (by omega) (by omega)
 unfold spec_l1Cur_sign.f
 rw[e1]
 simp only[Option.bind_some]
 by_cases g0:p=0
 ·rw[if_pos g0];exact⟨_,_,_,rfl,SR_of _ (by decide) (by decide),q1,q2⟩
 ·rw[if_neg g0]
  by_cases g1:p=1
  ·rw[if_pos g1];exact⟨_,_,_,rfl,SR_of _ (by decide) (by decide),q1,q2⟩
  ·rw[if_neg g1]
   by_cases g2:p=2
   ·rw[if_pos g2];exact⟨_,_,_,rfl,SR_of _ (by decide) (by decide),q1,q2⟩
   ·rw[if_neg g2];exact⟨_,_,_,rfl,SR_of _ (by decide) (by decide),q1,q2⟩
theorem among_ok (l:List Int)(hl:Bs l)(a sd:Int)(xs:List Int)(hx:1≤xs.length∧xs.length≤1000)(h0:0≤a)(h1:a≤4000000000000000000):∃ x a' sd',spec_l1Cur_among.f l a sd xs=some (x,a',sd')∧x∈xs∧a≤a'∧a'≤a+2:=by
 obtain⟨p,a1,s1,e1,p0,p1,q1,q2⟩:=pick_ok l hl a sd (xs.length:Int) h0 (by omega) (by omega)
 have hp:=p1 (by omega)
 unfold spec_l1Cur_among.f
 rw[e1]
 simp only[Option.bind_some]
 rw[if_pos p0,if_pos hp]
 refine⟨_,_,_,rfl,?_,q1,q2⟩
 unfold rd
 rw[List.getD_eq_getElem?_getD,List.getElem?_eq_getElem (by omega)]
 exact List.getElem_mem _
theorem LT_pos (d:Nat):1≤LT d:=by cases d <;> simp[LT]
theorem LT_le (d:Nat)(h:d≤3):LT d≤40:=by
 match d,h with
 | 0,_=>decide
 | 1,_=>decide
 | 2,_=>decide
 | 3,_=>decide
theorem term_top (l:List Int)(hl:Bs l)(s:List Int)(hs:SR s)(v:Int)(hv:v≤1000)(dp a sd:Int)(X Y:Nat)(hX:1≤X)(h0:0≤a)(h1:a+6+Y≤4000000000000000000)
  (HL:∀ n a1 s1:Int,0≤n→n<s.length→(dp≤1→rd s n≤0)→a≤a1→a1≤a+6→∃ r a' sd',Ev (fun k=>spec_l1Cur_term.l0 k dp v [n] (rd s n) l a1 s1 s) (r,a',sd')∧1≤r.length∧r.length≤X∧a1≤a'∧a'≤a1+Y) :
  ∃ r a' sd',Ev (fun k=>spec_l1Cur_term.f k l a sd s dp v) (r,a',sd')∧1≤r.length∧r.length≤X∧a≤a'∧a'≤a+6+Y:=by
 by_cases gs:(s.length:Int)=0
 ·refine⟨[0],a,sd,Ev.succ ?_,by simp,by simpa using hX,by omega,by omega⟩
  simp only[spec_l1Cur_term.f]
  exact Ev.pos gs (Ev.ret _)
 have hsl:=hs.1
 have H3:∀ (n a1 s1:Int) (b:Bool),0≤n→n<s.length→(b=false→dp≤1→rd s n≤0)→a≤a1→a1≤a+6→∃ r a' sd',Ev (fun k=>spec_l1Cur_term.j3 k dp v n b l a1 s1 s) (r,a',sd')∧1≤r.length∧r.length≤X∧a≤a'∧a'≤a+6+Y:=by
  intro n a1 s1 b n0 n1 hb q1 q2
  cases b with
  | true=>
   refine⟨[0],a1,s1,Ev.succ ?_,by simp,by simpa using hX,by omega,by omega⟩
   simp only[spec_l1Cur_term.j3]
   exact Ev.pos (by simp) (Ev.ret _)
  | false=>
   obtain⟨r,a',sd',e,t1,t2,t3,t4⟩:=HL n a1 s1 n0 n1 (hb rfl) q1 q2
   refine⟨r,a',sd',Ev.succ ?_,t1,t2,by omega,by omega⟩
   simp only[spec_l1Cur_term.j3]
   exact Ev.neg (by simp) (Ev.pos n0 (Ev.pos n1 e))
 have H2:∀ (n a1 s1:Int),0≤n→n<s.length→a≤a1→a1≤a+6→∃ r a' sd',Ev (fun k=>spec_l1Cur_term.j2 k dp v n l a1 s1 s) (r,a',sd')∧1≤r.length∧r.length≤X∧a≤a'∧a'≤a+6+Y:=by
  intro n a1 s1 n0 n1 q1 q2
  by_cases g:rd s n > 0
  ·obtain⟨r,a',sd',e,t⟩:=H3 n a1 s1 (decide (dp≤1)) n0 n1 (fun h h2=>absurd h2 (of_decide_eq_false h)) q1 q2
   refine⟨r,a',sd',Ev.succ ?_,t⟩
   simp only[spec_l1Cur_term.j2]
   exact Ev.pos n0 (Ev.pos n1 (Ev.pos g e))
  ·obtain⟨r,a',sd',e,t⟩:=H3 n a1 s1 false n0 n1 (fun _ _=>by omega) q1 q2
   refine⟨r,a',sd',Ev.succ ?_,t⟩
   simp only[spec_l1Cur_term.j2]
   exact Ev.pos n0 (Ev.pos n1 (Ev.neg g e))
 have H1:∀ (n a1 s1:Int) (b:Bool),0≤n→n<s.length→a≤a1→a1≤a+4→∃ r a' sd',Ev (fun k=>spec_l1Cur_term.j1 k dp v n b l a1 s1 s) (r,a',sd')∧1≤r.length∧r.length≤X∧a≤a'∧a'≤a+6+Y:=by
  intro n a1 s1 b n0 n1 q1 q2
  cases b with
  | false=>
   obtain⟨r,a',sd',e,t⟩:=H2 n a1 s1 n0 n1 q1 (by omega)
   refine⟨r,a',sd',Ev.succ ?_,t⟩
   simp only[spec_l1Cur_term.j1]
   exact Ev.neg (by simp) e
  | true=>
   obtain⟨p,a2,s2,e2,p0,p1,r1,r2⟩:=pick_ok l hl a1 s1 (s.length:Int) (by omega) (by omega) (by omega)
   have hp:=p1 (by omega)
   have hd0:0≤Int.tdiv p 2:=Int.tdiv_nonneg p0 (by omega)
   have hd1:Int.tdiv p 2≤p:=by rw[Int.tdiv_eq_ediv_of_nonneg p0];omega
   obtain⟨r,a',sd',e,t⟩:=H2 (Int.tdiv p 2) a2 s2 hd0 (by omega) (by omega) (by omega)
   refine⟨r,a',sd',Ev.succ ?_,t⟩
   simp only[spec_l1Cur_term.j1]
   refine Ev.pos (by simp) (Ev.bnd1 e2 ?_)
   simp only
   rw[w64 (by omega) (by omega)]
   exact e
 have H0:∀ (a1 s1:Int) (b:Bool),a≤a1→a1≤a+2→∃ r a' sd',Ev (fun k=>spec_l1Cur_term.j0 k dp v b l a1 s1 s) (r,a',sd')∧1≤r.length∧r.length≤X∧a≤a'∧a'≤a+6+Y:=by
  intro a1 s1 b q1 q2
  cases b with
  | true=>
   obtain⟨p,a2,s2,e2,p0,p1,r1,r2⟩:=pick_ok l hl a1 s1 v (by omega) (by omega) (by omega)
   refine⟨[wrap64 (-1 - p)],a2,s2,Ev.succ ?_,by simp,by simpa using hX,by omega,by omega⟩
   simp only[spec_l1Cur_term.j0]
   exact Ev.pos (by simp) (Ev.bnd1 e2 (Ev.ret _))
  | false=>
   obtain⟨p,a2,s2,e2,p0,p1,r1,r2⟩:=pick_ok l hl a1 s1 (s.length:Int) (by omega) (by omega) (by omega)
   have hp:=p1 (by omega)
   by_cases g:rd s p > 0
   ·obtain⟨r,a',sd',e,t⟩:=H1 p a2 s2 (decide (dp≤1)) p0 hp (by omega) (by omega)
    refine⟨r,a',sd',Ev.succ ?_,t⟩
    simp only[spec_l1Cur_term.j0]
    exact Ev.neg (by simp) (Ev.bnd1 e2 (Ev.pos p0 (Ev.pos hp (Ev.pos g e))))
   ·obtain⟨r,a',sd',e,t⟩:=H1 p a2 s2 false p0 hp (by omega) (by omega)
    refine⟨r,a',sd',Ev.succ ?_,t⟩
    simp only[spec_l1Cur_term.j0]
    exact Ev.neg (by simp) (Ev.bnd1 e2 (Ev.pos p0 (Ev.pos hp (Ev.neg g e))))
 by_cases gv:v > 0
 ·obtain⟨b,a1,s1,e1,q1,q2⟩:=one_ok l hl a sd 3 h0 (by omega) (by omega)
  obtain⟨r,a',sd',e,t⟩:=H0 a1 s1 b q1 q2
  refine⟨r,a',sd',Ev.succ ?_,t⟩
  simp only[spec_l1Cur_term.f]
  exact Ev.neg gs (Ev.pos gv (Ev.bnd1 e1 e))
 ·obtain⟨r,a',sd',e,t⟩:=H0 a sd false (by omega) (by omega)
  refine⟨r,a',sd',Ev.succ ?_,t⟩
  simp only[spec_l1Cur_term.f]
  exact Ev.neg gs (Ev.neg gv e)
theorem term_ok (l:List Int)(hl:Bs l)(s:List Int)(hs:SR s)(v:Int)(hv:v≤1000)(d:Nat):∀ (a sd dp:Int),d≤3→0≤a→a+8*LT d≤4000000000000000000→dp≤d+1 → -1000≤dp →
  ∃ r a' sd',Ev (fun k=>spec_l1Cur_term.f k l a sd s dp v) (r,a',sd')∧1≤r.length∧r.length≤LT d∧a≤a'∧a'≤a+8*LT d:=by
 have flat:∀ (dp n a1 s1:Int),rd s n≤0→∃ r a' sd',Ev (fun k=>spec_l1Cur_term.l0 k dp v [n] (rd s n) l a1 s1 s) (r,a',sd')∧1≤r.length∧r.length≤1∧a1≤a'∧a'≤a1+0:=by
  intro dp n a1 s1 h
  refine⟨[n],a1,s1,Ev.succ ?_,by simp,by simp,by omega,by omega⟩
  simp only[spec_l1Cur_term.l0]
  exact Ev.neg (by omega) (Ev.ret _)
 induction d with
 | zero=>
  intro a sd dp _ h0 h1 hd hd2
  obtain⟨r,a',sd',e,t1,t2,t3,t4⟩:=term_top l hl s hs v hv dp a sd 1 0 (Nat.le_refl _) h0 (by simp only[LT]at h1;omega) (fun n a1 s1 _ _ h _ _=>flat dp n a1 s1 (h (by omega)))
  exact⟨r,a',sd',e,t1,by simp only[LT];omega,t3,by simp only[LT];omega⟩
 | succ d ih=>
  intro a sd dp hd3 h0 h1 hd hd2
  have hp:=LT_pos d
  have h1':a+8*(1+3*LT d:Nat)≤4000000000000000000:=h1
  obtain⟨r,a',sd',e,t1,t2,t3,t4⟩:=term_top l hl s hs v hv dp a sd (1+3*LT d) (24*LT d) (by omega) h0 (by omega) (fun n a1 s1 n0 n1 h q1 q2=>by
   have loop:∀ (m:Nat) (out:List Int) (b1 t1:Int),m≤3→out.length+m*40≤1000→a≤b1→b1+(8*LT d*m:Nat)≤a+6+(24*LT d:Nat) →
     ¬ dp≤1→∃ r a' sd',Ev (fun k=>spec_l1Cur_term.l0 k dp v out (m:Int) l b1 t1 s) (r,a',sd')∧out.length≤r.length∧r.length≤out.length+m*LT d∧b1≤a'∧a'≤b1+(8*LT d*m:Nat):=by
    intro m
    induction m with
    | zero=>
     intro out b1 t1 _ _ _ _ _
     refine⟨out,b1,t1,Ev.succ ?_,Nat.le_refl _,by omega,by omega,by omega⟩
     simp only[spec_l1Cur_term.l0]
     exact Ev.neg (by omega) (Ev.ret _)
    | succ m ihm=>
     intro out b1 t1 hm ho hb hb2 hdp
     have hmul:8*LT d*(m+1)=8*LT d*m+8*LT d:=Nat.mul_succ _ _
     have hmul2:(m+1)*LT d=m*LT d+LT d:=Nat.succ_mul _ _
     rw[hmul]at hb2 ⊢
     rw[hmul2]
     have hLT:=LT_le d (by omega)
     obtain⟨r,c1,u1,e,x1,x2,x3,x4⟩:=ih b1 t1 (dp - 1) (by omega) (by omega) (by omega) (by omega) (by omega)
     obtain⟨r2,c2,u2,e2,y1,y2,y3,y4⟩:=ihm (out++r) c1 u1 (by omega) (by rw[List.length_append];omega) (by omega) (by omega) hdp
     rw[List.length_append]at y1 y2
     refine⟨r2,c2,u2,Ev.succ ?_,by omega,by omega,by omega,by omega⟩
     simp only[spec_l1Cur_term.l0]
     rw[w64 (x:=dp - 1) (by omega) (by omega),w64 (x:=((m+1:Nat):Int) - 1) (by omega) (by omega),show ((m+1:Nat):Int) - 1=(m:Int) by omega]
     exact Ev.pos (by omega) (Ev.bnd e (Ev.pos (by simp only;omega) e2))
   have hr:=hs.2 n
   by_cases g:dp≤1
   ·obtain⟨r,a',sd',e,t1,t2,t3,t4⟩:=flat dp n a1 s1 (h g)
    exact⟨r,a',sd',e,t1,by omega,t3,by omega⟩
   ·obtain⟨m,hm⟩:∃ m:Nat,rd s n=(m:Int):=⟨(rd s n).toNat,by omega⟩
    have hmm:8*LT d*m≤24*LT d:=by
     have:8*LT d*m≤8*LT d*3:=Nat.mul_le_mul_left _ (by omega)
     omega
    have hm3:m*LT d≤3*LT d:=Nat.mul_le_mul_right _ (by omega)
    obtain⟨r,a',sd',e,t1,t2,t3,t4⟩:=loop m [n] a1 s1 (by omega) (by rw[List.length_singleton];omega) q1 (by omega) g
    rw[List.length_singleton]at t1 t2
    exact⟨r,a',sd',by rw[hm];exact e,t1,by omega,t3,by omega⟩)
  refine⟨r,a',sd',e,t1,t2,t3,?_⟩
  show a'≤a+8*(1+3*LT d:Nat)
  omega
theorem pw_le (n a:Nat)(h1:n≤4)(h2:a≤3):n ^ a≤64:=by
 calc n ^ a≤4 ^ a:=Nat.pow_le_pow_left h1 a
  _≤4 ^ 3:=Nat.pow_le_pow_right (by omega) h2
  _=64:=by decide
def LS (x:S83):Prop:=x.f1.length≤40∧x.f2.length≤40
theorem lit_ok (l:List Int)(hl:Bs l)(s:List Int)(hs:SR s)(a sd:Int)(h0:0≤a)(h1:a≤2000000000000000000) :
  ∃ (b:Bool) (t u:List Int) (a' sd':Int),Ev (fun k=>spec_l1Cur_lit.f k l a sd s) (b,t,u,a',sd')∧t.length≤40∧u.length≤40∧a≤a'∧a'≤a+400:=by
 obtain⟨b,a1,s1,e1,q1,q2⟩:=one_ok l hl a sd 3 h0 (by omega) (by omega)
 obtain⟨p,a2,s2,e2,p0,p1,q3,q4⟩:=pick_ok l hl a1 s1 3 (by omega) (by omega) (by omega)
 have hp:=p1 (by omega)
 obtain⟨t,a3,s3,e3,t1,t2,t3,t4⟩:=term_ok l hl s hs 3 (by omega) 2 a2 s2 (1+p) (by omega) (by omega) (by show a2+8*(13:Nat)≤_;omega) (by omega) (by omega)
 have t2':t.length≤13:=t2
 have t4':a3≤a2+8*(13:Nat):=t4
 obtain⟨q,a4,s4,e4,p0',p1',q5,q6⟩:=pick_ok l hl a3 s3 2 (by omega) (by omega) (by omega)
 have hq:=p1' (by omega)
 obtain⟨u,a5,s5,e5,u1,u2,u3,u4⟩:=term_ok l hl s hs 3 (by omega) 2 a4 s4 (1+q) (by omega) (by omega) (by show a4+8*(13:Nat)≤_;omega) (by omega) (by omega)
 have u2':u.length≤13:=u2
 have u4':a5≤a4+8*(13:Nat):=u4
 obtain⟨c,a6,s6,e6,q7,q8⟩:=one_ok l hl a5 s5 3 (by omega) (by omega) (by omega)
 have hw1:wrap64 (1+p)=1+p:=w64 (by omega) (by omega)
 have hw2:wrap64 (1+q)=1+q:=w64 (by omega) (by omega)
 have key:∀ R:Bool × List Int × List Int × Int × Int,Ev (fun k=>if c=true then some (!b,t,([0]:List Int),a6,s6) else some (!b,t,u,a6,s6)) R→Ev (fun k=>spec_l1Cur_lit.f k l a sd s) R:=fun R h=>by
  simp only[spec_l1Cur_lit.f]
  refine Ev.bnd1 e1 (Ev.bnd1 e2 ?_)
  simp only[hw1]
  refine Ev.bnd e3 (Ev.bnd1 e4 ?_)
  simp only[hw2]
  exact Ev.bnd e5 (Ev.bnd1 e6 h)
 clear hw1 hw2
 by_cases g:c=true
 ·exact⟨_,_,_,_,_,key _ (Ev.pos g (Ev.ret _)),by omega,by simp,by omega,by omega⟩
 ·exact⟨_,_,_,_,_,key _ (Ev.neg g (Ev.ret _)),by omega,by omega,by omega,by omega⟩
def CB (c:List S83)(n:Nat):Prop:=c.length≤n∧∀ x∈c,LS x
theorem CB_snoc {c:List S83} {n:Nat} (h:CB c n)(x:S83)(hx:LS x):CB (c++[x]) (n+1):=by
 refine⟨by have:=h.1;rw[List.length_append,List.length_singleton];omega,fun y hy=>?_⟩
 rcases List.mem_append.1 hy with hy | hy
 ·exact h.2 y hy
 ·rw[List.mem_singleton]at hy;rw[hy];exact hx
theorem CB_rd {c:List S83} {n:Nat} (h:CB c n)(i:Int):LS (rd_T83 c i):=by
 unfold rd_T83
 rw[List.getD_eq_getElem?_getD]
 cases e:c[i.toNat]? with
 | none=>exact⟨by decide,by decide⟩
 | some x=>exact h.2 x (List.mem_of_getElem? e)
def ClOK (l:List Int)(a:Int)(N:Int)(g:Nat→Option (List S83 × Int × Int)):Prop:=∃ (r:List S83) (a' sd':Int),Ev g (r,a',sd')∧CB r 12∧a≤a'∧a'≤N
theorem cl_l1 (l:List Int)(hl:Bs l)(s:List Int)(hs:SR s)(m:Nat):∀ (c:List S83) (a sd:Int),c.length+m=9→CB c 9→0≤a→a+500*m+2≤1000000000000000000→ClOK l a (a+500*m+2) (fun k=>spec_l1Cur_clause.l1 k c l a sd s):=by
 induction m with
 | zero=>
  intro c a sd hm hc h0 h1
  obtain⟨p,a1,s1,e1,p0,p1,q1,q2⟩:=pick_ok l hl a sd 2 h0 (by omega) (by omega)
  have hp:=p1 (by omega)
  refine⟨c,a1,s1,Ev.succ ?_,⟨by omega,hc.2⟩,by omega,by omega⟩
  simp only[spec_l1Cur_clause.l1]
  refine Ev.bnd1 e1 (Ev.neg ?_ (Ev.ret _))
  simp only
  rw[w64 (by omega) (by omega)];omega
 | succ m ih=>
  intro c a sd hm hc h0 h1
  obtain⟨p,a1,s1,e1,p0,p1,q1,q2⟩:=pick_ok l hl a sd 2 h0 (by omega) (by omega)
  have hp:=p1 (by omega)
  by_cases g:(c.length:Int)<8+p
  ·obtain⟨b,t,u,a2,s2,e2,t1,t2,q3,q4⟩:=lit_ok l hl s hs a1 s1 (by omega) (by omega)
   have hcs:=CB_snoc hc (⟨b,t,u⟩:S83) ⟨t1,t2⟩
   obtain⟨r,a',sd',e,r1,r2,r3⟩:=ih (c++[(⟨b,t,u⟩:S83)]) a2 s2 (by rw[List.length_append,List.length_singleton];omega) ⟨by rw[List.length_append,List.length_singleton];omega,hcs.2⟩ (by omega) (by omega)
   refine⟨r,a',sd',Ev.succ ?_,r1,by omega,by omega⟩
   simp only[spec_l1Cur_clause.l1]
   refine Ev.bnd1 e1 (Ev.pos ?_ (Ev.bnd e2 (Ev.pos (by omega) e)))
   simp only
   rw[w64 (by omega) (by omega)];exact g
  ·refine⟨c,a1,s1,Ev.succ ?_,⟨by omega,hc.2⟩,by omega,by omega⟩
   simp only[spec_l1Cur_clause.l1]
   refine Ev.bnd1 e1 (Ev.neg ?_ (Ev.ret _))
   simp only
   rw[w64 (by omega) (by omega)];exact g
theorem cl_j4 (l:List Int)(hl:Bs l)(s:List Int)(hs:SR s)(c:List S83)(hc:CB c 5)(a sd:Int)(h0:0≤a)(h1:a≤100000000000000000):ClOK l a (a+6000) (fun k=>spec_l1Cur_clause.j4 k c l a sd s):=by
 have hlen:=hc.1
 obtain⟨p,a1,s1,e1,p0,p1,q1,q2⟩:=pick_ok l hl a sd 60 h0 (by omega) (by omega)
 by_cases g0:p=0
 ·obtain⟨r,a',sd',e,r1,r2,r3⟩:=cl_l1 l hl s hs (9 - c.length) c a1 s1 (by omega) ⟨by omega,hc.2⟩ (by omega) (by omega)
  refine⟨r,a',sd',Ev.succ ?_,r1,by omega,by omega⟩
  simp only[spec_l1Cur_clause.j4]
  exact Ev.bnd1 e1 (Ev.pos g0 e)
 ·by_cases g1:p=1
  ·have hcs:=CB_snoc hc (⟨false,[0],[]⟩:S83) ⟨by decide,by decide⟩
   refine⟨_,a1,s1,Ev.succ ?_,⟨by have:=hcs.1;omega,hcs.2⟩,by omega,by omega⟩
   simp only[spec_l1Cur_clause.j4]
   exact Ev.bnd1 e1 (Ev.neg g0 (Ev.pos g1 (Ev.pos (by omega) (Ev.ret _))))
  ·refine⟨c,a1,s1,Ev.succ ?_,⟨by omega,hc.2⟩,by omega,by omega⟩
   simp only[spec_l1Cur_clause.j4]
   exact Ev.bnd1 e1 (Ev.neg g0 (Ev.neg g1 (Ev.ret _)))
theorem cl_j3 (l:List Int)(hl:Bs l)(s:List Int)(hs:SR s)(c:List S83)(hc:CB c 5)(b:Bool)(hb:b=true→0<c.length)(a sd:Int)(h0:0≤a)(h1:a≤100000000000000000):ClOK l a (a+6000) (fun k=>spec_l1Cur_clause.j3 k c b l a sd s):=by
 cases b with
 | true=>
  have hr:=CB_rd hc 0
  have hc2:CB (c.set (0:Int).toNat (⟨(rd_T83 c 0).f0,(rd_T83 c 0).f1,(rd_T83 c 0).f1⟩:S83)) 5:=⟨by rw[List.length_set];exact hc.1,fun x hx=>by
   rcases List.mem_or_eq_of_mem_set hx with h | h
   ·exact hc.2 x h
   ·rw[h];exact⟨hr.1,hr.1⟩⟩
  obtain⟨r,a',sd',e,t⟩:=cl_j4 l hl s hs _ hc2 a sd h0 h1
  refine⟨r,a',sd',Ev.succ ?_,t⟩
  simp only[spec_l1Cur_clause.j3]
  exact Ev.pos (by simp) (Ev.pos (by have:=hb rfl;omega) e)
 | false=>
  obtain⟨r,a',sd',e,t⟩:=cl_j4 l hl s hs c hc a sd h0 h1
  refine⟨r,a',sd',Ev.succ ?_,t⟩
  simp only[spec_l1Cur_clause.j3]
  exact Ev.neg (by simp) e
theorem cl_j2 (l:List Int)(hl:Bs l)(s:List Int)(hs:SR s)(c:List S83)(hc:CB c 5)(a sd:Int)(h0:0≤a)(h1:a≤90000000000000000):ClOK l a (a+6100) (fun k=>spec_l1Cur_clause.j2 k c l a sd s):=by
 by_cases g:(c.length:Int) > 0
 ·obtain⟨b,a1,s1,e1,q1,q2⟩:=one_ok l hl a sd 12 h0 (by omega) (by omega)
  obtain⟨r,a',sd',e,t1,t2,t3⟩:=cl_j3 l hl s hs c hc b (fun _=>by omega) a1 s1 (by omega) (by omega)
  refine⟨r,a',sd',Ev.succ ?_,t1,by omega,by omega⟩
  simp only[spec_l1Cur_clause.j2]
  exact Ev.pos g (Ev.bnd1 e1 e)
 ·obtain⟨r,a',sd',e,t1,t2,t3⟩:=cl_j3 l hl s hs c hc false (by simp) a sd (by omega) (by omega)
  refine⟨r,a',sd',Ev.succ ?_,t1,by omega,by omega⟩
  simp only[spec_l1Cur_clause.j2]
  exact Ev.neg g e
theorem cl_j1 (l:List Int)(hl:Bs l)(s:List Int)(hs:SR s)(c:List S83)(hc:CB c 4)(b:Bool)(hb:b=true→0<c.length)(a sd:Int)(h0:0≤a)(h1:a≤80000000000000000):ClOK l a (a+6200) (fun k=>spec_l1Cur_clause.j1 k c b l a sd s):=by
 have hlen:=hc.1
 cases b with
 | true=>
  have hpos:=hb rfl
  obtain⟨p,a1,s1,e1,p0,p1,q1,q2⟩:=pick_ok l hl a sd (c.length:Int) h0 (by omega) (by omega)
  have hp:=p1 (by omega)
  obtain⟨z,a2,s2,e2,q3,q4⟩:=one_ok l hl a1 s1 3 (by omega) (by omega) (by omega)
  have hr:=CB_rd hc p
  obtain⟨r,a',sd',e,t1,t2,t3⟩:=cl_j2 l hl s hs _ (CB_snoc hc (⟨((rd_T83 c p).f0 != z),(rd_T83 c p).f2,(rd_T83 c p).f1⟩:S83) ⟨hr.2,hr.1⟩) a2 s2 (by omega) (by omega)
  refine⟨r,a',sd',Ev.succ ?_,t1,by omega,by omega⟩
  simp only[spec_l1Cur_clause.j1]
  exact Ev.pos (by simp) (Ev.bnd1 e1 (Ev.pos p0 (Ev.pos hp (Ev.bnd1 e2 (Ev.pos (by omega) e)))))
 | false=>
  obtain⟨r,a',sd',e,t1,t2,t3⟩:=cl_j2 l hl s hs c ⟨by omega,hc.2⟩ a sd (by omega) (by omega)
  refine⟨r,a',sd',Ev.succ ?_,t1,by omega,by omega⟩
  simp only[spec_l1Cur_clause.j1]
  exact Ev.neg (by simp) e
theorem cl_l0 (l:List Int)(hl:Bs l)(s:List Int)(hs:SR s)(m:Nat):∀ (c:List S83) (n:Nat) (a sd:Int),n+m≤4→CB c n→0≤a→a+500*m≤70000000000000000→ClOK l a (a+500*m+6300) (fun k=>spec_l1Cur_clause.l0 k c (m:Int) l a sd s):=by
 induction m with
 | zero=>
  intro c n a sd hn hc h0 h1
  have hlen:=hc.1
  by_cases g:(c.length:Int) > 0
  ·obtain⟨b,a1,s1,e1,q1,q2⟩:=one_ok l hl a sd 6 h0 (by omega) (by omega)
   obtain⟨r,a',sd',e,t1,t2,t3⟩:=cl_j1 l hl s hs c ⟨by omega,hc.2⟩ b (fun _=>by omega) a1 s1 (by omega) (by omega)
   refine⟨r,a',sd',Ev.succ ?_,t1,by omega,by omega⟩
   simp only[spec_l1Cur_clause.l0]
   exact Ev.neg (by omega) (Ev.pos g (Ev.bnd1 e1 e))
  ·obtain⟨r,a',sd',e,t1,t2,t3⟩:=cl_j1 l hl s hs c ⟨by omega,hc.2⟩ false (by simp) a sd (by omega) (by omega)
   refine⟨r,a',sd',Ev.succ ?_,t1,by omega,by omega⟩
   simp only[spec_l1Cur_clause.l0]
   exact Ev.neg (by omega) (Ev.neg g e)
 | succ m ih=>
  intro c n a sd hn hc h0 h1
  have hlen:=hc.1
  obtain⟨b,t,u,a2,s2,e2,t1,t2,q3,q4⟩:=lit_ok l hl s hs a sd (by omega) (by omega)
  obtain⟨r,a',sd',e,r1,r2,r3⟩:=ih (c++[(⟨b,t,u⟩:S83)]) (n+1) a2 s2 (by omega) (CB_snoc hc _ ⟨t1,t2⟩) (by omega) (by omega)
  refine⟨r,a',sd',Ev.succ ?_,r1,by omega,by omega⟩
  simp only[spec_l1Cur_clause.l0]
  rw[w64 (x:=((m+1:Nat):Int) - 1) (by omega) (by omega),show ((m+1:Nat):Int) - 1=(m:Int) by omega]
  exact Ev.pos (by omega) (Ev.bnd e2 (Ev.pos (by omega) e))
theorem clause_ok (l:List Int)(hl:Bs l)(s:List Int)(hs:SR s)(a sd:Int)(h0:0≤a)(h1:a≤10000000000000000):ClOK l a (a+10000) (fun k=>spec_l1Cur_clause.f k l a sd s):=by
 obtain⟨x,a1,s1,e1,hx,q1,q2⟩:=among_ok l hl a sd [0,1,1,1,2,2,3] (by decide) h0 (by omega)
 have hx3:0≤x∧x≤3:=by simp at hx;omega
 obtain⟨m,hm⟩:∃ m:Nat,x=(m:Int):=⟨x.toNat,by omega⟩
 subst hm
 obtain⟨r,a',sd',e,t1,t2,t3⟩:=cl_l0 l hl s hs m [] 0 a1 s1 (by omega) ⟨by simp,by simp⟩ (by omega) (by omega)
 refine⟨r,a',sd',?_,t1,by omega,by omega⟩
 simp only[spec_l1Cur_clause.f]
 exact Ev.bnd1 e1 e
structure WF (s:List Int) (sz:Nat) (tb:List (List Int)) (env:List Int):Prop where
 gs:goodSign s=true
 s1:1≤sz
 s3:sz≤3
 tl:tb.length=s.length
 tlen:∀ n:Nat,n<s.length→(rd_L2 tb (n:Int)).length=sz ^ (rd s (n:Int)).toNat
 tin:∀ n:Nat,n<s.length→∀ x∈rd_L2 tb (n:Int),0≤x∧x≤(sz:Int) - 1
 el:env.length=12
 ein:∀ x∈env,0≤x∧x≤(sz:Int) - 1
def evs (s:List Int)(sz:Nat)(tb:List (List Int))(env:List Int):Nat→Nat→Int→List Int→Int × List Int
 | 0,_,i,t=>(i,t)
 | _+1,0,i,t=>(i,t)
 | _+1,_+1,i,[]=>(i,[])
 | f+1,m+1,i,n :: t=>if n<0 then evs s sz tb env f m (i*sz+rd env (-1 - n)) t else evs s sz tb env f m (i*sz+rd (rd_L2 tb n) (evs s sz tb env f (ar s n) 0 t).1) (evs s sz tb env f (ar s n) 0 t).2
theorem rd_in (l:List Int)(lo hi:Int)(h:∀ x∈l,lo≤x∧x≤hi)(i:Int)(h0:0≤i)(h1:i<l.length):lo≤rd l i∧rd l i≤hi:=by
 unfold rd
 rw[List.getD_eq_getElem?_getD,List.getElem?_eq_getElem (by omega)]
 exact h _ (List.getElem_mem _)
theorem ar_neg (s:List Int)(n:Int)(h:n<0):ar s n=0:=by unfold ar;rw[if_pos h]
theorem WF_tab {s:List Int} {sz:Nat} {tb:List (List Int)} {env:List Int} (w:WF s sz tb env) {n:Int} (h0:0≤n)(ht:tok s n=true):n<s.length∧(rd_L2 tb n).length=sz ^ ar s n∧∀ x∈rd_L2 tb n,0≤x∧x≤(sz:Int) - 1:=by
 have hn:n<s.length:=by unfold tok at ht;simp only[decide_eq_true_eq]at ht;exact ht.2
 obtain⟨m,hm⟩:∃ m:Nat,n=(m:Int):=⟨n.toNat,by omega⟩
 subst hm
 refine⟨hn,?_,w.tin m (by omega)⟩
 rw[w.tlen m (by omega)]
 unfold ar
 rw[if_neg (by omega)]
theorem WF_env {s:List Int} {sz:Nat} {tb:List (List Int)} {env:List Int} (w:WF s sz tb env) {n:Int} (h0:n<0)(ht:tok s n=true):0 ≤ -1 - n ∧ -1 - n<env.length∧0≤rd env (-1 - n)∧rd env (-1 - n)≤(sz:Int) - 1:=by
 have hn:-12≤n:=by unfold tok at ht;simp only[decide_eq_true_eq]at ht;exact ht.1
 have hl:=w.el
 have:=rd_in env 0 _ w.ein (-1 - n) (by omega) (by omega)
 exact⟨by omega,by omega,this.1,this.2⟩
theorem step_in {sz:Nat} (h1:1≤sz) {i v:Int} {j:Nat} (hi:0≤i∧i<((sz ^ j:Nat):Int))(hv:0≤v∧v≤(sz:Int) - 1):0≤i*sz+v∧i*sz+v<((sz ^ (j+1):Nat):Int):=by
 obtain⟨a,ha⟩:∃ a:Nat,i=(a:Int):=⟨i.toNat,by omega⟩
 subst ha
 have h2:a+1≤sz ^ j:=by omega
 have h3:(a+1)*sz≤sz ^ j*sz:=Nat.mul_le_mul_right _ h2
 have e3:sz ^ (j+1)=sz ^ j*sz:=Nat.pow_succ ..
 rw[Nat.add_mul,Nat.one_mul,← e3]at h3
 have h4:(a:Int)*(sz:Int)=((a*sz:Nat):Int):=by push_cast;rfl
 rw[h4]
 constructor
 ·omega
 ·omega
theorem evs_ok {s:List Int} {sz:Nat} {tb:List (List Int)} {env:List Int} (w:WF s sz tb env)(f:Nat):∀ (m:Nat) (i:Int) (t r:List Int) (j:Nat),t.length≤f→eat s t m=some r→(0≤i∧i<((sz ^ j:Nat):Int)) →
  (evs s sz tb env f m i t).2=r∧0≤(evs s sz tb env f m i t).1∧(evs s sz tb env f m i t).1<((sz ^ (j+m):Nat):Int):=by
 induction f with
 | zero=>
  intro m i t r j hl he hi
  have ht:t=[]:=List.eq_nil_of_length_eq_zero (by omega)
  subst ht
  cases m with
  | zero=>simp only[eat,Option.some.injEq]at he;exact⟨he,hi.1,hi.2⟩
  | succ m=>simp[eat]at he
 | succ f ih=>
  intro m i t r j hl he hi
  cases m with
  | zero=>rw[eat_zero,Option.some.injEq]at he;exact⟨he,hi.1,hi.2⟩
  | succ m=>
   cases t with
   | nil=>simp[eat]at he
   | cons n t=>
    obtain⟨ht,he⟩:=eat_cons he
    simp only[List.length_cons]at hl
    simp only[evs]
    by_cases g:n<0
    ·rw[if_pos g]
     rw[ar_neg s n g,Nat.add_zero]at he
     obtain⟨_,_,v0,v1⟩:=WF_env w g ht
     have:=ih m (i*sz+rd env (-1 - n)) t r (j+1) (by omega) he (step_in w.s1 hi ⟨v0,v1⟩)
     rw[show j+1+m=j+(m+1) by omega]at this
     exact this
    ·rw[if_neg g]
     rw[Nat.add_comm]at he
     obtain⟨r1,e1,e2⟩:=eat_split s t (ar s n) m r he
     obtain⟨q1,q2,q3⟩:=ih (ar s n) 0 t r1 0 (by omega) e1 ⟨by omega,by simp⟩
     rw[Nat.zero_add]at q3
     obtain⟨hn,tl,tin⟩:=WF_tab w (by omega) ht
     have hv:=rd_in (rd_L2 tb n) 0 _ tin (evs s sz tb env f (ar s n) 0 t).1 q2 (by rw[tl];exact q3)
     obtain⟨c,hc⟩:=eat_suf s t _ _ e1
     have hlc:r1.length≤t.length:=by rw[hc,List.length_append];omega
     rw[q1]
     have:=ih m (i*sz+rd (rd_L2 tb n) (evs s sz tb env f (ar s n) 0 t).1) r1 r (j+1) (by omega) e2 (step_in w.s1 hi hv)
     rw[show j+1+m=j+(m+1) by omega]at this
     exact this
theorem small3 (sz j:Nat)(h:sz≤3)(hj:j≤3):sz ^ j≤27:=by
 calc sz ^ j≤3 ^ j:=Nat.pow_le_pow_left h j
  _≤3 ^ 3:=Nat.pow_le_pow_right (by omega) hj
  _=27:=by decide
theorem impl_eval_l0 {s:List Int} {sz:Nat} {tb:List (List Int)} {env:List Int} (w:WF s sz tb env)(f:Nat):∀ (m:Nat) (i:Int) (t r:List Int) (j:Nat) (pre:List Int) (n0:Int),t.length≤f→eat s t m=some r→(0≤i∧i<((sz ^ j:Nat):Int))→(pre++t).length≤1000000→0≤n0→tok s n0=true→ar s n0=j+m →
  Ev (fun k=>impl_Sign_eval.l0 k (pre++t) env n0 i (pre.length:Int) (rd s n0) (j:Int) s (sz:Int) tb) (rd (rd_L2 tb n0) (evs s sz tb env f m i t).1,((pre++t).length:Int) - (r.length:Int)):=by
 have fin:∀ (i:Int) (t:List Int) (j:Nat) (pre:List Int) (n0:Int),(0≤i∧i<((sz ^ j:Nat):Int))→0≤n0→tok s n0=true→ar s n0=j →
   Ev (fun k=>impl_Sign_eval.l0 k (pre++t) env n0 i (pre.length:Int) (rd s n0) (j:Int) s (sz:Int) tb) (rd (rd_L2 tb n0) i,((pre++t).length:Int) - (t.length:Int)):=by
  intro i t j pre n0 hi h0 ht ha
  obtain⟨hn,tl,tin⟩:=WF_tab w h0 ht
  have hr:=ar_rd w.gs h0 ht
  have htl:=w.tl
  refine Ev.succ ?_
  simp only[impl_Sign_eval.l0]
  exact Ev.neg (by rw[hr];omega) (Ev.pos h0 (Ev.pos (by rw[htl];exact hn) (Ev.pos hi.1 (Ev.pos (by rw[tl,ha];exact hi.2) (Ev.eq (Ev.ret _) (by rw[List.length_append];simp))))))
 induction f with
 | zero=>
  intro m i t r j pre n0 hl he hi hL h0 ht ha
  have htn:t=[]:=List.eq_nil_of_length_eq_zero (by omega)
  subst htn
  cases m with
  | zero=>simp only[eat,Option.some.injEq]at he;subst he;exact fin i [] j pre n0 hi h0 ht (by omega)
  | succ m=>simp[eat]at he
 | succ f ih=>
  intro m i t r j pre n0 hl he hi hL h0 ht ha
  cases m with
  | zero=>rw[eat_zero,Option.some.injEq]at he;subst he;exact fin i t j pre n0 hi h0 ht (by omega)
  | succ m=>
   cases t with
   | nil=>simp[eat]at he
   | cons n t=>
    obtain⟨htn,he⟩:=eat_cons he
    have hr:=ar_rd w.gs h0 ht
    have h3:=ar_le w.gs ht
    have hs3:=w.s3
    have hpw:=small3 sz j w.s3 (by omega)
    have hL':=hL
    simp only[List.length_append,List.length_cons]at hl hL'
    have hpp:pre++n :: t=(pre++[n])++t:=by simp
    have him:0≤i*(sz:Int)∧i*(sz:Int)≤81:=by
     obtain⟨a,ha'⟩:∃ a:Nat,i=(a:Int):=⟨i.toNat,by omega⟩
     subst ha'
     have h4:(a:Int)*(sz:Int)=((a*sz:Nat):Int):=by push_cast;rfl
     have h5:a*sz≤27*3:=Nat.mul_le_mul (by omega) hs3
     rw[h4]
     omega
    obtain⟨v,r1,hv,e1,e2,hev,hvs,hr1⟩:∃ (v:Int) (r1:List Int),(0≤v∧v≤(sz:Int) - 1)∧(∃ c,t=c++r1)∧eat s r1 m=some r∧Ev (fun k=>impl_Sign_eval.f k s (sz:Int) tb (pre++n :: t) (pre.length:Int) env) (v,((pre++n :: t).length:Int) - (r1.length:Int))∧(evs s sz tb env (f+1) (m+1) i (n :: t))=evs s sz tb env f m (i*sz+v) r1∧r1.length≤f:=by
     have hrd:rd (pre++n :: t) (pre.length:Int)=n:=rd_mid pre n t
     by_cases g:n<0
     ·rw[ar_neg s n g,Nat.add_zero]at he
      obtain⟨w0,w1,v0,v1⟩:=WF_env w g htn
      have hel:=w.el
      refine⟨rd env (-1 - n),t,⟨v0,v1⟩,⟨[],rfl⟩,he,Ev.succ ?_,by simp only[evs];rw[if_pos g],by omega⟩
      simp only[impl_Sign_eval.f,hrd]
      rw[w64 (x:=-1 - n) (by omega) (by omega),w64 (x:=(pre.length:Int)+1) (by omega) (by omega)]
      exact Ev.pos (by omega) (Ev.pos (by simp only[List.length_append,List.length_cons];omega) (Ev.pos g (Ev.pos w0 (Ev.pos w1 (Ev.eq (Ev.ret _) (by simp only[List.length_append,List.length_cons,Prod.mk.injEq,true_and];omega))))))
     ·rw[Nat.add_comm]at he
      obtain⟨r1,e1,e2⟩:=eat_split s t (ar s n) m r he
      obtain⟨q1,q2,q3⟩:=evs_ok w f (ar s n) 0 t r1 0 (by omega) e1 ⟨by omega,by simp⟩
      rw[Nat.zero_add]at q3
      obtain⟨hn,tl,tin⟩:=WF_tab w (by omega) htn
      have hv:=rd_in (rd_L2 tb n) 0 _ tin (evs s sz tb env f (ar s n) 0 t).1 q2 (by rw[tl];exact q3)
      have hc:=eat_suf s t _ _ e1
      have hlc:r1.length≤t.length:=by obtain⟨c,hc⟩:=hc;rw[hc,List.length_append];omega
      have hi2:=ih (ar s n) 0 t r1 0 (pre++[n]) n (by omega) e1 ⟨by omega,by simp⟩ (by rw[← hpp];exact hL) (by omega) htn (by omega)
      rw[← hpp]at hi2
      refine⟨_,r1,hv,hc,e2,Ev.succ ?_,by simp only[evs];rw[if_neg g,q1],by omega⟩
      simp only[impl_Sign_eval.f,hrd]
      rw[w64 (x:=(pre.length:Int)+1) (by omega) (by omega)]
      refine Ev.pos (by omega) (Ev.pos (by simp only[List.length_append,List.length_cons];omega) (Ev.neg g (Ev.bnd1 (impl_args_eq s w.gs n htn) ?_)))
      rw[ar_rd w.gs (by omega) htn]at hi2
      simpa using hi2
    obtain⟨c,hc⟩:=e1
    have hT:pre++n :: t=(pre++n :: c)++r1:=by rw[hc];simp
    have hpl:((pre++n :: t).length:Int) - (r1.length:Int)=((pre++n :: c).length:Int):=by rw[hT,List.length_append];omega
    have hi3:=ih m (i*sz+v) r1 r (j+1) (pre++n :: c) n0 hr1 e2 (step_in w.s1 hi hv) (by rw[← hT];exact hL) h0 ht (by omega)
    rw[← hT]at hi3
    refine Ev.succ ?_
    simp only[impl_Sign_eval.l0]
    rw[w64 (x:=(j:Int)+1) (by omega) (by omega),w64 (x:=i*(sz:Int)) (by omega) (by omega)]
    refine Ev.pos (by rw[hr];omega) (Ev.bnd hev ?_)
    simp only
    rw[w64 (x:=i*(sz:Int)+v) (by omega) (by omega),hpl,hvs]
    exact hi3
theorem impl_value_ev {s:List Int} {sz:Nat} {tb:List (List Int)} {env:List Int} (w:WF s sz tb env)(t:List Int)(ht:isTerm s t=true):Ev (fun k=>impl_Sign_value.f k s (sz:Int) tb t env) (evs s sz tb env t.length 1 0 t).1:=by
 unfold isTerm at ht
 simp only[Bool.and_eq_true,decide_eq_true_eq,beq_iff_eq]at ht
 obtain⟨⟨hl1,hl2⟩,he⟩:=ht
 cases t with
 | nil=>simp at hl1
 | cons n t=>
  obtain⟨htn,he⟩:=eat_cons he
  simp only[List.length_cons]at hl2
  simp only[impl_Sign_value.f,List.length_cons,evs]
  by_cases g:n<0
  ·rw[ar_neg s n g,Nat.add_zero,eat_zero]at he
   have htn0:t=[]:=Option.some.inj he
   subst htn0
   obtain⟨w0,w1,v0,v1⟩:=WF_env w g htn
   have hel:=w.el
   refine Ev.bnd (a:=(rd env (-1 - n),1)) (Ev.succ ?_) (Ev.eq (Ev.ret _) ?_)
   ·simp only[impl_Sign_eval.f]
    have hrd:rd [n] 0=n:=rfl
    simp only[hrd]
    rw[w64 (x:=-1 - n) (by omega) (by omega),w64 (x:=(0:Int)+1) (by omega) (by omega)]
    exact Ev.pos (by omega) (Ev.pos (by simp) (Ev.pos g (Ev.pos w0 (Ev.pos w1 (Ev.ret _)))))
   ·rw[if_pos g];simp[evs]
  ·rw[Nat.zero_add]at he
   have h:=impl_eval_l0 w t.length (ar s n) 0 t [] 0 [n] n (Nat.le_refl _) he ⟨by omega,by simp⟩ (by simp;omega) (by omega) htn (by omega)
   refine Ev.bnd (a:=(rd (rd_L2 tb n) (evs s sz tb env t.length (ar s n) 0 t).1,(([n]++t).length:Int) - (([]:List Int).length:Int))) (Ev.succ ?_) (Ev.eq (Ev.ret _) ?_)
   ·simp only[impl_Sign_eval.f]
    have hrd:rd (n :: t) 0=n:=rfl
    simp only[hrd]
    rw[w64 (x:=(0:Int)+1) (by omega) (by omega)]
    refine Ev.pos (by omega) (Ev.pos (by simp only[List.length_cons];omega) (Ev.neg g (Ev.bnd1 (impl_args_eq s w.gs n htn) ?_)))
    rw[ar_rd w.gs (by omega) htn]at h
    simpa using h
   ·rw[if_neg g]
    have q:=evs_ok w t.length (ar s n) 0 t [] 0 (Nat.le_refl _) he ⟨by omega,by simp⟩
    rw[q.1]
    cases t.length <;> simp[evs]
def wTail (s:List Int)(n:Nat)(tb:List (List Int)):Nat→Nat→Bool
 | 0,_=>true
 | m+1,i=>if (rd_L2 tb (i:Int)).length=n ^ (rd s (i:Int)).toNat then (if inAll 0 ((n:Int) - 1) (rd_L2 tb (i:Int))=true then wTail s n tb m (i+1) else false) else false
def wOk (s:List Int)(sz:Int)(tb:List (List Int)):Bool:=if 1≤sz∧sz≤3 then (if tb.length=s.length then wTail s sz.toNat tb s.length 0 else false) else false
def goodWorld (s:List Int)(sz:Int)(tb:List (List Int)):Bool:=goodSign s && wOk s sz tb
def isEnv (sz:Int)(l:List Int):Bool:=decide (l.length=12) && inAll 0 (sz - 1) l
theorem wTail_of {s:List Int} {n:Nat} {tb:List (List Int)} (m:Nat):∀ i:Nat,wTail s n tb m i=true→∀ j:Nat,i≤j→j<i+m→(rd_L2 tb (j:Int)).length=n ^ (rd s (j:Int)).toNat∧inAll 0 ((n:Int) - 1) (rd_L2 tb (j:Int))=true:=by
 induction m with
 | zero=>intro i _ j h1 h2;omega
 | succ m ih=>
  intro i h j h1 h2
  simp only[wTail]at h
  split at h
  ·rename_i g1
   split at h
   ·rename_i g2
    by_cases e:j=i
    ·subst e;exact⟨g1,g2⟩
    ·exact ih (i+1) h j (by omega) (by omega)
   ·simp at h
  ·simp at h
theorem WF_mk {s:List Int} {sz:Int} {tb:List (List Int)} {env:List Int} (h:goodWorld s sz tb=true)(he:isEnv sz env=true):∃ n:Nat,sz=(n:Int)∧WF s n tb env:=by
 unfold goodWorld at h
 rw[Bool.and_eq_true]at h
 obtain⟨hs,h⟩:=h
 unfold wOk at h
 unfold isEnv at he
 rw[Bool.and_eq_true,decide_eq_true_eq]at he
 split at h
 ·rename_i g
  split at h
  ·rename_i g2
   obtain⟨n,hn⟩:∃ n:Nat,sz=(n:Int):=⟨sz.toNat,by omega⟩
   subst hn
   rw[Int.toNat_natCast]at h
   have:=wTail_of s.length 0 h
   exact⟨n,rfl,⟨hs,by omega,by omega,g2,fun j hj=>(this j (by omega) (by omega)).1,fun j hj=>inAll_mem (this j (by omega) (by omega)).2,he.1,inAll_mem he.2⟩⟩
  ·simp at h
 ·simp at h
theorem entries_l0 (n:Nat)(hn:n≤4)(m:Nat):∀ j i:Nat,j+m≤3→i+m≤100→Ev (fun k=>impl_entries.l0 k (n:Int) ((n ^ j:Nat):Int) ((i+m:Nat):Int) (i:Int)) ((n ^ (j+m):Nat):Int):=by
 induction m with
 | zero=>
  intro j i _ _
  refine Ev.succ ?_
  simp only[impl_entries.l0]
  exact Ev.neg (by omega) (Ev.ret _)
 | succ m ih=>
  intro j i hj hi
  have h:=ih (j+1) (i+1) (by omega) (by omega)
  have hp:=pw_le n (j+1) hn (by omega)
  have hm:((n ^ j:Nat):Int)*(n:Int)=((n ^ (j+1):Nat):Int):=by rw[Nat.pow_succ];push_cast;rfl
  refine Ev.succ ?_
  simp only[impl_entries.l0]
  rw[hm,w64 (x:=((n ^ (j+1):Nat):Int)) (by omega) (by omega),w64 (x:=(i:Int)+1) (by omega) (by omega)]
  rw[show i+1+m=i+(m+1) by omega,show j+1+m=j+(m+1) by omega]at h
  exact Ev.pos (by omega) h
theorem entries_ok (n:Nat)(hn:n≤4)(x:Int)(h0:0≤x)(h1:x≤3):Ev (fun k=>impl_entries.f k (n:Int) x) ((n ^ x.toNat:Nat):Int):=by
 have:=entries_l0 n hn x.toNat 0 0 (by omega) (by omega)
 simp only[impl_entries.f]
 rw[Nat.zero_add,Int.toNat_of_nonneg h0]at this
 exact this
theorem areElements_eq (sz:Int)(l:List Int):impl_areElements.f sz l=some (inAll 0 (sz - 1) l):=by
 unfold impl_areElements.f impl_areElements_1_any.f
 rw[anyO_not _ (fun x=>decide (0≤x∧x≤sz - 1)) l (fun x _=>by
  unfold impl_areElements_1.f
  by_cases h1:x<0
  ·rw[if_pos h1,decide_eq_false (by omega)];rfl
  ·rw[if_neg h1]
   by_cases h2:x≥sz
   ·rw[decide_eq_true h2,decide_eq_false (by omega)];rfl
   ·rw[decide_eq_false h2,decide_eq_true (by omega)];rfl)]
 simp[inAll]
theorem impl_world_l0 (s:List Int)(hs:goodSign s=true)(n:Nat)(hn:n≤3)(tb:List (List Int))(ht:tb.length=s.length)(m:Nat):∀ i:Nat,i+m=tb.length→Ev (fun k=>impl_Sign_isWorld.l0 k tb (tb.length:Int) (i:Int) s (n:Int) tb) (wTail s n tb m i):=by
 have hl:=goodSign_len hs
 induction m with
 | zero=>
  intro i hi
  refine Ev.succ ?_
  simp only[impl_Sign_isWorld.l0]
  exact Ev.neg (by omega) (Ev.ret _)
 | succ m ih=>
  intro i hi
  have hr:=goodSign_rd hs (i:Int) (by omega) (by omega)
  have hE:=entries_ok n (by omega) (rd s (i:Int)) hr.1 hr.2
  refine Ev.succ ?_
  simp only[impl_Sign_isWorld.l0,wTail]
  refine Ev.pos (by omega) (Ev.pos (by omega) (Ev.pos (by omega) (Ev.pos (by omega) (Ev.bnd hE ?_))))
  by_cases g:(rd_L2 tb (i:Int)).length=n ^ (rd s (i:Int)).toNat
  ·rw[if_pos g]
   refine Ev.pos (by omega) (Ev.bnd1 (areElements_eq _ _) ?_)
   by_cases g2:inAll 0 ((n:Int) - 1) (rd_L2 tb (i:Int))=true
   ·rw[if_pos g2]
    refine Ev.pos g2 ?_
    rw[w64 (by omega) (by omega)]
    exact ih (i+1) (by omega)
   ·rw[if_neg g2];exact Ev.neg g2 (Ev.ret _)
  ·rw[if_neg g];exact Ev.neg (by omega) (Ev.ret _)
theorem impl_GoodWorld_ev (s:List Int)(sz:Int)(tb:List (List Int)):Ev (fun k=>impl_GoodWorld.f k s sz tb) (goodWorld s sz tb):=by
 unfold goodWorld wOk
 simp only[impl_GoodWorld.f]
 refine Ev.bnd1 (impl_GoodSign_eq s) ?_
 by_cases gs:goodSign s=true
 ·rw[gs,Bool.true_and]
  have hz:impl_isSize.f sz=some (decide (1≤sz∧sz≤3)):=by
   unfold impl_isSize.f
   by_cases h1:sz≥1
   ·rw[if_pos h1]
    by_cases h2:sz≤3
    ·rw[decide_eq_true h2,decide_eq_true ⟨h1,h2⟩]
    ·rw[decide_eq_false h2,decide_eq_false (fun q=>h2 q.2)]
   ·rw[if_neg h1,decide_eq_false (fun q=>h1 q.1)]
  have hf:∀ b:Bool,b=true→Ev (fun k=>impl_Sign_isWorld.j0 k b s sz tb) false:=fun b hb=>by
   subst hb
   refine Ev.succ ?_
   simp only[impl_Sign_isWorld.j0]
   exact Ev.pos (by simp) (Ev.ret _)
  refine Ev.pos rfl (Ev.bnd (a:=(if 1≤sz∧sz≤3 then (if tb.length=s.length then wTail s sz.toNat tb s.length 0 else false) else false)) ?_ (Ev.ret _))
  simp only[impl_Sign_isWorld.f]
  refine Ev.bnd1 hz ?_
  by_cases g:1≤sz∧sz≤3
  ·rw[if_pos g]
   refine Ev.pos (decide_eq_true g) ?_
   by_cases g2:tb.length=s.length
   ·rw[if_pos g2]
    refine Ev.succ ?_
    simp only[impl_Sign_isWorld.j0]
    refine Ev.neg (by simp[g2]) ?_
    obtain⟨n,hn⟩:∃ n:Nat,sz=(n:Int):=⟨sz.toNat,by omega⟩
    subst hn
    rw[Int.toNat_natCast,← g2]
    exact impl_world_l0 s gs n (by omega) tb g2 tb.length 0 (by omega)
   ·rw[if_neg g2]
    exact hf _ (by simp[g2];omega)
  ·rw[if_neg g]
   exact Ev.neg (by rw[decide_eq_false g];simp) (hf _ rfl)
 ·rw[Bool.eq_false_iff.2 gs,Bool.false_and]
  exact Ev.neg (by simp) (Ev.ret _)
theorem impl_isEnv_eq (sz:Int)(tb:List (List Int))(l:List Int):impl_World_isEnv.f sz tb l=some (isEnv sz l):=by
 unfold impl_World_isEnv.f isEnv
 by_cases g:l.length=12
 ·rw[if_pos (by omega),areElements_eq,decide_eq_true g];simp
 ·rw[if_neg (by omega),decide_eq_false g,Bool.false_and]
theorem numberOf_l0_ok (l:List Int)(hl:∀ x∈l,0≤x∧x≤255)(hs:l.length≤140737488351232)(d:Nat):∀ (n i:Int),0≤n→n<1000003→0≤i→i+d=l.length→∃ m,Ev (fun k=>laws_numberOf.l0 k n l (l.length:Int) i) m∧0≤m∧m<1000003:=by
 induction d with
 | zero=>
  intro n i h0 h1 hi hd
  refine⟨n,Ev.step (fun k=>?_) (Ev.now n),h0,h1⟩
  simp only[laws_numberOf.l0]
  rw[if_neg (by omega)]
 | succ d ih=>
  intro n i h0 h1 hi hd
  have hr:=rd_range l hl i
  obtain⟨m,e,hm⟩:=ih (Int.tmod (31*n+rd l i) 1000003) (i+1) (Int.tmod_nonneg _ (by omega)) (Int.tmod_lt_of_pos _ (by omega)) (by omega) (by omega)
  refine⟨m,Ev.step (fun k=>?_) e,hm⟩
  simp only[laws_numberOf.l0]
  rw[if_pos (by omega),if_pos hi,if_pos (by omega),w64 (x:=31*n) (by omega) (by omega),w64 (x:=rd l i) (by omega) (by omega),w64 (x:=31*n+rd l i) (by omega) (by omega),w64 (x:=i+1) (by omega) (by omega)]
theorem numberOf_ok (l:List Int)(hl:∀ x∈l,0≤x∧x≤255)(hs:l.length≤140737488351232):∃ m,Ev (fun k=>laws_numberOf.f k l) m∧0≤m∧m<1000003:=
 numberOf_l0_ok l hl hs l.length 0 0 (by omega) (by omega) (by omega) (by omega)
theorem anyO_ev3 {α:Type} (f:Nat→α→Option Bool)(p:α→Bool)(l:List α)(h:∀ x∈l,Ev (fun k=>f k x) (p x)):Ev (fun k=>anyO (fun x=>f k x) l) (l.any p):=by
 have:=anyO_ev f (fun x=>!p x) l (fun x hx=>Ev.eq (h x hx) (by simp))
 refine Ev.eq this ?_
 rw[List.any_eq_not_all_not]
def valT (s:List Int)(sz:Int)(tb:List (List Int))(env t:List Int):Int:=(evs s sz.toNat tb env t.length 1 0 t).1
def litHolds (s:List Int)(sz:Int)(tb:List (List Int))(env:List Int)(x:S83):Bool:=(valT s sz tb env x.f1 == valT s sz tb env x.f2) == x.f0
def holdsAt (s:List Int)(sz:Int)(tb:List (List Int))(c:List S83)(env:List Int):Bool × Bool:=if goodWorld s sz tb=true∧isClause s c=true∧isEnv sz env=true then (c.any (litHolds s sz tb env),true) else (false,false)
theorem impl_holds_ev {s:List Int} {n:Nat} {tb:List (List Int)} {env:List Int} (w:WF s n tb env)(c:List S83)(hc:∀ x∈c,isLit s x=true):Ev (fun k=>impl_Sign_holdsAt.f k s (n:Int) tb c env) (c.any (litHolds s (n:Int) tb env)):=by
 simp only[impl_Sign_holdsAt.f,impl_Sign_holdsAt_1_any.f]
 refine Ev.bnd (anyO_ev3 _ _ _ (fun x hx=>?_)) (Ev.ret _)
 have hl:=hc x hx
 unfold isLit at hl
 rw[Bool.and_eq_true]at hl
 simp only[impl_Sign_holdsAt_1.f]
 exact Ev.bnd (impl_value_ev w x.f1 hl.1) (Ev.bnd (impl_value_ev w x.f2 hl.2) (Ev.eq (Ev.ret _) (by unfold litHolds valT;rw[Int.toNat_natCast])))
theorem impl_HoldsAt_ev (s:List Int)(sz:Int)(tb:List (List Int))(c:List S83)(env:List Int):Ev (fun k=>impl_HoldsAt.f k s sz tb c env) (holdsAt s sz tb c env):=by
 unfold holdsAt
 simp only[impl_HoldsAt.f]
 refine Ev.bnd (impl_GoodWorld_ev s sz tb) ?_
 by_cases g:goodWorld s sz tb=true
 ·have gs:goodSign s=true:=by unfold goodWorld at g;rw[Bool.and_eq_true]at g;exact g.1
  refine Ev.pos g (Ev.bnd (impl_isClause_ev s gs c) ?_)
  by_cases g2:isClause s c=true
  ·refine Ev.pos g2 (Ev.bnd1 (impl_isEnv_eq sz tb env) ?_)
   by_cases g3:isEnv sz env=true
   ·obtain⟨n,rfl,w⟩:=WF_mk g g3
    rw[if_pos ⟨g,g2,g3⟩]
    exact Ev.pos g3 (Ev.bnd (impl_holds_ev w c (isClause_of g2).2) (Ev.ret _))
   ·rw[if_neg (fun q=>g3 q.2.2)];exact Ev.neg g3 (Ev.ret _)
  ·rw[if_neg (fun q=>g2 q.2.1)];exact Ev.neg g2 (Ev.ret _)
 ·rw[if_neg (fun q=>g q.1)];exact Ev.neg g (Ev.ret _)
theorem u64_range (z:Int):0≤IntKind.u64.wrap z∧IntKind.u64.wrap z≤18446744073709551615:=by
 rw[IntKind.wrap_u64]
 omega
theorem ent_range (z sz:Int)(h1:1≤sz):0≤Int.tmod (wrap64 (IntKind.u64.wrap z / 1099511627776)) sz∧Int.tmod (wrap64 (IntKind.u64.wrap z / 1099511627776)) sz≤sz - 1:=by
 obtain⟨a,b⟩:=u64_range z
 rw[w64 (by omega) (by omega)]
 have h0:0≤IntKind.u64.wrap z / 1099511627776:=by omega
 exact⟨Int.tmod_nonneg _ h0,by have:=Int.tmod_lt_of_pos (IntKind.u64.wrap z / 1099511627776) (show 0<sz by omega);omega⟩
theorem worldOf_l2 (ss:List Int)(sz i:Int)(h1:1≤sz)(tb:List (List Int))(htb:tb.length≤100)(m:Nat):∀ (x:Int) (out:List Int),m+out.length≤1000→(∀ y∈out,0≤y∧y≤sz - 1) →
  ∃ (x2:Int) (out2:List Int),out2.length=out.length+m∧(∀ y∈out2,0≤y∧y≤sz - 1)∧∀ R:Int × List (List Int),Ev (fun k=>laws_worldOf.l0 k x2 ss (ss.length:Int) (wrap64 (i+1)) sz (tb++[out2])) R→Ev (fun k=>laws_worldOf.l2 k x (m:Int) out ss (ss.length:Int) i sz tb) R:=by
 induction m with
 | zero=>
  intro x out _ ho
  refine⟨x,out,by omega,ho,fun R h=>Ev.succ ?_⟩
  simp only[laws_worldOf.l2]
  exact Ev.neg (by omega) (Ev.pos (by omega) h)
 | succ m ih=>
  intro x out hl ho
  have hr:=ent_range ((IntKind.u64.wrap (x*6364136223846793005))+1442695040888963407) sz h1
  obtain⟨x2,out2,g1,g2,g3⟩:=ih (IntKind.u64.wrap ((IntKind.u64.wrap (x*6364136223846793005))+1442695040888963407)) (out++[Int.tmod (wrap64 ((IntKind.u64.wrap ((IntKind.u64.wrap (x*6364136223846793005))+1442695040888963407)) / 1099511627776)) sz]) (by rw[List.length_append,List.length_singleton];omega) (fun y hy=>by
   rcases List.mem_append.1 hy with hy | hy
   ·exact ho y hy
   ·rw[List.mem_singleton]at hy;rw[hy];exact hr)
  rw[List.length_append,List.length_singleton]at g1
  refine⟨x2,out2,by omega,g2,fun R h=>Ev.succ ?_⟩
  simp only[laws_worldOf.l2]
  rw[w64 (x:=((m+1:Nat):Int) - 1) (by omega) (by omega),show ((m+1:Nat):Int) - 1=(m:Int) by omega]
  exact Ev.pos (by omega) (Ev.neg (by omega) (Ev.pos (by omega) (g3 R h)))
theorem worldOf_l1 (ss:List Int)(n:Nat)(hn:n≤3)(x i:Int)(tb:List (List Int))(R:Int × List (List Int))(m:Nat):∀ j:Nat,j+m≤3 →
  Ev (fun k=>laws_worldOf.l2 k x ((n ^ (j+m):Nat):Int) [] ss (ss.length:Int) i (n:Int) tb) R→Ev (fun k=>laws_worldOf.l1 k x (m:Int) ((n ^ j:Nat):Int) ss (ss.length:Int) i (n:Int) tb) R:=by
 induction m with
 | zero=>
  intro j _ h
  refine Ev.succ ?_
  simp only[laws_worldOf.l1]
  exact Ev.neg (by omega) h
 | succ m ih=>
  intro j hj h
  have hp:=pw_le n (j+1) (by omega) (by omega)
  have hm:((n ^ j:Nat):Int)*(n:Int)=((n ^ (j+1):Nat):Int):=by rw[Nat.pow_succ];push_cast;rfl
  have h2:=ih (j+1) (by omega) (by rw[show j+1+m=j+(m+1) by omega];exact h)
  refine Ev.succ ?_
  simp only[laws_worldOf.l1]
  rw[hm,w64 (x:=((n ^ (j+1):Nat):Int)) (by omega) (by omega),w64 (x:=((m+1:Nat):Int) - 1) (by omega) (by omega),show ((m+1:Nat):Int) - 1=(m:Int) by omega]
  exact Ev.pos (by omega) h2
theorem rdL2_app (tb:List (List Int))(y:List Int)(j:Nat):rd_L2 (tb++[y]) (j:Int)=if j<tb.length then rd_L2 tb (j:Int) else if j=tb.length then y else []:=by
 unfold rd_L2
 simp only[Int.toNat_natCast,List.getD_eq_getElem?_getD]
 by_cases g:j<tb.length
 ·rw[if_pos g,List.getElem?_append_left g]
 ·rw[if_neg g,List.getElem?_append_right (by omega)]
  by_cases g2:j=tb.length
  ·rw[if_pos g2,g2,Nat.sub_self];rfl
  ·rw[if_neg g2,List.getElem?_eq_none (by simp;omega)];rfl
def TB (ss:List Int)(n i:Nat)(tb:List (List Int)):Prop:=tb.length=i∧∀ j:Nat,j<i→(rd_L2 tb (j:Int)).length=n ^ (rd ss (j:Int)).toNat∧∀ y∈rd_L2 tb (j:Int),0≤y∧y≤(n:Int) - 1
theorem worldOf_l0 (ss:List Int)(hs:SR ss)(n:Nat)(h1:1≤n)(hn:n≤3)(m:Nat):∀ (i:Nat) (x:Int) (tb:List (List Int)),i+m=ss.length→TB ss n i tb →
  ∃ tb',Ev (fun k=>laws_worldOf.l0 k x ss (ss.length:Int) (i:Int) (n:Int) tb) ((n:Int),tb')∧TB ss n ss.length tb':=by
 have h6:=hs.1
 induction m with
 | zero=>
  intro i x tb hi ht
  refine⟨tb,Ev.succ ?_,by rw[← hi];exact ht⟩
  simp only[laws_worldOf.l0]
  exact Ev.neg (by omega) (Ev.ret _)
 | succ m ih=>
  intro i x tb hi ht
  have hr:=hs.2 (i:Int)
  obtain⟨a,ha⟩:∃ a:Nat,rd ss (i:Int)=(a:Int):=⟨(rd ss (i:Int)).toNat,by omega⟩
  have hpw:=pw_le n a (by omega) (by omega)
  obtain⟨x2,out2,g1,g2,g3⟩:=worldOf_l2 ss (n:Int) (i:Int) (by omega) tb (by have:=ht.1;omega) (n ^ a) x [] (by simp only[List.length_nil];omega) (by simp)
  rw[List.length_nil,Nat.zero_add]at g1
  have ht2:TB ss n (i+1) (tb++[out2]):=by
   refine⟨by rw[List.length_append,List.length_singleton,ht.1],fun j hj=>?_⟩
   rw[rdL2_app,ht.1]
   by_cases g:j<i
   ·rw[if_pos g];exact ht.2 j g
   ·have e:j=i:=by omega
    subst e
    rw[if_neg g,if_pos rfl,ha,Int.toNat_natCast]
    exact⟨g1,g2⟩
  obtain⟨tb',e,t⟩:=ih (i+1) x2 (tb++[out2]) (by omega) ht2
  refine⟨tb',Ev.succ ?_,t⟩
  simp only[laws_worldOf.l0,ha]
  refine Ev.pos (by omega) (Ev.pos (by omega) (Ev.pos (by omega) ?_))
  have:=worldOf_l1 ss n hn x (i:Int) tb ((n:Int),tb') a 0 (by omega) (by
   rw[Nat.zero_add]
   refine g3 _ ?_
   rw[w64 (x:=(i:Int)+1) (by omega) (by omega)]
   exact e)
  simpa using this
theorem worldOf_ok (ss:List Int)(hs:SR ss)(l:List Int)(hl:Bs l)(hll:l.length≤1048576):∃ (n:Nat) (tb:List (List Int)),Ev (fun k=>laws_worldOf.f k ss l) ((n:Int),tb)∧1≤n∧n≤3∧TB ss n ss.length tb:=by
 obtain⟨m,em,m0,m1⟩:=numberOf_ok l hl (by omega)
 have hx:0≤Int.tmod (IntKind.u64.wrap (IntKind.u64.wrap m+7)) 3:=Int.tmod_nonneg _ (u64_range _).1
 have hx2:=Int.tmod_lt_of_pos (IntKind.u64.wrap (IntKind.u64.wrap m+7)) (show (0:Int)<3 by omega)
 obtain⟨n,hn⟩:∃ n:Nat,1+Int.tmod (IntKind.u64.wrap (IntKind.u64.wrap m+7)) 3=(n:Int):=⟨(1+Int.tmod (IntKind.u64.wrap (IntKind.u64.wrap m+7)) 3).toNat,by omega⟩
 obtain⟨tb',e,t⟩:=worldOf_l0 ss hs n (by omega) (by omega) ss.length 0 (IntKind.u64.wrap (IntKind.u64.wrap m+7)) [] (by omega) ⟨rfl,fun j hj=>absurd hj (Nat.not_lt_zero _)⟩
 refine⟨n,tb',?_,by omega,by omega,t⟩
 simp only[laws_worldOf.f]
 refine Ev.bnd em ?_
 rw[w64 (x:=Int.tmod (IntKind.u64.wrap (IntKind.u64.wrap m+7)) 3) (by omega) (by omega),hn,w64 (x:=(n:Int)) (by omega) (by omega)]
 exact e
theorem envOf_l0 (sz:Int)(h1:1≤sz)(tb:List (List Int))(m:Nat):∀ (i:Nat) (x:Int) (out:List Int),i+m=12→out.length=i→(∀ y∈out,0≤y∧y≤sz - 1) →
  ∃ r,Ev (fun k=>laws_envOf.l0 k x out (i:Int) sz tb) r∧r.length=12∧∀ y∈r,0≤y∧y≤sz - 1:=by
 induction m with
 | zero=>
  intro i x out hi ho hy
  refine⟨out,Ev.succ ?_,by omega,hy⟩
  simp only[laws_envOf.l0]
  exact Ev.neg (by omega) (Ev.ret _)
 | succ m ih=>
  intro i x out hi ho hy
  have hr:=ent_range ((IntKind.u64.wrap (x*6364136223846793005))+1442695040888963407) sz h1
  obtain⟨r,e,t⟩:=ih (i+1) (IntKind.u64.wrap ((IntKind.u64.wrap (x*6364136223846793005))+1442695040888963407)) (out++[Int.tmod (wrap64 ((IntKind.u64.wrap ((IntKind.u64.wrap (x*6364136223846793005))+1442695040888963407)) / 1099511627776)) sz]) (by omega) (by rw[List.length_append,List.length_singleton];omega) (fun y hm=>by
   rcases List.mem_append.1 hm with hm | hm
   ·exact hy y hm
   ·rw[List.mem_singleton]at hm;rw[hm];exact hr)
  refine⟨r,Ev.succ ?_,t⟩
  simp only[laws_envOf.l0]
  refine Ev.pos (by omega) (Ev.neg (by omega) (Ev.pos (by omega) ?_))
  rw[w64 (x:=(i:Int)+1) (by omega) (by omega)]
  exact e
theorem envOf_ok (sz:Int)(h1:1≤sz)(tb:List (List Int))(l:List Int)(hl:Bs l)(hll:l.length≤1048576):∃ r,Ev (fun k=>laws_envOf.f k sz tb l) r∧isEnv sz r=true:=by
 obtain⟨m,em,m0,m1⟩:=numberOf_ok l hl (by omega)
 obtain⟨r,e,t1,t2⟩:=envOf_l0 sz h1 tb 12 0 (IntKind.u64.wrap (IntKind.u64.wrap m+3)) [] rfl rfl (by simp)
 refine⟨r,?_,?_⟩
 ·simp only[laws_envOf.f]
  exact Ev.bnd em e
 ·unfold isEnv inAll
  rw[decide_eq_true t1,Bool.true_and,List.all_eq_true]
  exact fun x hx=>decide_eq_true (t2 x hx)
theorem wTail_mk {s:List Int} {n:Nat} {tb:List (List Int)} (m:Nat):∀ i:Nat,(∀ j:Nat,i≤j→j<i+m→(rd_L2 tb (j:Int)).length=n ^ (rd s (j:Int)).toNat∧∀ y∈rd_L2 tb (j:Int),0≤y∧y≤(n:Int) - 1)→wTail s n tb m i=true:=by
 induction m with
 | zero=>intro i _;rfl
 | succ m ih=>
  intro i h
  have h0:=h i (Nat.le_refl _) (by omega)
  simp only[wTail]
  rw[if_pos h0.1,if_pos (by unfold inAll;rw[List.all_eq_true];exact fun x hx=>decide_eq_true (h0.2 x hx))]
  exact ih (i+1) (fun j h1 h2=>h j (by omega) (by omega))
theorem goodWorld_mk {s:List Int} (hs:goodSign s=true) {n:Nat} (h1:1≤n)(h3:n≤3) {tb:List (List Int)} (ht:TB s n s.length tb):goodWorld s (n:Int) tb=true:=by
 unfold goodWorld wOk
 rw[hs,Bool.true_and,if_pos ⟨by omega,by omega⟩,if_pos ht.1,Int.toNat_natCast]
 exact wTail_mk s.length 0 (fun j _ hj=>ht.2 j (by omega))
def occ (ts:List (List Int))(v:Int):Bool:=ts.any fun t=>decide (-1 - v∈t)
def varsT (ts:List (List Int)):List Int:=((List.range 12).map fun (n:Nat)=>(n:Int)).filter (occ ts)
theorem varsT_mem (ts:List (List Int))(v:Int):v∈varsT ts↔(0≤v∧v<12)∧∃ t∈ts,-1 - v∈t:=by
 unfold varsT occ
 rw[List.mem_filter,List.any_eq_true]
 constructor
 ·rintro⟨h,t,ht,hd⟩
  obtain⟨n,hn,rfl⟩:=List.mem_map.1 h
  rw[List.mem_range]at hn
  exact⟨by omega,t,ht,of_decide_eq_true hd⟩
 ·rintro⟨⟨h0,h1⟩,t,ht,hd⟩
  exact⟨List.mem_map.2 ⟨v.toNat,List.mem_range.2 (by omega),by omega⟩,t,ht,decide_eq_true hd⟩
theorem varsT_asc (ts:List (List Int)):asc (varsT ts):=by
 unfold varsT asc
 refine List.Pairwise.filter _ ?_
 rw[List.pairwise_map]
 exact List.pairwise_lt_range.imp (fun h=>by omega)
theorem varsT_len (ts:List (List Int)):(varsT ts).length≤12:=by
 unfold varsT
 refine Nat.le_trans (List.length_filter_le _ _) ?_
 simp
theorem anyO_ev4 {α:Type} (f:Nat→α→Option Bool)(p:α→Bool)(l:List α)(h:∀ x∈l,Ev (fun k=>f k x) (p x)):Ev (fun k=>anyO (fun x=>f k x) l) (l.any p):=by
 have:=anyO_ev f (fun x=>!p x) l (fun x hx=>by rw[Bool.not_not];exact h x hx)
 rwa [show (!l.all fun x=>!p x)=l.any p by rw[List.not_all_eq_any_not];simp only[Bool.not_not]]at this
theorem occ_ev (ts:List (List Int))(ht:∀ t∈ts,t.length≤1000000)(v:Int)(h0:0≤v)(h1:v<100):Ev (fun k=>impl_varsIn_1_any.f k ts v) (occ ts v):=by
 simp only[impl_varsIn_1_any.f]
 refine anyO_ev4 _ _ _ (fun t hh=>?_)
 simp only[impl_varsIn_1.f]
 rw[w64 (x:=-1 - v) (by omega) (by omega)]
 exact Ev.bnd (contains_ev t (-1 - v) (ht t hh)) (Ev.ret _)
theorem impl_varsIn_l0 (ts:List (List Int))(ht:∀ t∈ts,t.length≤1000000)(m:Nat):∀ (i:Nat) (acc:List Int),i+m=12→acc.length≤i →
  Ev (fun k=>impl_varsIn.l0 k ts acc (i:Int)) (acc++(((List.range' i m).map fun (n:Nat)=>(n:Int)).filter (occ ts))):=by
 induction m with
 | zero=>
  intro i acc hi ha
  refine Ev.succ ?_
  simp only[impl_varsIn.l0]
  exact Ev.neg (by omega) (Ev.eq (Ev.ret _) (by simp))
 | succ m ih=>
  intro i acc hi ha
  refine Ev.succ ?_
  simp only[impl_varsIn.l0]
  rw[w64 (x:=(i:Int)+1) (by omega) (by omega)]
  refine Ev.pos (by omega) (Ev.bnd (occ_ev ts ht (i:Int) (by omega) (by omega)) ?_)
  rw[List.range'_succ,List.map_cons]
  by_cases g:occ ts (i:Int)=true
  ·rw[List.filter_cons_of_pos g]
   have h:=ih (i+1) (acc++[(i:Int)]) (by omega) (by rw[List.length_append,List.length_singleton];omega)
   rw[List.append_assoc,List.singleton_append]at h
   exact Ev.pos g (Ev.pos (by omega) (by simpa using h))
  ·rw[List.filter_cons_of_neg g]
   have h:=ih (i+1) acc (by omega) (by omega)
   exact Ev.neg g (by simpa using h)
theorem impl_varsIn_ev (ts:List (List Int))(ht:∀ t∈ts,t.length≤1000000):Ev (fun k=>impl_varsIn.f k ts) (varsT ts):=by
 simp only[impl_varsIn.f]
 have h:=impl_varsIn_l0 ts ht 12 0 [] (by omega) (by simp)
 rw[List.nil_append,← List.range_eq_range']at h
 exact h
theorem spec_l1Vars_l0 (post:List Int):∀ (pre out:List Int),(pre++post).length≤1000000→asc out→out.length≤pre.length→(∀ n∈post,-100≤n) →
  ∃ r,Ev (fun k=>spec_l1Vars.l0 k out (pre++post) ((pre++post).length:Int) (pre.length:Int)) r∧asc r∧(∀ y,y∈r↔y∈out∨(0≤y ∧ -1 - y∈post))∧r.length≤(pre++post).length:=by
 induction post with
 | nil=>
  intro pre out hl ha hol hp
  refine⟨out,Ev.succ ?_,ha,by simp,by simpa using hol⟩
  simp only[spec_l1Vars.l0,List.append_nil]
  exact Ev.neg (by omega) (Ev.ret _)
 | cons n post ih=>
  intro pre out hl ha hol hp
  have hn:=hp n (by simp)
  have hlen:(pre++n :: post).length=pre.length+(post.length+1):=by rw[List.length_append,List.length_cons]
  have step:∀ out':List Int,asc out'→out'.length≤pre.length+1→∃ r,Ev (fun k=>spec_l1Vars.l0 k out' (pre++n :: post) ((pre++n :: post).length:Int) ((pre.length:Int)+1)) r∧asc r∧(∀ y,y∈r↔y∈out'∨(0≤y ∧ -1 - y∈post))∧r.length≤(pre++n :: post).length:=by
   intro out' ha' hl'
   have:=ih (pre++[n]) out' (by simpa using hl) ha' (by simpa using hl') (fun x hx=>hp x (by simp[hx]))
   simpa using this
  by_cases g:n<0
  ·obtain⟨q,e1,ha1,hm1,hl1⟩:=put_ev out (-1 - n) (by omega) ha
   obtain⟨r,e2,ha2,hm2,hl2⟩:=step q ha1 (by omega)
   refine⟨r,Ev.succ ?_,ha2,fun y=>?_,hl2⟩
   ·simp only[spec_l1Vars.l0]
    rw[rd_mid,w64 (x:=(pre.length:Int)+1) (by omega) (by omega),w64 (x:=-1 - n) (by omega) (by omega)]
    exact Ev.pos (by omega) (Ev.pos (by omega) (Ev.pos (by omega) (Ev.pos g (Ev.bnd e1 e2))))
   ·rw[hm2,hm1,List.mem_cons]
    constructor
    ·rintro ((h | h) | h)
     ·exact .inr ⟨by omega,.inl (by omega)⟩
     ·exact .inl h
     ·exact .inr ⟨h.1,.inr h.2⟩
    ·rintro (h | ⟨h,h2 | h2⟩)
     ·exact .inl (.inr h)
     ·exact .inl (.inl (by omega))
     ·exact .inr ⟨h,h2⟩
  ·obtain⟨r,e2,ha2,hm2,hl2⟩:=step out ha (by omega)
   refine⟨r,Ev.succ ?_,ha2,fun y=>?_,hl2⟩
   ·simp only[spec_l1Vars.l0]
    rw[rd_mid,w64 (x:=(pre.length:Int)+1) (by omega) (by omega)]
    exact Ev.pos (by omega) (Ev.pos (by omega) (Ev.pos (by omega) (Ev.neg g e2)))
   ·rw[hm2,List.mem_cons]
    constructor
    ·rintro (h | h)
     ·exact .inl h
     ·exact .inr ⟨h.1,.inr h.2⟩
    ·rintro (h | ⟨h,h2 | h2⟩)
     ·exact .inl h
     ·exfalso;omega
     ·exact .inr ⟨h,h2⟩
theorem spec_l1Vars_ev (t:List Int)(hl:t.length≤1000000)(hp:∀ n∈t,-100≤n):∃ r,Ev (fun k=>spec_l1Vars.f k t) r∧(∀ y,y∈r↔0≤y ∧ -1 - y∈t)∧r.length≤t.length:=by
 obtain⟨r,e,_,hm,hr⟩:=spec_l1Vars_l0 t [] [] (by simpa using hl) List.Pairwise.nil (by simp) hp
 refine⟨r,?_,by simpa using hm,by simpa using hr⟩
 simp only[spec_l1Vars.f]
 simpa using e
theorem spec_l4Vars_l1 (c:List S83)(n i:Int)(R:List Int→Prop)(post:List Int):∀ (pre out:List Int),(pre++post).length≤1000000→asc out→out.length≤1000000 - post.length →
  (∀ q,asc q→(∀ y,y∈q↔y∈out∨y∈post)→q.length≤out.length+post.length→∃ r,Ev (fun k=>spec_l4Vars.l0 k q c n (wrap64 (i+1))) r∧R r) →
  ∃ r,Ev (fun k=>spec_l4Vars.l1 k out c n i (pre++post) ((pre++post).length:Int) (pre.length:Int)) r∧R r:=by
 induction post with
 | nil=>
  intro pre out hl ha ho h
  obtain⟨r,e,hr⟩:=h out ha (by simp) (by simp)
  refine⟨r,Ev.succ ?_,hr⟩
  simp only[spec_l4Vars.l1,List.append_nil]
  exact Ev.neg (by omega) e
 | cons x post ih=>
  intro pre out hl ha ho h
  have hlen:(pre++x :: post).length=pre.length+(post.length+1):=by rw[List.length_append,List.length_cons]
  simp only[List.length_cons]at ho
  obtain⟨q,e1,ha1,hm1,hl1⟩:=put_ev out x (by omega) ha
  obtain⟨r,e2,hr⟩:=ih (pre++[x]) q (by simpa using hl) ha1 (by omega) (fun q' a' m' l'=>h q' a' (fun y=>by
   rw[m',hm1,List.mem_cons]
   constructor
   ·rintro ((h | h) | h)
    ·exact .inr (.inl h)
    ·exact .inl h
    ·exact .inr (.inr h)
   ·rintro (h | h | h)
    ·exact .inl (.inr h)
    ·exact .inl (.inl h)
    ·exact .inr h) (by simp only[List.length_cons];omega))
  refine⟨r,Ev.succ ?_,hr⟩
  simp only[spec_l4Vars.l1]
  rw[rd_mid,w64 (x:=(pre.length:Int)+1) (by omega) (by omega)]
  exact Ev.pos (by omega) (Ev.pos (by omega) (Ev.pos (by omega) (Ev.bnd e1 (by simpa using e2))))
theorem spec_l4Vars_l0 (post:List S83):∀ (pre:List S83) (out:List Int),(pre++post).length≤1000→(∀ x∈post,(x.f1.length≤100∧∀ n∈x.f1,-100≤n)∧x.f2.length≤100∧∀ n∈x.f2,-100≤n)→asc out→out.length≤200*pre.length →
  ∃ r,Ev (fun k=>spec_l4Vars.l0 k out (pre++post) ((pre++post).length:Int) (pre.length:Int)) r∧asc r∧∀ y,y∈r↔y∈out∨(0≤y∧∃ t∈flatT post,-1 - y∈t):=by
 induction post with
 | nil=>
  intro pre out hl hx ha ho
  refine⟨out,Ev.succ ?_,ha,by simp[flatT]⟩
  simp only[spec_l4Vars.l0,List.append_nil]
  exact Ev.neg (by omega) (Ev.ret _)
 | cons x post ih=>
  intro pre out hl hx ha ho
  obtain⟨⟨h1,h2⟩,h3,h4⟩:=hx x (by simp)
  have hlen:(pre++x :: post).length=pre.length+(post.length+1):=by rw[List.length_append,List.length_cons]
  obtain⟨a,ea,hma,hla⟩:=spec_l1Vars_ev x.f1 (by omega) h2
  obtain⟨b,eb,hmb,hlb⟩:=spec_l1Vars_ev x.f2 (by omega) h4
  obtain⟨r,e,hr⟩:=spec_l4Vars_l1 (pre++x :: post) ((pre++x :: post).length:Int) (pre.length:Int) (fun r=>asc r∧∀ y,y∈r↔y∈out∨(0≤y∧∃ t∈flatT (x :: post),-1 - y∈t)) (a++b) [] out (by rw[List.nil_append,List.length_append];omega) ha (by rw[List.length_append];omega) (fun q aq mq lq=>by
   rw[List.length_append]at lq
   obtain⟨r,e,ar,mr⟩:=ih (pre++[x]) q (by simpa using hl) (fun y hy=>hx y (by simp[hy])) aq (by rw[List.length_append,List.length_singleton];omega)
   refine⟨r,?_,ar,fun y=>?_⟩
   ·rw[w64 (by omega) (by omega)];simpa using e
   ·rw[mr,mq,List.mem_append,hma,hmb]
    simp only[flatT,List.mem_cons]
    constructor
    ·rintro ((h | h | h) | ⟨h,t,ht,hd⟩)
     ·exact .inl h
     ·exact .inr ⟨h.1,_,.inl rfl,h.2⟩
     ·exact .inr ⟨h.1,_,.inr (.inl rfl),h.2⟩
     ·exact .inr ⟨h,t,.inr (.inr ht),hd⟩
    ·rintro (h | ⟨h,t,rfl | rfl | ht,hd⟩)
     ·exact .inl (.inl h)
     ·exact .inl (.inr (.inl ⟨h,hd⟩))
     ·exact .inl (.inr (.inr ⟨h,hd⟩))
     ·exact .inr ⟨h,t,ht,hd⟩)
  refine⟨r,Ev.succ ?_,hr⟩
  simp only[spec_l4Vars.l0]
  rw[rdLB_mid]
  rw[List.nil_append]at e
  exact Ev.pos (by omega) (Ev.pos (by omega) (Ev.pos (by omega) (Ev.bnd ea (Ev.bnd eb (Ev.pos (by omega) (Ev.bnd1 rfl e))))))
theorem clause_toks {s:List Int} {c:List S83} (h:isClause s c=true):∀ x∈c,(x.f1.length≤100∧∀ n∈x.f1,-100≤n)∧x.f2.length≤100∧∀ n∈x.f2,-100≤n:=by
 intro x hx
 obtain⟨t1,t2⟩:=isLit_of ((isClause_of h).2 x hx)
 have f:∀ t,isTerm s t=true→t.length≤100∧∀ n∈t,-100≤n:=fun t ht=>by
  obtain⟨hl,he⟩:=isTerm_of ht
  refine⟨by omega,fun n hn=>?_⟩
  have:=eat_tok s t 1 he n hn
  unfold tok at this
  simp only[decide_eq_true_eq]at this
  omega
 exact⟨f _ t1,f _ t2⟩
theorem clause_lo {s:List Int} {c:List S83} (h:isClause s c=true):∀ t∈flatT c,∀ n∈t,n<s.length ∧ -12≤n:=by
 intro t ht n hn
 obtain⟨x,hx,e⟩:=flat_mem c t ht
 obtain⟨t1,t2⟩:=isLit_of ((isClause_of h).2 x hx)
 have f:∀ t,isTerm s t=true→∀ n∈t,n<s.length ∧ -12≤n:=fun t ht n hn=>by
  have:=eat_tok s t 1 (isTerm_of ht).2 n hn
  unfold tok at this
  simp only[decide_eq_true_eq]at this
  omega
 rcases e with rfl | rfl
 ·exact f _ t1 n hn
 ·exact f _ t2 n hn
theorem spec_vars_ev {s:List Int} {c:List S83} (h:isClause s c=true):Ev (fun k=>spec_l4Vars.f k c) (varsT (flatT c)):=by
 have hl:=(isClause_of h).1
 obtain⟨r,e,ar,mr⟩:=spec_l4Vars_l0 c [] [] (by simpa using (by omega:c.length≤1000)) (clause_toks h) List.Pairwise.nil (by simp)
 have:r=varsT (flatT c):=asc_ext _ _ ar (varsT_asc _) (fun y=>by
  rw[mr,varsT_mem]
  constructor
  ·rintro (h' | ⟨h0,t,ht,hd⟩)
   ·simp at h'
   ·have:=(clause_lo h t ht _ hd).2
    exact⟨⟨h0,by omega⟩,t,ht,hd⟩
  ·rintro⟨⟨h0,_⟩,t,ht,hd⟩
   exact .inr ⟨h0,t,ht,hd⟩)
 subst this
 simp only[spec_l4Vars.f]
 simpa using e
theorem impl_vars_ev {s:List Int} {c:List S83} (h:isClause s c=true):impl_termsOf.f c=some (flatT c)∧Ev (fun k=>impl_varsIn.f k (flatT c)) (varsT (flatT c)):=by
 obtain⟨h1,h2,_⟩:=flat_small h
 exact⟨by unfold impl_termsOf.f;rw[if_pos (by omega)],impl_varsIn_ev _ (fun t ht=>by have:=h2 t ht;omega)⟩
def varsIn (s:List Int)(c:List S83):List Int × Bool:=if goodClause s c=true then (varsT (flatT c),true) else ([],false)
theorem impl_VarsIn_ev (s:List Int)(c:List S83):Ev (fun k=>impl_VarsIn.f k s c) (varsIn s c):=by
 unfold varsIn
 simp only[impl_VarsIn.f]
 refine Ev.bnd (impl_GoodClause_ev s c) ?_
 by_cases g:goodClause s c=true
 ·rw[if_pos g]
  have hc:isClause s c=true:=by unfold goodClause at g;rw[Bool.and_eq_true]at g;exact g.2
  obtain⟨e1,e2⟩:=impl_vars_ev hc
  exact Ev.pos g (Ev.bnd1 e1 (Ev.bnd e2 (Ev.ret _)))
 ·rw[if_neg g];exact Ev.neg g (Ev.ret _)
theorem spec_VarsIn_ev (s:List Int)(hs:s.length≤1048576)(c:List S83)(hl:c.length≤1048576):Ev (fun k=>spec_VarsIn.f k s c) (varsIn s c):=by
 unfold varsIn
 simp only[spec_VarsIn.f]
 refine Ev.bnd (spec_GoodClause_ev s hs c hl) ?_
 by_cases g:goodClause s c=true
 ·rw[if_pos g]
  have hc:isClause s c=true:=by unfold goodClause at g;rw[Bool.and_eq_true]at g;exact g.2
  exact Ev.pos g (Ev.bnd (spec_vars_ev hc) (Ev.ret _))
 ·rw[if_neg g];exact Ev.neg g (Ev.ret _)
def hv (n:Nat):List Nat→Nat
 | []=>0
 | d :: r=>d+n*hv n r
theorem hv_rep (n i:Nat)(r:List Nat):hv n (List.replicate i 0++r)=n ^ i*hv n r:=by
 induction i with
 | zero=>simp
 | succ i ih=>rw[List.replicate_succ,List.cons_append,hv,ih,Nat.zero_add,Nat.pow_succ,Nat.mul_comm (n ^ i) n,Nat.mul_assoc]
theorem hv_lt (n:Nat)(D:List Nat)(h:∀ d∈D,d<n):hv n D+1≤n ^ D.length:=by
 induction D with
 | nil=>simp[hv]
 | cons d r ih=>
  have h1:=h d (by simp)
  have h2:=Nat.mul_le_mul_left n (ih (fun x hx=>h x (by simp[hx])))
  rw[hv,List.length_cons,Nat.pow_succ,Nat.mul_comm (n ^ r.length) n]
  rw[Nat.mul_add]at h2
  omega
theorem hv_inj (n:Nat)(D:List Nat):∀ E:List Nat,D.length=E.length→(∀ d∈D,d<n)→(∀ d∈E,d<n)→hv n D=hv n E→D=E:=by
 induction D with
 | nil=>intro E hl _ _ _;exact (List.eq_nil_of_length_eq_zero hl.symm).symm
 | cons d r ih=>
  intro E hl h1 h2 he
  cases E with
  | nil=>simp at hl
  | cons d2 r2=>
   have g1:=h1 d (by simp)
   have g2:=h2 d2 (by simp)
   rw[hv,hv]at he
   have hm:=congrArg (· % n) he
   simp only[Nat.add_mul_mod_self_left,Nat.mod_eq_of_lt g1,Nat.mod_eq_of_lt g2]at hm
   subst hm
   have hx:n*hv n r=n*hv n r2:=by omega
   have:=Nat.eq_of_mul_eq_mul_left (by omega) hx
   rw[ih r2 (by simpa using hl) (fun x hx=>h1 x (by simp[hx])) (fun x hx=>h2 x (by simp[hx])) this]
theorem hv_top (n:Nat)(D:List Nat)(h:∀ d∈D,d+1=n):hv n D+1=n ^ D.length:=by
 induction D with
 | nil=>simp[hv]
 | cons d r ih=>
  have h1:=h d (by simp)
  have h2:=ih (fun x hx=>h x (by simp[hx]))
  rw[hv,List.length_cons,Nat.pow_succ,Nat.mul_comm (n ^ r.length) n,← h2,Nat.mul_add]
  omega
structure En (V:List Int) (D:List Nat) (e:List Int):Prop where
 l:e.length=12
 g:∀ i:Nat,i<V.length→e.getD (V.getD (V.length - 1 - i) 0).toNat 0=((D.getD i 0:Nat):Int)
 z:∀ j:Nat,j<12→(j:Int) ∉ V→e.getD j 0=0
structure Vs (V:List Int):Prop where
 r:∀ v∈V,0≤v∧v<12
 a:asc V
theorem Vs.at_ {V:List Int} (h:Vs V) {p:Nat} (hp:p<V.length):V.getD p 0=V[p]∧0≤V[p]∧V[p]<12:=by
 refine⟨by simp[List.getD_eq_getElem?_getD,List.getElem?_eq_getElem hp],h.r _ (List.getElem_mem hp)⟩
theorem Vs.ne {V:List Int} (h:Vs V) {p q:Nat} (hp:p<V.length)(hq:q<V.length)(hne:p≠q):V[p]≠V[q]:=by
 have hn:V.Pairwise (·≠·):=h.a.imp (fun h=>by omega)
 intro e
 rcases Nat.lt_or_gt_of_ne hne with g | g
 ·exact List.pairwise_iff_getElem.1 hn p q hp hq g e
 ·exact List.pairwise_iff_getElem.1 hn q p hq hp g e.symm
theorem Vs.len {V:List Int} (h:Vs V):V.length≤12:=by
 by_cases g:V.length≤12
 ·exact g
 ·exfalso
  have hmono:∀ p:Nat,(hp:p<V.length)→(p:Int)≤V[p]:=by
   intro p
   induction p with
   | zero=>intro hp;exact (h.at_ hp).2.1
   | succ p ihp=>
    intro hp
    have h1:=ihp (by omega)
    have h2:=List.pairwise_iff_getElem.1 h.a p (p+1) (by omega) hp (by omega)
    omega
  have:=hmono 12 (by omega)
  have:=(h.at_ (p:=12) (by omega)).2.2
  omega
theorem getD_set_eq (e:List Int)(j:Nat)(x:Int)(h:j<e.length):(e.set j x).getD j 0=x:=by
 rw[List.getD_eq_getElem?_getD,List.getElem?_set_self h];rfl
theorem getD_set_ne (e:List Int)(i j:Nat)(x:Int)(h:i≠j):(e.set i x).getD j 0=e.getD j 0:=by
 rw[List.getD_eq_getElem?_getD,List.getElem?_set_ne h,← List.getD_eq_getElem?_getD]
theorem getDN_set_eq (e:List Nat)(j x:Nat)(h:j<e.length):(e.set j x).getD j 0=x:=by
 rw[List.getD_eq_getElem?_getD,List.getElem?_set_self h];rfl
theorem getDN_set_ne (e:List Nat)(i j x:Nat)(h:i≠j):(e.set i x).getD j 0=e.getD j 0:=by
 rw[List.getD_eq_getElem?_getD,List.getElem?_set_ne h,← List.getD_eq_getElem?_getD]
theorem En.set {V:List Int} {D:List Nat} {e:List Int} (hV:Vs V)(hD:D.length=V.length)(h:En V D e)(i:Nat)(hi:i<V.length)(x:Nat) :
  En V (D.set i x) (e.set (V.getD (V.length - 1 - i) 0).toNat (x:Int)):=by
 have hp:V.length - 1 - i<V.length:=by omega
 obtain⟨e1,r1,r2⟩:=hV.at_ hp
 rw[e1]
 refine⟨by rw[List.length_set];exact h.l,fun i' hi'=>?_,fun j hj hv=>?_⟩
 ·by_cases g:i'=i
  ·subst g
   rw[e1,getD_set_eq _ _ _ (by rw[h.l];omega),getDN_set_eq _ _ _ (by omega)]
  ·have hp':V.length - 1 - i'<V.length:=by omega
   obtain⟨e1',r1',r2'⟩:=hV.at_ hp'
   have hne:=hV.ne hp hp' (by omega)
   rw[getDN_set_ne _ _ _ _ (fun q=>g q.symm),← h.g i' hi',e1',getD_set_ne _ _ _ _ (by omega)]
 ·rw[getD_set_ne,h.z j hj hv]
  intro q
  exact hv (by rw[show (j:Int)=V[V.length - 1 - i] by omega];exact List.getElem_mem hp)
theorem rep_set (i d x:Nat)(r:List Nat):(List.replicate i 0++d :: r).set i x=List.replicate i 0++x :: r:=by
 rw[List.set_append_right _ _ (by simp)]
 simp
theorem rep_get (i d:Nat)(r:List Nat):(List.replicate i 0++d :: r).getD i 0=d:=by
 rw[List.getD_eq_getElem?_getD,List.getElem?_append_right (by simp)]
 simp
theorem fa_inner (c:List S83)(V:List Int)(hV:Vs V)(s:List Int)(n:Nat)(h1:1≤n)(h3:n≤3)(tb:List (List Int))(r:List Nat):∀ (i:Nat) (e:List Int),i+r.length=V.length→(∀ d∈r,d<n)→En V (List.replicate i 0++r) e →
  ((∀ d∈r,d+1=n)∧Ev (fun k=>impl_Sign_falseAt.l1 k c V e ((r.length:Int) - 1) s (n:Int) tb) ([],false)) ∨
  ∃ D e',D.length=V.length∧(∀ d∈D,d<n)∧En V D e'∧hv n D=n ^ i*(hv n r+1)∧∀ R,Ev (fun k=>impl_Sign_falseAt.l0 k c V e' s (n:Int) tb) R→Ev (fun k=>impl_Sign_falseAt.l1 k c V e ((r.length:Int) - 1) s (n:Int) tb) R:=by
 induction r with
 | nil=>
  intro i e hi hd he
  refine .inl ⟨by simp,Ev.succ ?_⟩
  simp only[impl_Sign_falseAt.l1,List.length_nil]
  exact Ev.neg (by omega) (Ev.pos (by omega) (Ev.ret _))
 | cons d r ih=>
  intro i e hi hd he
  simp only[List.length_cons]at hi
  have hidx:(((d :: r).length:Nat):Int) - 1=(r.length:Int):=by simp only[List.length_cons];omega
  rw[hidx]
  have hp:r.length<V.length:=by omega
  obtain⟨e1,r1,r2⟩:=hV.at_ hp
  have hrd:rd V (r.length:Int)=V[r.length]:=rd_nat V r.length hp
  have hpi:V.length - 1 - i=r.length:=by omega
  have hg:=he.g i (by omega)
  rw[hpi,e1,rep_get]at hg
  have hge:rd e V[r.length]=(d:Int):=by unfold rd;exact hg
  have hset:=fun x=>he.set hV (by rw[List.length_append,List.length_replicate,List.length_cons];omega) i (by omega) x
  simp only[hpi,e1,rep_set]at hset
  have hdn:=hd d (by simp)
  have hvl:=hV.len
  by_cases g:d+1=n
  ·have hw:wrap64 ((n:Int) - 1)=(d:Int):=by rw[w64 (by omega) (by omega)];omega
   have hs0:=hset 0
   rw[show List.replicate i 0++0 :: r=List.replicate (i+1) 0++r by rw[List.replicate_succ',List.append_assoc];rfl]at hs0
   have step:∀ R,Ev (fun k=>impl_Sign_falseAt.l1 k c V (e.set V[r.length].toNat ((0:Nat):Int)) ((r.length:Int) - 1) s (n:Int) tb) R→Ev (fun k=>impl_Sign_falseAt.l1 k c V e (r.length:Int) s (n:Int) tb) R:=by
    intro R hR
    refine Ev.succ ?_
    simp only[impl_Sign_falseAt.l1]
    rw[hrd,hge,hw,w64 (x:=(r.length:Int) - 1) (by omega) (by omega)]
    exact Ev.pos (by omega) (Ev.pos (by omega) (Ev.pos (by omega) (Ev.pos r1 (Ev.pos (by rw[he.l];omega) (Ev.pos rfl hR)))))
   rcases ih (i+1) _ (by omega) (fun x hx=>hd x (by simp[hx])) hs0 with ⟨ht,hE⟩ | ⟨D,e',q1,q2,q3,q4,q5⟩
   ·refine .inl ⟨fun x hx=>?_,step _ hE⟩
    rcases List.mem_cons.1 hx with rfl | hx
    ·exact g
    ·exact ht x hx
   ·refine .inr ⟨D,e',q1,q2,q3,?_,fun R hR=>step _ (q5 R hR)⟩
    rw[q4,hv,Nat.pow_succ,Nat.mul_assoc]
    congr 1
    rw[Nat.mul_add]
    omega
  ·have hw:wrap64 ((n:Int) - 1)=((n - 1:Nat):Int):=by rw[w64 (by omega) (by omega)];omega
   refine .inr ⟨List.replicate i 0++(d+1) :: r,_,?_,?_,hset (d+1),?_,fun R hR=>Ev.succ ?_⟩
   ·rw[List.length_append,List.length_replicate,List.length_cons];omega
   ·intro x hx
    rcases List.mem_append.1 hx with hx | hx
    ·rw[List.eq_of_mem_replicate hx];omega
    ·rcases List.mem_cons.1 hx with rfl | hx
     ·omega
     ·exact hd x (by simp[hx])
   ·rw[hv_rep,hv,hv]
    congr 1
    omega
   ·simp only[impl_Sign_falseAt.l1]
    rw[hrd,hge,hw,w64 (x:=(d:Int)+1) (by omega) (by omega)]
    refine Ev.pos (by omega) (Ev.pos (by omega) (Ev.pos (by omega) (Ev.pos r1 (Ev.pos (by rw[he.l];omega) (Ev.neg (by omega) (Ev.neg (by omega) ?_))))))
    simpa using hR
theorem En.eq {V:List Int} (hV:Vs V) {D:List Nat} {e e':List Int} (h:En V D e) (h':En V D e'):e=e':=by
 refine List.ext_getElem (by rw[h.l,h'.l]) (fun j hj hj'=>?_)
 have q:e.getD j 0=e'.getD j 0:=by
  have hj2:=h.l
  by_cases g:(j:Int)∈V
  ·obtain⟨p,hp,e1⟩:=List.mem_iff_getElem.1 g
   have a:=h.g (V.length - 1 - p) (by omega)
   have b:=h'.g (V.length - 1 - p) (by omega)
   rw[show V.length - 1 - (V.length - 1 - p)=p by omega,(hV.at_ hp).1,e1,Int.toNat_natCast]at a b
   rw[a,b]
  ·rw[h.z j (by omega) g,h'.z j (by omega) g]
 simpa [List.getD_eq_getElem?_getD,List.getElem?_eq_getElem hj,List.getElem?_eq_getElem hj'] using q
theorem En.env {V:List Int} {D:List Nat} {e:List Int} {n:Nat} (h1:1≤n)(hV:Vs V)(h:En V D e)(hD:D.length=V.length)(hd:∀ d∈D,d<n):isEnv (n:Int) e=true:=by
 unfold isEnv inAll
 rw[decide_eq_true h.l,Bool.true_and,List.all_eq_true]
 intro x hx
 obtain⟨j,hj,rfl⟩:=List.mem_iff_getElem.1 hx
 have hj2:=h.l
 have q:e.getD j 0=e[j]:=by simp[List.getD_eq_getElem?_getD,List.getElem?_eq_getElem hj]
 rw[← q]
 by_cases g:(j:Int)∈V
 ·obtain⟨p,hp,e1⟩:=List.mem_iff_getElem.1 g
  have a:=h.g (V.length - 1 - p) (by omega)
  rw[show V.length - 1 - (V.length - 1 - p)=p by omega,(hV.at_ hp).1,e1,Int.toNat_natCast]at a
  rw[a]
  have hi:V.length - 1 - p<D.length:=by omega
  have:=hd (D.getD (V.length - 1 - p) 0) (by simp[List.getD_eq_getElem?_getD,List.getElem?_eq_getElem hi])
  exact decide_eq_true ⟨by omega,by omega⟩
 ·rw[h.z j (by omega) g]
  exact decide_eq_true ⟨by omega,by omega⟩
theorem evs_congr (s:List Int)(sz:Nat)(tb:List (List Int)) (e e':List Int)(f:Nat):∀ (m:Nat) (i:Int) (t:List Int),(∀ x∈t,x<0→rd e (-1 - x)=rd e' (-1 - x))→evs s sz tb e f m i t=evs s sz tb e' f m i t∧∀ x∈(evs s sz tb e f m i t).2,x∈t:=by
 induction f with
 | zero=>intro m i t h;exact⟨rfl,fun x hx=>hx⟩
 | succ f ih=>
  intro m i t h
  cases m with
  | zero=>exact⟨rfl,fun x hx=>hx⟩
  | succ m=>
   cases t with
   | nil=>exact⟨rfl,fun x hx=>hx⟩
   | cons n t=>
    have ht:∀ x∈t,x<0→rd e (-1 - x)=rd e' (-1 - x):=fun x hx=>h x (by simp[hx])
    simp only[evs]
    by_cases g:n<0
    ·rw[if_pos g,if_pos g,← h n (by simp) g]
     have:=ih m (i*sz+rd e (-1 - n)) t ht
     exact⟨this.1,fun x hx=>by simp[this.2 x hx]⟩
    ·rw[if_neg g,if_neg g]
     obtain⟨a1,a2⟩:=ih (ar s n) 0 t ht
     rw[← a1]
     obtain⟨b1,b2⟩:=ih m (i*sz+rd (rd_L2 tb n) (evs s sz tb e f (ar s n) 0 t).1) (evs s sz tb e f (ar s n) 0 t).2 (fun x hx=>ht x (a2 x hx))
     exact⟨b1,fun x hx=>by simp[a2 x (b2 x hx)]⟩
theorem holds_congr (s:List Int)(sz:Int)(tb:List (List Int)) (e e':List Int)(c:List S83)(h:∀ t∈flatT c,∀ x∈t,x<0→rd e (-1 - x)=rd e' (-1 - x)):c.any (litHolds s sz tb e)=c.any (litHolds s sz tb e'):=by
 induction c with
 | nil=>rfl
 | cons x c ih=>
  rw[List.any_cons,List.any_cons,ih (fun t ht=>h t (by simp[flatT,ht]))]
  congr 1
  unfold litHolds valT
  rw[(evs_congr s sz.toNat tb e e' x.f1.length 1 0 x.f1 (h x.f1 (by simp[flatT]))).1,(evs_congr s sz.toNat tb e e' x.f2.length 1 0 x.f2 (h x.f2 (by simp[flatT]))).1]
theorem fa_l0 {s:List Int} {n:Nat} {tb:List (List Int)} (gw:goodWorld s (n:Int) tb=true)(c:List S83)(hc:isClause s c=true)(V:List Int)(hV:Vs V)(N:Nat):∀ (D:List Nat) (e:List Int),D.length=V.length→(∀ d∈D,d<n)→En V D e→n ^ V.length≤hv n D+N →
  ∃ x b,Ev (fun k=>impl_Sign_falseAt.l0 k c V e s (n:Int) tb) (x,b)∧(b=true→∃ e',isEnv (n:Int) e'=true∧c.any (litHolds s (n:Int) tb e')=false) ∧
   (b=false→∀ D' e',D'.length=V.length→(∀ d∈D',d<n)→En V D' e'→hv n D≤hv n D'→c.any (litHolds s (n:Int) tb e')=true):=by
 induction N with
 | zero=>
  intro D e hl hd he hN
  have:=hv_lt n D hd
  rw[hl]at this
  omega
 | succ N ih=>
  intro D e hl hd he hN
  obtain⟨m,hm,w0⟩:=WF_mk gw (he.env (n:=n) (by
   rcases Nat.eq_zero_or_pos n with h0 | h0
   ·subst h0
    unfold goodWorld wOk at gw
    simp at gw
   ·exact h0) hV hl hd)
  have hmn:m=n:=by omega
  subst hmn
  have hh:=impl_holds_ev w0 c (isClause_of hc).2
  by_cases g:c.any (litHolds s (m:Int) tb e)=true
  ·rw[g]at hh
   have hin:=fa_inner c V hV s m w0.s1 w0.s3 tb D 0 e (by omega) hd (by simpa using he)
   rw[hl]at hin
   rcases hin with ⟨ht,hE⟩ | ⟨D2,e2,q1,q2,q3,q4,q5⟩
   ·refine⟨[],false,Ev.succ ?_,fun h=>absurd h (by simp),fun _ D' e' hl' hd' he' hle=>?_⟩
    ·simp only[impl_Sign_falseAt.l0]
     have:=hV.len
     rw[w64 (x:=(V.length:Int) - 1) (by omega) (by omega)]
     exact Ev.bnd hh (Ev.pos rfl hE)
    ·have h1:=hv_top m D ht
     have h2:=hv_lt m D' hd'
     rw[hl]at h1
     rw[hl']at h2
     have:=hv_inj m D D' (by omega) hd hd' (by omega)
     subst this
     rw[← En.eq hV he he']
     exact g
   ·rw[Nat.pow_zero,Nat.one_mul]at q4
    obtain⟨x,b,e1,e2',e3⟩:=ih D2 e2 q1 q2 q3 (by omega)
    refine⟨x,b,Ev.succ ?_,e2',fun hb D' e' hl' hd' he' hle=>?_⟩
    ·simp only[impl_Sign_falseAt.l0]
     have:=hV.len
     rw[w64 (x:=(V.length:Int) - 1) (by omega) (by omega)]
     exact Ev.bnd hh (Ev.pos rfl (q5 _ e1))
    ·by_cases g2:hv m D=hv m D'
     ·have:=hv_inj m D D' (by omega) hd hd' g2
      subst this
      rw[← En.eq hV he he']
      exact g
     ·exact e3 hb D' e' hl' hd' he' (by omega)
  ·rw[Bool.eq_false_iff.2 g]at hh
   refine⟨e,true,Ev.succ ?_,fun _=>⟨e,he.env w0.s1 hV hl hd,Bool.eq_false_iff.2 g⟩,fun h=>absurd h (by simp)⟩
   simp only[impl_Sign_falseAt.l0]
   exact Ev.bnd hh (Ev.neg (by simp) (Ev.ret _))
theorem mem_snoc_if (n:Int)(met:List Int):n∈(if n∈met then met else met++[n]):=by
 split
 ·assumption
 ·simp
theorem rnT_ext (t:List Int):∀ met,∃ e,(rnT met t).1=met++e:=by
 induction t with
 | nil=>intro met;exact⟨[],by simp[rnT]⟩
 | cons n t ih=>
  intro met
  simp only[rnT]
  split
  ·exact ih met
  ·obtain⟨e,he⟩:=ih (if n∈met then met else met++[n])
   rw[he]
   split
   ·exact⟨e,rfl⟩
   ·exact⟨n :: e,by simp⟩
theorem rnT_nodup (t:List Int):∀ met:List Int,met.Nodup→(rnT met t).1.Nodup:=by
 induction t with
 | nil=>intro met h;simpa [rnT] using h
 | cons n t ih=>
  intro met h
  simp only[rnT]
  split
  ·exact ih met h
  ·refine ih _ ?_
   split
   ·exact h
   ·rename_i g
    rw[List.nodup_append]
    exact⟨h,by simp,fun a ha b hb=>by simp at hb;subst hb;exact fun q=>g (q ▸ ha)⟩
theorem rnT_mem (t:List Int):∀ (met:List Int) (x:Int),x∈(rnT met t).1↔x∈met∨(x<0∧x∈t):=by
 induction t with
 | nil=>intro met x;simp[rnT]
 | cons n t ih=>
  intro met x
  simp only[rnT]
  split
  ·rename_i g
   rw[ih,List.mem_cons]
   constructor
   ·rintro (h | h)
    ·exact .inl h
    ·exact .inr ⟨h.1,.inr h.2⟩
   ·rintro (h | ⟨h,h2 | h2⟩)
    ·exact .inl h
    ·exfalso;omega
    ·exact .inr ⟨h,h2⟩
  ·rename_i g
   rw[ih,List.mem_cons]
   have hm:x∈(if n∈met then met else met++[n])↔x∈met∨x=n:=by
    split
    ·rename_i h
     exact⟨.inl,fun q=>q.elim id (fun q=>q ▸ h)⟩
    ·simp
   rw[hm]
   constructor
   ·rintro ((h | h) | h)
    ·exact .inl h
    ·exact .inr ⟨by omega,.inl h⟩
    ·exact .inr ⟨h.1,.inr h.2⟩
   ·rintro (h | ⟨h,h2 | h2⟩)
    ·exact .inl (.inl h)
    ·exact .inl (.inr h2)
    ·exact .inr ⟨h,h2⟩
def ro (M:List Int)(n:Int):Int:=if 0≤n then n else -1 - ((M.idxOf n:Nat):Int)
theorem idx_ext (met e:List Int)(n:Int)(h:n∈met):(met++e).idxOf n=met.idxOf n:=by rw[List.idxOf_append,if_pos h]
theorem rnT_map (t:List Int):∀ (met e:List Int),(rnT met t).2=t.map (ro ((rnT met t).1++e)):=by
 induction t with
 | nil=>intro met e;simp[rnT]
 | cons n t ih=>
  intro met e
  simp only[rnT]
  split
  ·rename_i g
   rw[List.map_cons,← ih met e]
   congr 1
   unfold ro
   rw[if_pos g]
  ·rename_i g
   rw[List.map_cons,← ih _ e]
   congr 1
   unfold ro
   rw[if_neg g]
   obtain⟨e2,he⟩:=rnT_ext t (if n∈met then met else met++[n])
   rw[he,List.append_assoc,idx_ext _ _ _ (mem_snoc_if n met)]
def rnM:List Int→List (List Int)→List Int
 | met,[]=>met
 | met,x :: l=>rnM (rnT met x).1 l
theorem rnM_ext (l:List (List Int)):∀ met,∃ e,rnM met l=met++e:=by
 induction l with
 | nil=>intro met;exact⟨[],by simp[rnM]⟩
 | cons x l ih=>
  intro met
  obtain⟨e1,h1⟩:=rnT_ext x met
  obtain⟨e2,h2⟩:=ih (rnT met x).1
  exact⟨e1++e2,by simp only[rnM];rw[h2,h1,List.append_assoc]⟩
theorem rnM_nodup (l:List (List Int)):∀ met:List Int,met.Nodup→(rnM met l).Nodup:=by
 induction l with
 | nil=>intro met h;exact h
 | cons x l ih=>intro met h;exact ih _ (rnT_nodup x met h)
theorem rnM_mem (l:List (List Int)):∀ (met:List Int) (x:Int),x∈rnM met l↔x∈met∨(x<0∧∃ t∈l,x∈t):=by
 induction l with
 | nil=>intro met x;simp[rnM]
 | cons y l ih=>
  intro met x
  simp only[rnM]
  rw[ih,rnT_mem]
  constructor
  ·rintro ((h | h) | ⟨h,t,ht,hx⟩)
   ·exact .inl h
   ·exact .inr ⟨h.1,y,by simp,h.2⟩
   ·exact .inr ⟨h,t,by simp[ht],hx⟩
  ·rintro (h | ⟨h,t,ht,hx⟩)
   ·exact .inl (.inl h)
   ·rcases List.mem_cons.1 ht with rfl | ht
    ·exact .inl (.inr ⟨h,hx⟩)
    ·exact .inr ⟨h,t,ht,hx⟩
theorem rnL_map (l:List (List Int)):∀ met:List Int,rnL met l=l.map (fun t=>t.map (ro (rnM met l))):=by
 induction l with
 | nil=>intro met;rfl
 | cons x l ih=>
  intro met
  simp only[rnL,rnM,List.map_cons]
  rw[ih]
  congr 1
  obtain⟨e,he⟩:=rnM_ext l (rnT met x).1
  rw[he]
  exact rnT_map x met e
def roLit (M:List Int)(x:S83):S83:=⟨x.f0,x.f1.map (ro M),x.f2.map (ro M)⟩
theorem flat_get (f:List Int→List Int)(c:List S83):∀ (pre:List S83) (n:Nat),n<c.length→rd_L2 ((flatT (pre++c)).map f) (2*((pre.length+n:Nat):Int))=f (rd_T83 (pre++c) ((pre.length+n:Nat):Int)).f1∧rd_L2 ((flatT (pre++c)).map f) (2*((pre.length+n:Nat):Int)+1)=f (rd_T83 (pre++c) ((pre.length+n:Nat):Int)).f2:=by
 induction c with
 | nil=>intro pre n h;simp at h
 | cons x c ih=>
  intro pre n h
  cases n with
  | zero=>
   have fl:∀ p:List S83,flatT (p++x :: c)=flatT p++x.f1 :: x.f2 :: flatT c:=by
    intro p
    induction p with
    | nil=>rfl
    | cons y p ih=>simp only[List.cons_append,flatT,ih]
   have hl:=flat_len pre
   rw[Nat.add_zero,rdLB_mid,fl]
   unfold rd_L2
   rw[show (2*((pre.length:Nat):Int)).toNat=(flatT pre).length by omega,show (2*((pre.length:Nat):Int)+1).toNat=(flatT pre).length+1 by omega,List.map_append]
   constructor
   ·rw[List.getD_eq_getElem?_getD,List.getElem?_append_right (by simp)];simp
   ·rw[List.getD_eq_getElem?_getD,List.getElem?_append_right (by simp)];simp
  | succ n=>
   have:=ih (pre++[x]) n (by simpa using h)
   rw[List.append_assoc,List.singleton_append,List.length_append,List.length_singleton,show pre.length+1+n=pre.length+(n+1) by omega]at this
   exact this
theorem zip_map (M:List Int)(c:List S83)(n:Nat):n≤c.length→zipN c ((flatT c).map (fun t=>t.map (ro M))) n=(c.take n).map (roLit M):=by
 induction n with
 | zero=>intro h;simp[zipN]
 | succ n ih=>
  intro h
  have hg:=flat_get (fun t=>t.map (ro M)) c [] n (by omega)
  simp only[List.nil_append,List.length_nil,Nat.zero_add]at hg
  have hr:rd_T83 c (n:Int)=c[n]:=by unfold rd_T83;simp[List.getD_eq_getElem?_getD,List.getElem?_eq_getElem (show n<c.length by omega)]
  simp only[zipN]
  rw[ih (by omega),hg.1,hg.2,hr,List.take_succ_eq_append_getElem (by omega),List.map_append]
  rfl
def rnC (c:List S83):List Int:=rnM [] (flatT c)
theorem renT_map (c:List S83):renT c=c.map (roLit (rnC c)):=by
 unfold renT
 rw[rnL_map,zip_map _ c c.length (Nat.le_refl _),List.take_length]
 rfl
theorem flat_ro (M:List Int)(c:List S83):flatT (c.map (roLit M))=(flatT c).map (fun t=>t.map (ro M)):=by
 induction c with
 | nil=>rfl
 | cons x c ih=>simp only[List.map_cons,flatT,ih];rfl
theorem ar_ro (s M:List Int)(n:Int):ar s (ro M n)=ar s n:=by
 unfold ro
 split
 ·rfl
 ·unfold ar
  rw[if_pos (by omega),if_pos (by omega)]
theorem eat_ro (s M:List Int)(t:List Int):∀ m r,(∀ n∈t,tok s n=true→tok s (ro M n)=true)→eat s t m=some r→eat s (t.map (ro M)) m=some (r.map (ro M)):=by
 induction t with
 | nil=>
  intro m r _ h
  cases m with
  | zero=>simp[eat]at h ⊢;exact h
  | succ m=>simp[eat]at h
 | cons n t ih=>
  intro m r ht h
  cases m with
  | zero=>
   simp only[eat,Option.some.injEq]at h
   subst h
   simp[eat]
  | succ m=>
   simp only[eat]at h
   split at h
   ·rename_i g
    simp only[List.map_cons,eat]
    rw[if_pos (ht n (by simp) g),ar_ro]
    exact ih _ _ (fun x hx=>ht x (by simp[hx])) h
   ·cases h
theorem evs_ro (s:List Int)(sz:Nat)(tb:List (List Int)) (M e e':List Int)(f:Nat):∀ (m:Nat) (i:Int) (t:List Int),(∀ x∈t,x<0→rd e (-1 - x)=rd e' ((M.idxOf x:Nat):Int)) →
  (evs s sz tb e' f m i (t.map (ro M))).1=(evs s sz tb e f m i t).1∧(evs s sz tb e' f m i (t.map (ro M))).2=(evs s sz tb e f m i t).2.map (ro M)∧∀ x∈(evs s sz tb e f m i t).2,x∈t:=by
 induction f with
 | zero=>intro m i t h;exact⟨rfl,rfl,fun x hx=>hx⟩
 | succ f ih=>
  intro m i t h
  cases m with
  | zero=>exact⟨rfl,rfl,fun x hx=>hx⟩
  | succ m=>
   cases t with
   | nil=>exact⟨rfl,rfl,fun x hx=>hx⟩
   | cons n t=>
    have ht:∀ x∈t,x<0→rd e (-1 - x)=rd e' ((M.idxOf x:Nat):Int):=fun x hx=>h x (by simp[hx])
    simp only[List.map_cons,evs]
    by_cases g:n<0
    ·have hr:ro M n = -1 - ((M.idxOf n:Nat):Int):=by unfold ro;rw[if_neg (by omega)]
     rw[if_pos g,hr,if_pos (by omega),show -1 - (-1 - ((M.idxOf n:Nat):Int))=((M.idxOf n:Nat):Int) by omega,← h n (by simp) g]
     obtain⟨a,b,c⟩:=ih m (i*sz+rd e (-1 - n)) t ht
     exact⟨a,b,fun x hx=>by simp[c x hx]⟩
    ·have hr:ro M n=n:=by unfold ro;rw[if_pos (by omega)]
     rw[hr,if_neg g,if_neg g]
     obtain⟨a1,a2,a3⟩:=ih (ar s n) 0 t ht
     rw[a1,a2]
     obtain⟨b1,b2,b3⟩:=ih m (i*sz+rd (rd_L2 tb n) (evs s sz tb e f (ar s n) 0 t).1) (evs s sz tb e f (ar s n) 0 t).2 (fun x hx=>ht x (a3 x hx))
     exact⟨b1,b2,fun x hx=>by simp[a3 x (b3 x hx)]⟩
theorem holds_ro (s:List Int)(sz:Int)(tb:List (List Int)) (M e e':List Int)(c:List S83)(h:∀ t∈flatT c,∀ x∈t,x<0→rd e (-1 - x)=rd e' ((M.idxOf x:Nat):Int)):(c.map (roLit M)).any (litHolds s sz tb e')=c.any (litHolds s sz tb e):=by
 induction c with
 | nil=>rfl
 | cons x c ih=>
  rw[List.map_cons,List.any_cons,List.any_cons,ih (fun t ht=>h t (by simp[flatT,ht]))]
  congr 1
  unfold litHolds valT roLit
  simp only[List.length_map]
  rw[(evs_ro s sz.toNat tb M e e' x.f1.length 1 0 x.f1 (h x.f1 (by simp[flatT]))).1,(evs_ro s sz.toNat tb M e e' x.f2.length 1 0 x.f2 (h x.f2 (by simp[flatT]))).1]
theorem rnC_mem {s:List Int} {c:List S83} (hc:isClause s c=true)(x:Int):x∈rnC c↔(-12≤x∧x<0)∧∃ t∈flatT c,x∈t:=by
 unfold rnC
 rw[rnM_mem]
 constructor
 ·rintro (h | ⟨h,t,ht,hx⟩)
  ·simp at h
  ·exact⟨⟨(clause_lo hc t ht x hx).2,h⟩,t,ht,hx⟩
 ·rintro⟨⟨_,h⟩,t,ht,hx⟩
  exact .inr ⟨h,t,ht,hx⟩
theorem rnC_len {s:List Int} {c:List S83} (hc:isClause s c=true):(rnC c).length=(varsT (flatT c)).length:=by
 have h1:((rnC c).map (fun x=>-1 - x)).Nodup:=by
  unfold List.Nodup
  rw[List.pairwise_map]
  exact (rnM_nodup (flatT c) [] (by simp)).imp (fun h q=>h (by omega))
 have h2:(varsT (flatT c)).Nodup:=(varsT_asc (flatT c)).imp (fun h=>by omega)
 have hp:=(List.perm_ext_iff_of_nodup h1 h2).2 (fun v=>by
  rw[varsT_mem,List.mem_map]
  constructor
  ·rintro⟨x,hx,rfl⟩
   obtain⟨h,t,ht,hxt⟩:=(rnC_mem hc x).1 hx
   exact⟨⟨by omega,by omega⟩,t,ht,by rwa [show -1 - (-1 - x)=x by omega]⟩
  ·rintro⟨⟨h0,h1⟩,t,ht,hx⟩
   exact⟨-1 - v,(rnC_mem hc _).2 ⟨⟨by omega,by omega⟩,t,ht,hx⟩,by omega⟩)
 have:=hp.length_eq
 rwa [List.length_map]at this
theorem rnC_le {s:List Int} {c:List S83} (hc:isClause s c=true):(rnC c).length≤12:=by
 rw[rnC_len hc];exact varsT_len _
theorem idx_lt {M:List Int} {x:Int} (h:x∈M):M.idxOf x<M.length:=List.idxOf_lt_length_of_mem h
theorem tok_ro {s:List Int} {c:List S83} (hc:isClause s c=true)(t:List Int)(ht:t∈flatT c)(n:Int)(hn:n∈t)(h:tok s n=true):tok s (ro (rnC c) n)=true:=by
 unfold ro
 split
 ·exact h
 ·have hl:=rnC_le hc
  have hm:n∈rnC c:=(rnC_mem hc n).2 ⟨⟨(clause_lo hc t ht n hn).2,by omega⟩,t,ht,hn⟩
  have:=idx_lt hm
  unfold tok
  exact decide_eq_true ⟨by omega,by omega⟩
theorem ren_isClause {s:List Int} {c:List S83} (hc:isClause s c=true):isClause s (renT c)=true:=by
 obtain⟨h1,h2⟩:=isClause_of hc
 rw[renT_map]
 unfold isClause
 rw[Bool.and_eq_true,decide_eq_true_eq,List.all_eq_true,List.length_map]
 refine⟨h1,fun y hy=>?_⟩
 obtain⟨x,hx,rfl⟩:=List.mem_map.1 hy
 have fm:∀ (c:List S83),x∈c→x.f1∈flatT c∧x.f2∈flatT c:=by
  intro c
  induction c with
  | nil=>intro h;simp at h
  | cons y c ih=>
   intro h
   rcases List.mem_cons.1 h with rfl | h
   ·simp[flatT]
   ·have:=ih h
    simp[flatT,this.1,this.2]
 have f:∀ t,t∈flatT c→isTerm s t=true→isTerm s (t.map (ro (rnC c)))=true:=fun t ht hT=>by
  unfold isTerm at hT ⊢
  simp only[Bool.and_eq_true,decide_eq_true_eq,beq_iff_eq]at hT ⊢
  rw[List.length_map]
  exact⟨hT.1,eat_ro s (rnC c) t 1 [] (fun n hn h=>tok_ro hc t ht n hn h) hT.2⟩
 obtain⟨t1,t2⟩:=isLit_of (h2 x hx)
 unfold isLit roLit
 rw[Bool.and_eq_true]
 exact⟨f _ (fm c hx).1 t1,f _ (fm c hx).2 t2⟩
theorem ren_vars {s:List Int} {c:List S83} (hc:isClause s c=true):(varsT (flatT (renT c))).length=(varsT (flatT c)).length:=by
 have hl:=rnC_le hc
 rw[← rnC_len hc]
 have:varsT (flatT (renT c))=(List.range (rnC c).length).map (fun n:Nat=>(n:Int)):=by
  refine asc_ext _ _ (varsT_asc _) ?_ (fun v=>?_)
  ·unfold asc
   rw[List.pairwise_map]
   exact List.pairwise_lt_range.imp (fun h=>by omega)
  ·rw[varsT_mem,renT_map,flat_ro,List.mem_map]
   constructor
   ·rintro⟨⟨h0,h1⟩,t,ht,hx⟩
    obtain⟨u,hu,rfl⟩:=List.mem_map.1 ht
    obtain⟨n,hn,e⟩:=List.mem_map.1 hx
    unfold ro at e
    split at e
    ·exfalso;omega
    ·have hm:n∈rnC c:=(rnC_mem hc n).2 ⟨⟨(clause_lo hc u hu n hn).2,by omega⟩,u,hu,hn⟩
     exact⟨(rnC c).idxOf n,List.mem_range.2 (idx_lt hm),by omega⟩
   ·rintro⟨i,hi,rfl⟩
    rw[List.mem_range]at hi
    have hm:(rnC c)[i]∈rnC c:=List.getElem_mem hi
    obtain⟨hr,u,hu,hx⟩:=(rnC_mem hc _).1 hm
    refine⟨⟨by omega,by omega⟩,_,List.mem_map.2 ⟨u,hu,rfl⟩,List.mem_map.2 ⟨(rnC c)[i],hx,?_⟩⟩
    unfold ro
    have hnd:(rnC c).Nodup:=rnM_nodup _ [] (by simp)
    rw[if_neg (by omega),List.Nodup.idxOf_getElem hnd]
 rw[this,List.length_map,List.length_range]
theorem isEnv_of {n:Int} {e:List Int} (h:isEnv n e=true):e.length=12∧∀ j:Nat,j<12→0≤e.getD j 0∧e.getD j 0≤n - 1:=by
 unfold isEnv inAll at h
 rw[Bool.and_eq_true,decide_eq_true_eq,List.all_eq_true]at h
 refine⟨h.1,fun j hj=>?_⟩
 have hj2:j<e.length:=by omega
 have:=h.2 e[j] (List.getElem_mem hj2)
 rw[decide_eq_true_eq]at this
 simpa [List.getD_eq_getElem?_getD,List.getElem?_eq_getElem hj2] using this
theorem isEnv_mk {n:Nat} (h1:1≤n)(f:Nat→Int)(h:∀ j,j<12→0≤f j∧f j≤(n:Int) - 1):isEnv (n:Int) ((List.range 12).map f)=true:=by
 unfold isEnv inAll
 rw[Bool.and_eq_true,decide_eq_true_eq,List.all_eq_true]
 refine⟨by simp,fun x hx=>?_⟩
 obtain⟨j,hj,rfl⟩:=List.mem_map.1 hx
 rw[List.mem_range]at hj
 exact decide_eq_true (h j hj)
theorem getD_range (f:Nat→Int)(j:Nat)(h:j<12):((List.range 12).map f).getD j 0=f j:=by
 simp[List.getD_eq_getElem?_getD,List.getElem?_eq_getElem (show j<(List.range 12).length by simpa using h)]
theorem rename_all {s:List Int} {n:Nat} (h1:1≤n)(tb:List (List Int)) {c:List S83} (hc:isClause s c=true) :
  (∀ e,isEnv (n:Int) e=true→c.any (litHolds s (n:Int) tb e)=true)↔∀ e,isEnv (n:Int) e=true→(renT c).any (litHolds s (n:Int) tb e)=true:=by
 have hl:=rnC_le hc
 rw[renT_map]
 constructor
 ·intro h e he
  obtain⟨el,ein⟩:=isEnv_of he
  have hm:∀ x∈rnC c,(rnC c).idxOf x<12:=fun x hx=>by have:=idx_lt hx;omega
  have h2:=h ((List.range 12).map (fun (v:Nat)=>if (-1 - (v:Int))∈rnC c then e.getD ((rnC c).idxOf (-1 - (v:Int))) 0 else 0)) (isEnv_mk h1 _ (fun j hj=>by
   split
   ·rename_i g;exact ein _ (hm _ g)
   ·omega))
  rw[← h2]
  refine holds_ro s _ tb (rnC c) _ e c (fun t ht x hx hneg=>?_)
  have hlo:=(clause_lo hc t ht x hx).2
  have hxm:x∈rnC c:=(rnC_mem hc x).2 ⟨⟨hlo,hneg⟩,t,ht,hx⟩
  unfold rd
  rw[getD_range _ _ (by omega),show -1 - (((-1 - x).toNat:Nat):Int)=x by omega,if_pos hxm,Int.toNat_natCast]
 ·intro h e he
  obtain⟨el,ein⟩:=isEnv_of he
  have hin:∀ j,j<(rnC c).length→(-1 - (rnC c).getD j 0).toNat<12:=fun j hj=>by
   have hm:(rnC c)[j]∈rnC c:=List.getElem_mem hj
   have:=((rnC_mem hc _).1 hm).1
   rw[show (rnC c).getD j 0=(rnC c)[j] by simp[List.getD_eq_getElem?_getD,List.getElem?_eq_getElem hj]]
   omega
  have h2:=h ((List.range 12).map (fun (j:Nat)=>if j<(rnC c).length then e.getD (-1 - (rnC c).getD j 0).toNat 0 else 0)) (isEnv_mk h1 _ (fun j hj=>by
   split
   ·rename_i g;exact ein _ (hin j g)
   ·omega))
  rw[← h2]
  refine (holds_ro s _ tb (rnC c) e _ c (fun t ht x hx hneg=>?_)).symm
  have hlo:=(clause_lo hc t ht x hx).2
  have hxm:x∈rnC c:=(rnC_mem hc x).2 ⟨⟨hlo,hneg⟩,t,ht,hx⟩
  have hi:=idx_lt hxm
  have hg:(rnC c).getD ((rnC c).idxOf x) 0=x:=by
   rw[List.getD_eq_getElem?_getD,List.getElem?_eq_getElem hi,Option.getD_some,List.getElem_idxOf]
  unfold rd
  rw[Int.toNat_natCast,getD_range _ _ (by omega),if_pos hi,hg]
def sidesT2 (x y:S83):Bool:=(decide (x.f1=y.f1) && decide (x.f2=y.f2)) || (decide (x.f1=y.f2) && decide (x.f2=y.f1))
def smL2 (x:S83):Prop:=x.f1.length≤1000000∧x.f2.length≤1000000
theorem spec_sameTerms_ev (x y:S83)(hx:smL2 x):Ev (fun k=>spec_l4SameTerms.f k x.f0 x.f1 x.f2 y.f0 y.f1 y.f2) (sidesT2 x y):=by
 simp only[spec_l4SameTerms.f,sidesT2]
 have e1:=spec_l1Same_ev x.f1 y.f1 hx.1
 have e2:=spec_l1Same_ev x.f2 y.f2 hx.2
 have e3:=spec_l1Same_ev x.f1 y.f2 hx.1
 have e4:=spec_l1Same_ev x.f2 y.f1 hx.2
 refine Ev.bnd e1 ?_
 by_cases g1:x.f1=y.f1
 ·refine Ev.pos (decide_eq_true g1) (Ev.bnd e2 ?_)
  by_cases g2:x.f2=y.f2
  ·exact Ev.pos (decide_eq_true g2) (Ev.eq (Ev.ret _) (by rw[decide_eq_true g1,decide_eq_true g2];rfl))
  ·refine Ev.neg (by rw[decide_eq_false g2];simp) (Ev.bnd e3 ?_)
   by_cases g3:x.f1=y.f2
   ·exact Ev.pos (decide_eq_true g3) (Ev.bnd e4 (Ev.eq (Ev.ret _) (by rw[decide_eq_false g2,decide_eq_true g3,Bool.and_false,Bool.false_or,Bool.true_and])))
   ·exact Ev.neg (by rw[decide_eq_false g3];simp) (Ev.eq (Ev.ret _) (by rw[decide_eq_false g2,decide_eq_false g3,Bool.and_false,Bool.false_and];rfl))
 ·refine Ev.neg (by rw[decide_eq_false g1];simp) (Ev.bnd e3 ?_)
  by_cases g3:x.f1=y.f2
  ·exact Ev.pos (decide_eq_true g3) (Ev.bnd e4 (Ev.eq (Ev.ret _) (by rw[decide_eq_false g1,decide_eq_true g3,Bool.false_and,Bool.false_or,Bool.true_and])))
  ·exact Ev.neg (by rw[decide_eq_false g3];simp) (Ev.eq (Ev.ret _) (by rw[decide_eq_false g1,decide_eq_false g3,Bool.false_and,Bool.false_and];rfl))
theorem impl_sameSides_ev (x y:S83)(hx:smL2 x):Ev (fun k=>impl_sameSides.f k x.f0 x.f1 x.f2 y.f0 y.f1 y.f2) (sidesT2 x y):=by
 simp only[impl_sameSides.f,sidesT2]
 have e1:=impl_Equal_ev x.f1 y.f1 hx.1
 have e2:=impl_Equal_ev x.f2 y.f2 hx.2
 have e3:=impl_Equal_ev x.f1 y.f2 hx.1
 have e4:=impl_Equal_ev x.f2 y.f1 hx.2
 refine Ev.bnd e1 ?_
 by_cases g1:x.f1=y.f1
 ·refine Ev.pos (decide_eq_true g1) (Ev.bnd e2 ?_)
  by_cases g2:x.f2=y.f2
  ·exact Ev.pos (decide_eq_true g2) (Ev.eq (Ev.ret _) (by rw[decide_eq_true g1,decide_eq_true g2];rfl))
  ·refine Ev.neg (by rw[decide_eq_false g2];simp) (Ev.bnd e3 ?_)
   by_cases g3:x.f1=y.f2
   ·exact Ev.pos (decide_eq_true g3) (Ev.bnd e4 (Ev.eq (Ev.ret _) (by rw[decide_eq_false g2,decide_eq_true g3,Bool.and_false,Bool.false_or,Bool.true_and])))
   ·exact Ev.neg (by rw[decide_eq_false g3];simp) (Ev.eq (Ev.ret _) (by rw[decide_eq_false g2,decide_eq_false g3,Bool.and_false,Bool.false_and];rfl))
 ·refine Ev.neg (by rw[decide_eq_false g1];simp) (Ev.bnd e3 ?_)
  by_cases g3:x.f1=y.f2
  ·exact Ev.pos (decide_eq_true g3) (Ev.bnd e4 (Ev.eq (Ev.ret _) (by rw[decide_eq_false g1,decide_eq_true g3,Bool.false_and,Bool.false_or,Bool.true_and])))
  ·exact Ev.neg (by rw[decide_eq_false g3];simp) (Ev.eq (Ev.ret _) (by rw[decide_eq_false g1,decide_eq_false g3,Bool.false_and,Bool.false_and];rfl))
theorem anyO_ev2 {α:Type} (f:Nat→α→Option Bool)(p:α→Bool)(l:List α)(h:∀ x∈l,Ev (fun k=>f k x) (p x)):Ev (fun k=>anyO (fun x=>f k x) l) (l.any p):=by
 have:=anyO_ev f (fun x=>!p x) l (fun x hx=>Ev.eq (h x hx) (by simp))
 refine Ev.eq this ?_
 rw[List.any_eq_not_all_not]
theorem own_eqB (l:List Int)(h:l.length≤1048576):spec_l1Own.f l=some l:=by
 unfold spec_l1Own.f
 rw[Option.bind_some,if_pos (by simp;omega),List.nil_append]
theorem l4Own_l0 (post:List S83):∀ pre:List S83,(pre++post).length≤1048576→(∀ x∈post,smLit x)→Ev (fun k=>spec_l4Own.l0 k pre (pre++post) ((pre++post).length:Int) (pre.length:Int)) (pre++post):=by
 induction post with
 | nil=>
  intro pre hl hk
  refine Ev.succ ?_
  simp only[spec_l4Own.l0]
  exact Ev.neg (by simp) (Ev.eq (Ev.ret _) (by simp))
 | cons x post ih=>
  intro pre hl hk
  have hx:=hk x (by simp)
  unfold smLit at hx
  have h:=ih (pre++[x]) (by simpa using hl) (fun y hy=>hk y (by simp[hy]))
  simp only[List.length_append,List.length_cons]at hl
  refine Ev.succ ?_
  simp only[spec_l4Own.l0]
  rw[w64 (x:=(pre.length:Int)+1) (by omega) (by omega),rdLB_mid]
  refine Ev.pos (by simp only[List.length_append,List.length_cons];omega) (Ev.pos (by omega) (Ev.pos (by simp only[List.length_append,List.length_cons];omega) (Ev.bnd1 (own_eqB x.f1 (by omega)) (Ev.bnd1 (own_eqB x.f2 (by omega)) (Ev.pos (by omega) ?_)))))
  simpa using h
theorem l4Own_ev (l:List S83)(hl:l.length≤1048576)(hk:∀ x∈l,smLit x):Ev (fun k=>spec_l4Own.f k l) l:=by
 simp only[spec_l4Own.f]
 simpa using l4Own_l0 l [] (by simpa using hl) hk
def sameLit (x y:S83):Bool:=(x.f0 == y.f0) && sidesT2 x y
def dropLit (acc:List S83)(x:S83):Bool:=(!x.f0 && decide (x.f1=x.f2)) || acc.any (sameLit x)
def tidT:List S83→List S83→List S83
 | acc,[]=>acc
 | acc,x :: t=>if dropLit acc x=true then tidT acc t else tidT (acc++[x]) t
theorem l4any_ev (x:S83)(hx:smL2 x)(l:List S83):∀ b,Ev (fun k=>l4any k x l b) (b || l.any (sameLit x)):=by
 induction l with
 | nil=>intro b;exact Ev.eq (Ev.ret _) (by simp)
 | cons y t ih=>
  intro b
  simp only[l4any]
  cases b with
  | true=>exact Ev.pos rfl (Ev.eq (ih true) (by simp))
  | false=>
   refine Ev.neg (by simp) ?_
   by_cases g:(x.f0 == y.f0)=true
   ·refine Ev.pos g (Ev.bnd (spec_sameTerms_ev x y hx) (Ev.eq (ih _) ?_))
    rw[List.any_cons,sameLit,g,Bool.true_and,Bool.false_or]
   ·refine Ev.neg g (Ev.eq (ih false) ?_)
    rw[List.any_cons,sameLit,Bool.eq_false_iff.2 g,Bool.false_and,Bool.false_or,Bool.false_or]
theorem impl_tidy_any_ev (x:S83)(hx:smL2 x)(l:List S83):Ev (fun k=>impl_tidy_1_any.f k l x.f0 x.f1 x.f2) (l.any (sameLit x)):=by
 simp only[impl_tidy_1_any.f]
 refine anyO_ev2 _ _ _ (fun y _=>?_)
 simp only[impl_tidy_1.f]
 by_cases g:(x.f0 == y.f0)=true
 ·exact Ev.pos g (Ev.bnd (impl_sameSides_ev x y hx) (Ev.eq (Ev.ret _) (by rw[sameLit,g,Bool.true_and])))
 ·exact Ev.neg g (Ev.eq (Ev.ret _) (by rw[sameLit,Bool.eq_false_iff.2 g,Bool.false_and]))
theorem l4tid_ev (l:List S83)(hl:∀ x∈l,smL2 x):∀ acc,Ev (fun k=>l4tid k acc l) (tidT acc l):=by
 induction l with
 | nil=>intro acc;exact Ev.ret _
 | cons x t ih=>
  intro acc
  have hx:=hl x (by simp)
  have ih:=ih (fun y hy=>hl y (by simp[hy]))
  simp only[l4tid,tidT]
  have hs:Ev (fun k=>if x.f0=true then some false else spec_l1Same.f k x.f1 x.f2) (!x.f0 && decide (x.f1=x.f2)):=by
   by_cases g:x.f0=true
   ·exact Ev.pos g (Ev.eq (Ev.ret _) (by rw[g];rfl))
   ·exact Ev.neg g (Ev.eq (spec_l1Same_ev x.f1 x.f2 hx.1) (by rw[Bool.eq_false_iff.2 g];rfl))
  refine Ev.bnd hs ?_
  by_cases g:(!x.f0 && decide (x.f1=x.f2))=true
  ·exact Ev.pos g (Ev.eq (ih acc) (by rw[if_pos (show dropLit acc x=true by unfold dropLit;rw[g,Bool.true_or])]))
  ·refine Ev.neg g (Ev.bnd (l4any_ev x hx acc false) ?_)
   rw[Bool.false_or]
   by_cases g2:acc.any (sameLit x)=true
   ·exact Ev.pos g2 (Ev.eq (ih acc) (by rw[if_pos (show dropLit acc x=true by unfold dropLit;rw[g2,Bool.or_true])]))
   ·exact Ev.neg g2 (Ev.eq (ih _) (by rw[if_neg (show ¬ dropLit acc x=true by unfold dropLit;rw[Bool.eq_false_iff.2 g,Bool.eq_false_iff.2 g2];simp)]))
theorem tidI_ev (l:List S83)(hl:∀ x∈l,smL2 x):∀ acc,Ev (fun k=>tidI k acc l) (tidT acc l):=by
 induction l with
 | nil=>intro acc;exact Ev.ret _
 | cons x t ih=>
  intro acc
  have hx:=hl x (by simp)
  have ih:=ih (fun y hy=>hl y (by simp[hy]))
  simp only[tidI,tidT]
  have hs:Ev (fun k=>if x.f0=true then some false else slices_Equal_int_int.f k x.f1 x.f2) (!x.f0 && decide (x.f1=x.f2)):=by
   by_cases g:x.f0=true
   ·exact Ev.pos g (Ev.eq (Ev.ret _) (by rw[g];rfl))
   ·exact Ev.neg g (Ev.eq (impl_Equal_ev x.f1 x.f2 hx.1) (by rw[Bool.eq_false_iff.2 g];rfl))
  refine Ev.bnd hs ?_
  by_cases g:(!x.f0 && decide (x.f1=x.f2))=true
  ·exact Ev.pos g (Ev.eq (ih acc) (by rw[if_pos (show dropLit acc x=true by unfold dropLit;rw[g,Bool.true_or])]))
  ·refine Ev.neg g (Ev.bnd (impl_tidy_any_ev x hx acc) ?_)
   by_cases g2:acc.any (sameLit x)=true
   ·exact Ev.pos g2 (Ev.eq (ih acc) (by rw[if_pos (show dropLit acc x=true by unfold dropLit;rw[g2,Bool.or_true])]))
   ·refine Ev.neg g2 (Ev.bnd1 (a:=(x.f0,x.f1,x.f2)) ?_ (Ev.eq (ih _) (by rw[if_neg (show ¬ dropLit acc x=true by unfold dropLit;rw[Bool.eq_false_iff.2 g,Bool.eq_false_iff.2 g2];simp)])))
    simp only[impl_copyLit.f,slices_Clone_int_int.f]
    rw[if_pos (by have:=hx.1;omega),if_pos (by have:=hx.2;omega)]
    rfl
theorem tidT_mem (l:List S83):∀ acc,∀ y∈tidT acc l,y∈acc∨y∈l:=by
 induction l with
 | nil=>intro acc y h;exact .inl h
 | cons x t ih=>
  intro acc y h
  rw[tidT]at h
  split at h
  ·rcases ih acc y h with h | h
   ·exact .inl h
   ·exact .inr (List.mem_cons_of_mem _ h)
  ·rcases ih _ y h with h | h
   ·rcases List.mem_append.1 h with h | h
    ·exact .inl h
    ·rw[List.mem_singleton]at h;exact .inr (by simp[h])
   ·exact .inr (List.mem_cons_of_mem _ h)
theorem tidT_len (l:List S83):∀ acc,(tidT acc l).length≤acc.length+l.length:=by
 induction l with
 | nil=>intro acc;exact Nat.le_refl _
 | cons x t ih=>
  intro acc
  rw[tidT]
  split
  ·have:=ih acc;simp only[List.length_cons];omega
  ·have:=ih (acc++[x]);simp only[List.length_append,List.length_cons,List.length_nil]at this ⊢;omega
theorem spec_tidy_ev (l:List S83)(h1:l.length≤1048576)(hl:∀ x∈l,smL2 x):Ev (fun k=>spec_l4Tidy.f k l) (tidT [] l):=by
 simp only[spec_l4Tidy.f]
 refine Ev.pos h1 (Ev.bnd (l4tid_ev l hl []) (l4Own_ev _ (by have:=tidT_len l [];simp only[List.length_nil]at this;omega) (fun y hy=>?_)))
 have:=(tidT_mem l [] y hy).resolve_left (by simp)
 have:=hl y this
 unfold smL2 at this
 unfold smLit
 omega
theorem impl_tidy_ev (l:List S83)(h1:l.length≤1048576)(hl:∀ x∈l,smL2 x):Ev (fun k=>impl_tidy.f k l) (tidT [] l):=by
 simp only[impl_tidy.f]
 exact Ev.pos h1 (tidI_ev l hl [])
def selfT (x:S83):Bool:=x.f0 && decide (x.f1=x.f2)
def opp (x y:S83):Bool:=(x.f0 != y.f0) && sidesT2 x y
theorem opp_symm (x y:S83):opp x y=opp y x:=by
 unfold opp sidesT2
 congr 1
 ·cases x.f0 <;> cases y.f0 <;> rfl
 ·rw[Bool.eq_iff_iff]
  simp only[Bool.or_eq_true,Bool.and_eq_true,decide_eq_true_eq]
  constructor
  ·rintro (⟨a,b⟩ | ⟨a,b⟩)
   ·exact .inl ⟨a.symm,b.symm⟩
   ·exact .inr ⟨b.symm,a.symm⟩
  ·rintro (⟨a,b⟩ | ⟨a,b⟩)
   ·exact .inl ⟨a.symm,b.symm⟩
   ·exact .inr ⟨b.symm,a.symm⟩
theorem opp_self (x:S83):opp x x=false:=by unfold opp;simp
def specB:List S83→List S83→Bool
 | _,[]=>false
 | pre,x :: t=>selfT x || pre.any (opp x) || specB (pre++[x]) t
def tautT (c:List S83):Bool:=c.any fun x=>selfT x || c.any (opp x)
theorem specB_iff (post:List S83):∀ pre:List S83,specB pre post=true↔(∃ x∈post,selfT x=true∨(∃ y∈pre,opp x y=true)∨∃ y∈post,opp x y=true):=by
 induction post with
 | nil=>intro pre;simp[specB]
 | cons x t ih=>
  intro pre
  simp only[specB,Bool.or_eq_true,List.any_eq_true,ih]
  constructor
  ·rintro ((h | ⟨y,hy,h⟩) | ⟨z,hz,h⟩)
   ·exact⟨x,by simp,.inl h⟩
   ·exact⟨x,by simp,.inr (.inl ⟨y,hy,h⟩)⟩
   ·rcases h with h | ⟨y,hy,h⟩ | ⟨y,hy,h⟩
    ·exact⟨z,by simp[hz],.inl h⟩
    ·rcases List.mem_append.1 hy with hy | hy
     ·exact⟨z,by simp[hz],.inr (.inl ⟨y,hy,h⟩)⟩
     ·rw[List.mem_singleton]at hy
      subst hy
      exact⟨z,by simp[hz],.inr (.inr ⟨y,by simp,h⟩)⟩
    ·exact⟨z,by simp[hz],.inr (.inr ⟨y,by simp[hy],h⟩)⟩
  ·rintro⟨z,hz,h⟩
   rcases List.mem_cons.1 hz with e | hz2
   ·rw[e]at h
    rcases h with h | ⟨y,hy,h⟩ | ⟨y,hy,h⟩
    ·exact .inl (.inl h)
    ·exact .inl (.inr ⟨y,hy,h⟩)
    ·rcases List.mem_cons.1 hy with e2 | hy2
     ·rw[e2,opp_self]at h;cases h
     ·exact .inr ⟨y,hy2,.inr (.inl ⟨x,by simp,by rw[opp_symm];exact h⟩)⟩
   ·rcases h with h | ⟨y,hy,h⟩ | ⟨y,hy,h⟩
    ·exact .inr ⟨z,hz2,.inl h⟩
    ·exact .inr ⟨z,hz2,.inr (.inl ⟨y,by simp[hy],h⟩)⟩
    ·rcases List.mem_cons.1 hy with e2 | hy2
     ·rw[e2]at h
      exact .inr ⟨z,hz2,.inr (.inl ⟨x,by simp,h⟩)⟩
     ·exact .inr ⟨z,hz2,.inr (.inr ⟨y,hy2,h⟩)⟩
theorem specB_taut (c:List S83):specB [] c=tautT c:=by
 rw[Bool.eq_iff_iff,specB_iff]
 unfold tautT
 simp only[List.any_eq_true,Bool.or_eq_true]
 constructor
 ·rintro⟨x,hx,h | ⟨y,hy,_⟩ | h⟩
  ·exact⟨x,hx,.inl h⟩
  ·simp at hy
  ·exact⟨x,hx,.inr h⟩
 ·rintro⟨x,hx,h | h⟩
  ·exact⟨x,hx,.inl h⟩
  ·exact⟨x,hx,.inr (.inr h)⟩
theorem spec_taut_l1 (c0 c1:List S83)(m i:Int)(x:S83)(hx:smL2 x)(r:Bool)(hr:Ev (fun k=>spec_l4Tautology.l0 k c0 c1 m (wrap64 (i+1))) r)(post:List S83):∀ pre:List S83,(pre++post).length≤1048576 →
  Ev (fun k=>spec_l4Tautology.l1 k c0 c1 m i (pre++post) ((pre++post).length:Int) (pre.length:Int) x.f0 x.f1 x.f2) (post.any (opp x) || r):=by
 induction post with
 | nil=>
  intro pre hl
  refine Ev.succ ?_
  simp only[spec_l4Tautology.l1]
  exact Ev.neg (by simp) (Ev.eq hr (by simp))
 | cons y post ih=>
  intro pre hl
  have h:=ih (pre++[y]) (by simpa using hl)
  simp only[List.length_append,List.length_cons]at hl
  refine Ev.succ ?_
  simp only[spec_l4Tautology.l1]
  refine Ev.pos (by simp only[List.length_append,List.length_cons];omega) (Ev.pos (by omega) (Ev.pos (by simp only[List.length_append,List.length_cons];omega) ?_))
  rw[rdLB_mid,w64 (x:=(pre.length:Int)+1) (by omega) (by omega)]
  rw[List.any_cons]
  by_cases g:(x.f0 != y.f0)=true
  ·refine Ev.pos g (Ev.bnd (spec_sameTerms_ev x y hx) ?_)
   by_cases g2:sidesT2 x y=true
   ·exact Ev.pos g2 (Ev.eq (Ev.ret _) (by unfold opp;rw[g,g2];rfl))
   ·exact Ev.neg g2 (Ev.eq (by simpa using h) (by unfold opp;rw[Bool.eq_false_iff.2 g2,Bool.and_false,Bool.false_or]))
  ·exact Ev.neg g (Ev.eq (by simpa using h) (by unfold opp;rw[Bool.eq_false_iff.2 g,Bool.false_and,Bool.false_or]))
theorem spec_taut_l0 (post:List S83):∀ pre:List S83,(pre++post).length≤1048576→(∀ x∈post,smL2 x) →
  Ev (fun k=>spec_l4Tautology.l0 k (pre++post) (pre++post) ((pre++post).length:Int) (pre.length:Int)) (specB pre post):=by
 induction post with
 | nil=>
  intro pre hl hx
  refine Ev.succ ?_
  simp only[spec_l4Tautology.l0]
  exact Ev.neg (by simp) (Ev.eq (Ev.ret _) rfl)
 | cons x post ih=>
  intro pre hl hx
  have h:=ih (pre++[x]) (by simpa using hl) (fun y hy=>hx y (by simp[hy]))
  have hl':=hl
  simp only[List.length_append,List.length_cons]at hl
  have e1:wrap64 ((pre.length:Int)+1)=(pre.length:Int)+1:=w64 (by omega) (by omega)
  have h2:=spec_taut_l1 (pre++x :: post) (pre++x :: post) ((pre++x :: post).length:Int) (pre.length:Int) x (hx x (by simp)) (specB (pre++[x]) post) (by rw[e1];simpa using h) pre [] (by simp;omega)
  simp only[List.nil_append,List.length_nil]at h2
  have hj:∀ b:Bool,Ev (fun k=>spec_l4Tautology.j1 k (pre++x :: post) (pre.length:Int) (pre++x :: post) ((pre++x :: post).length:Int) (pre.length:Int) b x.f0 x.f1 x.f2) (b || (pre.any (opp x) || specB (pre++[x]) post)):=by
   intro b
   refine Ev.succ ?_
   simp only[spec_l4Tautology.j1]
   cases b with
   | true=>exact Ev.pos rfl (Ev.eq (Ev.ret _) rfl)
   | false=>
    refine Ev.neg (by simp) (Ev.pos (by omega) (Ev.pos (by simp only[List.length_append,List.length_cons];omega) (Ev.bnd1 rfl ?_)))
    rw[Int.toNat_natCast,List.take_left]
    exact Ev.eq h2 rfl
  refine Ev.succ ?_
  simp only[spec_l4Tautology.l0]
  refine Ev.pos (by simp only[List.length_append,List.length_cons];omega) (Ev.pos (by omega) (Ev.pos (by simp only[List.length_append,List.length_cons];omega) ?_))
  rw[rdLB_mid]
  simp only[specB,selfT]
  cases hf:x.f0 with
  | true=>
   have hj':=hj (decide (x.f1=x.f2))
   rw[hf]at hj'
   exact Ev.pos rfl (Ev.bnd (spec_l1Same_ev x.f1 x.f2 (hx x (by simp)).1) (Ev.eq hj' (by rw[Bool.true_and,Bool.or_assoc])))
  | false=>
   have hj':=hj false
   rw[hf]at hj'
   exact Ev.neg (by simp) (Ev.eq hj' (by rw[Bool.false_and,Bool.or_assoc]))
theorem spec_taut_ev (c:List S83)(hl:c.length≤1048576)(hx:∀ x∈c,smL2 x):Ev (fun k=>spec_l4Tautology.f k c) (tautT c):=by
 simp only[spec_l4Tautology.f]
 rw[← specB_taut]
 simpa using spec_taut_l0 c [] (by simpa using hl) hx
theorem impl_taut_any_ev (c:List S83)(x:S83)(hx:smL2 x):Ev (fun k=>impl_isTautology_1_any.f k c x.f0 x.f1 x.f2) (c.any (opp x)):=by
 simp only[impl_isTautology_1_any.f]
 refine anyO_ev2 _ _ _ (fun y _=>?_)
 simp only[impl_isTautology_1.f,opp]
 by_cases g:(x.f0 != y.f0)=true
 ·exact Ev.pos g (Ev.bnd (impl_sameSides_ev x y hx) (Ev.eq (Ev.ret _) (by rw[g,Bool.true_and])))
 ·exact Ev.neg g (Ev.eq (Ev.ret _) (by rw[Bool.eq_false_iff.2 g,Bool.false_and]))
theorem impl_taut_l0 (c:List S83)(post:List S83):∀ pre:List S83,(pre++post).length≤1048576→(∀ x∈post,smL2 x) →
  Ev (fun k=>impl_isTautology.l0 k c (pre++post) ((pre++post).length:Int) (pre.length:Int)) (post.any fun x=>selfT x || c.any (opp x)):=by
 induction post with
 | nil=>
  intro pre hl hx
  refine Ev.succ ?_
  simp only[impl_isTautology.l0]
  exact Ev.neg (by simp) (Ev.eq (Ev.ret _) rfl)
 | cons x post ih=>
  intro pre hl hx
  have h:=ih (pre++[x]) (by simpa using hl) (fun y hy=>hx y (by simp[hy]))
  simp only[List.length_append,List.length_cons]at hl
  have ha:=impl_taut_any_ev c x (hx x (by simp))
  refine Ev.succ ?_
  simp only[impl_isTautology.l0]
  refine Ev.pos (by simp only[List.length_append,List.length_cons];omega) (Ev.pos (by omega) (Ev.pos (by simp only[List.length_append,List.length_cons];omega) ?_))
  rw[rdLB_mid,w64 (x:=(pre.length:Int)+1) (by omega) (by omega),List.any_cons]
  have tail:∀ sf:Bool,sf=false→selfT x=sf→Ev (fun k=>(impl_isTautology_1_any.f k c x.f0 x.f1 x.f2).bind fun t=>if t=true then some true else impl_isTautology.l0 k c (pre++x :: post) ((pre++x :: post).length:Int) ((pre.length:Int)+1)) ((selfT x || c.any (opp x)) || post.any fun x=>selfT x || c.any (opp x)):=by
   rintro sf rfl e
   refine Ev.bnd ha ?_
   rw[e,Bool.false_or]
   by_cases g:c.any (opp x)=true
   ·exact Ev.pos g (Ev.eq (Ev.ret _) (by rw[g];rfl))
   ·exact Ev.neg g (Ev.eq (by simpa using h) (by rw[Bool.eq_false_iff.2 g,Bool.false_or]))
  by_cases hf:x.f0=true
  ·refine Ev.pos hf (Ev.bnd (impl_Equal_ev x.f1 x.f2 (hx x (by simp)).1) ?_)
   by_cases g:x.f1=x.f2
   ·exact Ev.pos (decide_eq_true g) (Ev.eq (Ev.ret _) (by unfold selfT;rw[hf,decide_eq_true g];rfl))
   ·exact Ev.neg (by rw[decide_eq_false g];simp) (tail false rfl (by unfold selfT;rw[decide_eq_false g,Bool.and_false]))
  ·exact Ev.neg hf (tail false rfl (by unfold selfT;rw[Bool.eq_false_iff.2 hf,Bool.false_and]))
theorem impl_taut_ev (c:List S83)(hl:c.length≤1048576)(hx:∀ x∈c,smL2 x):Ev (fun k=>impl_isTautology.f k c) (tautT c):=by
 simp only[impl_isTautology.f]
 unfold tautT
 simpa using impl_taut_l0 c c [] (by simpa using hl) hx
theorem sides_val {s:List Int} {sz:Int} {tb:List (List Int)} {env:List Int} {x y:S83} (h:sidesT2 x y=true):(valT s sz tb env x.f1 == valT s sz tb env x.f2)=(valT s sz tb env y.f1 == valT s sz tb env y.f2):=by
 unfold sidesT2 at h
 simp only[Bool.or_eq_true,Bool.and_eq_true,decide_eq_true_eq]at h
 rcases h with ⟨h1,h2⟩ | ⟨h1,h2⟩
 ·rw[h1,h2]
 ·rw[h1,h2,Bool.beq_comm]
theorem same_holds {s:List Int} {sz:Int} {tb:List (List Int)} {env:List Int} {x y:S83} (h:sameLit x y=true):litHolds s sz tb env x=litHolds s sz tb env y:=by
 unfold sameLit at h
 rw[Bool.and_eq_true,beq_iff_eq]at h
 unfold litHolds
 rw[sides_val h.2,h.1]
theorem drop_holds {s:List Int} {sz:Int} {tb:List (List Int)} {env:List Int} {acc:List S83} {x:S83} (h:dropLit acc x=true)(hx:litHolds s sz tb env x=true):acc.any (litHolds s sz tb env)=true:=by
 unfold dropLit at h
 rw[Bool.or_eq_true]at h
 rcases h with h | h
 ·rw[Bool.and_eq_true,decide_eq_true_eq]at h
  unfold litHolds at hx
  rw[h.2,beq_self_eq_true]at hx
  have h1:=h.1
  cases hf:x.f0 <;> rw[hf]at h1 hx <;> simp at h1 hx
 ·obtain⟨y,hy,hs⟩:=List.any_eq_true.1 h
  exact List.any_eq_true.2 ⟨y,hy,by rw[← same_holds hs];exact hx⟩
theorem tidT_holds (s:List Int)(sz:Int)(tb:List (List Int))(env:List Int)(l:List S83):∀ acc,(tidT acc l).any (litHolds s sz tb env)=(acc.any (litHolds s sz tb env) || l.any (litHolds s sz tb env)):=by
 induction l with
 | nil=>intro acc;simp[tidT]
 | cons x l ih=>
  intro acc
  simp only[tidT]
  split
  ·rename_i g
   rw[ih,List.any_cons]
   cases hx:litHolds s sz tb env x with
   | false=>rw[Bool.false_or]
   | true=>rw[drop_holds g hx,Bool.true_or,Bool.true_or]
  ·rw[ih,List.any_append,List.any_cons,List.any_cons,List.any_nil,Bool.or_false,Bool.or_assoc]
def cleanT:List S83→List S83→Prop
 | _,[]=>True
 | acc,x :: t=>dropLit acc x=false∧cleanT (acc++[x]) t
theorem cleanT_snoc (l:List S83)(x:S83):∀ acc,cleanT acc l→dropLit (acc++l) x=false→cleanT acc (l++[x]):=by
 induction l with
 | nil=>intro acc _ h;exact⟨by simpa using h,trivial⟩
 | cons y l ih=>intro acc h1 h2;exact⟨h1.1,ih _ h1.2 (by simpa using h2)⟩
theorem tidT_clean (l:List S83):∀ acc,cleanT [] acc→cleanT [] (tidT acc l):=by
 induction l with
 | nil=>intro acc h;exact h
 | cons x l ih=>
  intro acc h
  simp only[tidT]
  split
  ·exact ih acc h
  ·rename_i g
   exact ih _ (cleanT_snoc acc x [] h (by simpa using g))
theorem tidT_id (l:List S83):∀ acc,cleanT acc l→tidT acc l=acc++l:=by
 induction l with
 | nil=>intro acc _;simp[tidT]
 | cons x l ih=>
  intro acc h
  simp only[tidT]
  rw[if_neg (by rw[h.1];simp),ih _ h.2]
  simp
theorem tidT_twice (c:List S83):tidT [] (tidT [] c)=tidT [] c:=by
 rw[tidT_id _ [] (tidT_clean c [] trivial),List.nil_append]
theorem tidT_isClause {s:List Int} {c:List S83} (h:isClause s c=true):isClause s (tidT [] c)=true:=by
 obtain⟨h1,h2⟩:=isClause_of h
 have hl:=tidT_len c []
 unfold isClause
 rw[Bool.and_eq_true,decide_eq_true_eq,List.all_eq_true]
 refine⟨by simp only[List.length_nil]at hl;omega,fun x hx=>?_⟩
 rcases tidT_mem c [] x hx with q | q
 ·simp at q
 ·exact h2 x q
theorem taut_holds (s:List Int)(sz:Int)(tb:List (List Int))(env:List Int)(c:List S83)(h:tautT c=true):c.any (litHolds s sz tb env)=true:=by
 unfold tautT at h
 obtain⟨x,hx,h⟩:=List.any_eq_true.1 h
 rw[Bool.or_eq_true]at h
 rcases h with h | h
 ·unfold selfT at h
  rw[Bool.and_eq_true,decide_eq_true_eq]at h
  refine List.any_eq_true.2 ⟨x,hx,?_⟩
  unfold litHolds
  rw[h.2,h.1,beq_self_eq_true]
  rfl
 ·obtain⟨y,hy,h⟩:=List.any_eq_true.1 h
  unfold opp at h
  rw[Bool.and_eq_true]at h
  have hv:=sides_val (s:=s) (sz:=sz) (tb:=tb) (env:=env) h.2
  by_cases g:litHolds s sz tb env x=true
  ·exact List.any_eq_true.2 ⟨x,hx,g⟩
  ·refine List.any_eq_true.2 ⟨y,hy,?_⟩
   unfold litHolds at g ⊢
   rw[← hv]
   have h1:=h.1
   revert g h1
   cases (valT s sz tb env x.f1 == valT s sz tb env x.f2) <;> cases x.f0 <;> cases y.f0 <;> simp
def tidyR (s:List Int)(c:List S83):List S83 × Bool:=if goodClause s c=true then (tidT [] c,true) else ([],false)
theorem small_of {s:List Int} {c:List S83} (h:isClause s c=true):c.length≤8∧(∀ x∈c,smL2 x)∧∀ x∈c,smLit x:=by
 obtain⟨h1,h2⟩:=isClause_of h
 have q:∀ x∈c,x.f1.length≤40∧x.f2.length≤40:=fun x hx=>by
  obtain⟨t1,t2⟩:=isLit_of (h2 x hx)
  exact⟨(isTerm_of t1).1,(isTerm_of t2).1⟩
 exact⟨h1,fun x hx=>by have:=q x hx;exact⟨by omega,by omega⟩,fun x hx=>by have:=q x hx;exact⟨by omega,by omega⟩⟩
theorem clause_of_good {s:List Int} {c:List S83} (g:goodClause s c=true):goodSign s=true∧isClause s c=true:=by
 unfold goodClause at g
 rwa [Bool.and_eq_true]at g
theorem impl_TidyClause_ev (s:List Int)(c:List S83):Ev (fun k=>impl_TidyClause.f k s c) (tidyR s c):=by
 unfold tidyR
 simp only[impl_TidyClause.f]
 refine Ev.bnd (impl_GoodClause_ev s c) ?_
 by_cases g:goodClause s c=true
 ·obtain⟨h1,h2,h3⟩:=small_of (clause_of_good g).2
  rw[if_pos g]
  exact Ev.pos g (Ev.bnd (impl_tidy_ev c (by omega) h2) (Ev.ret _))
 ·rw[if_neg g];exact Ev.neg g (Ev.ret _)
theorem spec_TidyClause_ev (s:List Int)(hs:s.length≤1048576)(c:List S83)(hc:c.length≤1048576):Ev (fun k=>spec_TidyClause.f k s c) (tidyR s c):=by
 unfold tidyR
 simp only[spec_TidyClause.f]
 refine Ev.bnd (spec_GoodClause_ev s hs c hc) ?_
 by_cases g:goodClause s c=true
 ·obtain⟨h1,h2,h3⟩:=small_of (clause_of_good g).2
  rw[if_pos g]
  exact Ev.pos g (Ev.bnd (spec_tidy_ev c (by omega) h2) (Ev.ret _))
 ·rw[if_neg g];exact Ev.neg g (Ev.ret _)
def tautR (s:List Int)(c:List S83):Bool × Bool:=if goodClause s c=true then (tautT c,true) else (false,false)
theorem impl_IsTautology_ev (s:List Int)(c:List S83):Ev (fun k=>impl_IsTautology.f k s c) (tautR s c):=by
 unfold tautR
 simp only[impl_IsTautology.f]
 refine Ev.bnd (impl_GoodClause_ev s c) ?_
 by_cases g:goodClause s c=true
 ·obtain⟨h1,h2,h3⟩:=small_of (clause_of_good g).2
  rw[if_pos g]
  exact Ev.pos g (Ev.bnd (impl_taut_ev c (by omega) h2) (Ev.ret _))
 ·rw[if_neg g];exact Ev.neg g (Ev.ret _)
theorem spec_IsTautology_ev (s:List Int)(hs:s.length≤1048576)(c:List S83)(hc:c.length≤1048576):Ev (fun k=>spec_IsTautology.f k s c) (tautR s c):=by
 unfold tautR
 simp only[spec_IsTautology.f]
 refine Ev.bnd (spec_GoodClause_ev s hs c hc) ?_
 by_cases g:goodClause s c=true
 ·obtain⟨h1,h2,h3⟩:=small_of (clause_of_good g).2
  rw[if_pos g]
  exact Ev.pos g (Ev.bnd (spec_taut_ev c (by omega) h2) (Ev.ret _))
 ·rw[if_neg g];exact Ev.neg g (Ev.ret _)
theorem vars_Vs (ts:List (List Int)):Vs (varsT ts):=⟨fun v h=>((varsT_mem ts v).1 h).1,varsT_asc ts⟩
theorem holdsIn_ok {s:List Int} {n:Nat} {tb:List (List Int)} (gw:goodWorld s (n:Int) tb=true)(h1:1≤n) {c:List S83} (hc:isClause s c=true) :
  ∃ x,Ev (fun k=>impl_HoldsIn.f k s (n:Int) tb c) (x,decide ((varsT (flatT c)).length≤6))∧((varsT (flatT c)).length≤6→(x=true↔∀ e,isEnv (n:Int) e=true→c.any (litHolds s (n:Int) tb e)=true))∧(¬ (varsT (flatT c)).length≤6→x=false):=by
 obtain⟨e1,e2⟩:=impl_vars_ev hc
 have gs:goodSign s=true:=by unfold goodWorld at gw;rw[Bool.and_eq_true]at gw;exact gw.1
 have hw:=impl_GoodWorld_ev s (n:Int) tb
 rw[gw]at hw
 have hcl:=impl_isClause_ev s gs c
 rw[hc]at hcl
 have hask:Ev (fun k=>impl_Sign_isAsked.f k s c) (decide ((varsT (flatT c)).length≤6)):=by
  simp only[impl_Sign_isAsked.f]
  exact Ev.bnd hcl (Ev.pos rfl (Ev.bnd1 e1 (Ev.bnd e2 (Ev.eq (Ev.ret _) (by rw[decide_eq_decide];omega)))))
 by_cases g:(varsT (flatT c)).length≤6
 ·have hV:=vars_Vs (flatT c)
  have hEn:En (varsT (flatT c)) (List.replicate (varsT (flatT c)).length 0) (List.replicate 12 0):=by
   refine⟨by simp,fun i hi=>?_,fun j hj _=>?_⟩
   ·have:∀ (m:Nat) (j:Nat),(List.replicate m (0:Int)).getD j 0=0:=fun m j=>by
     rw[List.getD_eq_getElem?_getD,List.getElem?_replicate];split <;> rfl
    rw[this]
    have:(List.replicate (varsT (flatT c)).length 0).getD i 0=0:=by
     rw[List.getD_eq_getElem?_getD,List.getElem?_replicate];split <;> rfl
    rw[this];rfl
   ·rw[List.getD_eq_getElem?_getD,List.getElem?_replicate];split <;> rfl
  obtain⟨y,b,hE,hb1,hb2⟩:=fa_l0 gw c hc (varsT (flatT c)) hV (n ^ (varsT (flatT c)).length) (List.replicate (varsT (flatT c)).length 0) (List.replicate 12 0) (by simp) (fun d hd=>by rw[List.eq_of_mem_replicate hd];omega) hEn (by omega)
  refine⟨!b,?_,fun _=>?_,fun h=>absurd g h⟩
  ·simp only[impl_HoldsIn.f]
   refine Ev.bnd hw (Ev.pos rfl (Ev.bnd hask (Ev.pos (decide_eq_true g) (Ev.bnd (a:=(y,b)) ?_ (Ev.eq (Ev.ret _) (by rw[decide_eq_true g]))))))
   simp only[impl_Sign_falseAt.f]
   exact Ev.bnd1 e1 (Ev.bnd e2 (Ev.pos (by omega) hE))
  ·constructor
   ·intro hx e he
    have hbf:b=false:=by cases b <;> simp at hx ⊢
    obtain⟨el,ein⟩:=isEnv_of he
    have hz:∀ j:Nat,j<12→((List.range 12).map (fun (j:Nat)=>if (j:Int)∈varsT (flatT c) then e.getD j 0 else 0)).getD j 0=if (j:Int)∈varsT (flatT c) then e.getD j 0 else 0:=fun j hj=>getD_range _ j hj
    have:=hb2 hbf ((List.range (varsT (flatT c)).length).map (fun i=>(e.getD ((varsT (flatT c)).getD ((varsT (flatT c)).length - 1 - i) 0).toNat 0).toNat)) ((List.range 12).map (fun (j:Nat)=>if (j:Int)∈varsT (flatT c) then e.getD j 0 else 0)) (by simp) (fun d hd=>by
      obtain⟨i,hi,rfl⟩:=List.mem_map.1 hd
      rw[List.mem_range]at hi
      obtain⟨q1,q2,q3⟩:=hV.at_ (p:=(varsT (flatT c)).length - 1 - i) (by omega)
      rw[q1]
      have:=ein (varsT (flatT c))[(varsT (flatT c)).length - 1 - i].toNat (by omega)
      omega) ⟨by simp,fun i hi=>by
      obtain⟨q1,q2,q3⟩:=hV.at_ (p:=(varsT (flatT c)).length - 1 - i) (by omega)
      rw[q1,hz _ (by omega),if_pos (by rw[show (((varsT (flatT c))[(varsT (flatT c)).length - 1 - i].toNat:Nat):Int)=(varsT (flatT c))[(varsT (flatT c)).length - 1 - i] by omega];exact List.getElem_mem _)]
      have:=ein (varsT (flatT c))[(varsT (flatT c)).length - 1 - i].toNat (by omega)
      rw[List.getD_eq_getElem?_getD (l:=List.map _ _),List.getElem?_map,List.getElem?_range hi]
      simp only[Option.map_some,Option.getD_some,q1]
      omega,fun j hj hv=>by rw[hz j hj,if_neg hv]⟩ (by
      have:hv n (List.replicate (varsT (flatT c)).length 0)=0:=by
       have:=hv_rep n (varsT (flatT c)).length []
       rw[List.append_nil]at this
       rw[this,hv,Nat.mul_zero]
      omega)
    rw[← this]
    refine holds_congr s (n:Int) tb e _ c (fun t ht x hx hneg=>?_)
    have hlo:=(clause_lo hc t ht x hx).2
    unfold rd
    rw[hz _ (by omega),if_pos ((varsT_mem _ _).2 ⟨⟨by omega,by omega⟩,t,ht,by rwa [show -1 - (((-1 - x).toNat:Nat):Int)=x by omega]⟩)]
   ·intro h
    cases b with
    | false=>rfl
    | true=>
     obtain⟨e,he,hf⟩:=hb1 rfl
     rw[h e he]at hf
     cases hf
 ·refine⟨false,?_,fun h=>absurd h g,fun _=>rfl⟩
  simp only[impl_HoldsIn.f]
  exact Ev.bnd hw (Ev.pos rfl (Ev.bnd hask (Ev.neg (by rw[decide_eq_false g];simp) (Ev.eq (Ev.ret _) (by rw[decide_eq_false g])))))
def wT:List S83→Nat
 | []=>0
 | x :: c=>x.f1.length+x.f2.length+wT c
theorem wT_snoc (c:List S83)(x:S83):wT (c++[x])=wT c+(x.f1.length+x.f2.length):=by
 induction c with
 | nil=>simp[wT]
 | cons y c ih=>simp only[List.cons_append,wT,ih];omega
theorem tsum_wT (c:List S83)(n:Nat):n≤c.length→tsum c (2*n)=wT (c.take n):=by
 induction n with
 | zero=>intro _;simp[tsum,wT]
 | succ n ih=>
  intro h
  rw[show 2*(n+1)=2*n+1+1 by omega]
  simp only[tsum]
  rw[ih (by omega),List.take_succ_eq_append_getElem (by omega),wT_snoc]
  unfold tlen
  rw[if_pos (by omega),if_neg (by omega),show (2*n) / 2=n by omega,show (2*n+1) / 2=n by omega]
  have hr:rd_T83 c (n:Int)=c[n]:=by unfold rd_T83;simp[List.getD_eq_getElem?_getD,List.getElem?_eq_getElem (show n<c.length by omega)]
  rw[hr]
  omega
theorem spec_weight_l0 (post:List S83):∀ (pre:List S83),(pre++post).length≤1000→wT (pre++post)≤1000000→Ev (fun k=>spec_l4Weight.l0 k ((wT pre:Nat):Int) (pre++post) ((pre++post).length:Int) (pre.length:Int)) ((wT (pre++post):Nat):Int):=by
 induction post with
 | nil=>
  intro pre h1 h2
  refine Ev.succ ?_
  simp only[spec_l4Weight.l0,List.append_nil]
  exact Ev.neg (by omega) (Ev.ret _)
 | cons x post ih=>
  intro pre h1 h2
  have h:=ih (pre++[x]) (by simpa using h1) (by simpa using h2)
  have hlen:(pre++x :: post).length=pre.length+(post.length+1):=by rw[List.length_append,List.length_cons]
  have hw:wT pre+(x.f1.length+x.f2.length)≤wT (pre++x :: post):=by
   have q:∀ a b:List S83,wT (a++b)=wT a+wT b:=fun a b=>by
    induction a with
    | nil=>simp[wT]
    | cons y a ih=>simp only[List.cons_append,wT,ih];omega
   rw[q,wT];omega
  refine Ev.succ ?_
  simp only[spec_l4Weight.l0]
  rw[rdLB_mid,w64 (x:=(x.f1.length:Int)+(x.f2.length:Int)) (by omega) (by omega),w64 (by omega) (by omega),w64 (x:=(pre.length:Int)+1) (by omega) (by omega)]
  rw[wT_snoc]at h
  refine Ev.pos (by omega) (Ev.pos (by omega) (Ev.pos (by omega) ?_))
  simpa using h
theorem wT_le {s:List Int} {c:List S83} (hc:isClause s c=true):wT c≤640:=by
 obtain⟨h1,h2⟩:=isClause_of hc
 have:∀ c:List S83,(∀ x∈c,isLit s x=true)→wT c≤80*c.length:=by
  intro c
  induction c with
  | nil=>intro _;simp[wT]
  | cons x c ih=>
   intro h
   obtain⟨t1,t2⟩:=isLit_of (h x (by simp))
   have:=(isTerm_of t1).1
   have:=(isTerm_of t2).1
   have:=ih (fun y hy=>h y (by simp[hy]))
   simp only[wT,List.length_cons];omega
 have:=this c h2
 omega
def weightR (s:List Int)(c:List S83):Int × Bool:=if goodClause s c=true then (((wT c:Nat):Int),true) else (0,false)
theorem impl_WeightOf_ev (s:List Int)(c:List S83):Ev (fun k=>impl_WeightOf.f k s c) (weightR s c):=by
 unfold weightR
 simp only[impl_WeightOf.f]
 refine Ev.bnd (impl_GoodClause_ev s c) ?_
 by_cases g:goodClause s c=true
 ·have hc:=(clause_of_good g).2
  have h1:=(isClause_of hc).1
  have h2:=wT_le hc
  have h3:=tsum_wT c c.length (Nat.le_refl _)
  rw[List.take_length]at h3
  refine Ev.eq (Ev.pos g (Ev.bnd1 (a:=((wT c:Nat):Int)) ?_ (Ev.ret _))) (if_pos g).symm
  unfold impl_weight.f
  rw[h3,if_pos ⟨by omega,by omega⟩]
 ·exact Ev.eq (Ev.neg g (Ev.ret _)) (if_neg g).symm
theorem spec_WeightOf_ev (s:List Int)(hs:s.length≤1048576)(c:List S83)(hl:c.length≤1048576):Ev (fun k=>spec_WeightOf.f k s c) (weightR s c):=by
 unfold weightR
 simp only[spec_WeightOf.f]
 refine Ev.bnd (spec_GoodClause_ev s hs c hl) ?_
 by_cases g:goodClause s c=true
 ·have hc:=(clause_of_good g).2
  have h1:=(isClause_of hc).1
  have h2:=wT_le hc
  refine Ev.eq (Ev.pos g (Ev.bnd (a:=((wT c:Nat):Int)) ?_ (Ev.ret _))) (if_pos g).symm
  simp only[spec_l4Weight.f]
  simpa [wT] using spec_weight_l0 c [] (by simpa using (by omega:c.length≤1000)) (by simpa using (by omega:wT c≤1000000))
 ·exact Ev.eq (Ev.neg g (Ev.ret _)) (if_neg g).symm
theorem clause_wf {s:List Int} {c:List S83} (hs:s.length≤1000000)(hc:isClause s c=true):∀ x∈c,wfLit x:=by
 intro x hx
 obtain⟨t1,t2⟩:=isLit_of ((isClause_of hc).2 x hx)
 have f:∀ t,isTerm s t=true→∀ n∈t,-9223372036854775808≤n∧n≤9223372036854775807:=fun t ht n hn=>by
  have:=eat_tok s t 1 (isTerm_of ht).2 n hn
  unfold tok at this
  simp only[decide_eq_true_eq]at this
  omega
 exact⟨f _ t1,f _ t2⟩
def renR (s:List Int)(c:List S83):List S83 × Bool:=if goodClause s c=true then (renT c,true) else ([],false)
theorem impl_RenameClause_ev (s:List Int)(hs:s.length≤1000000)(c:List S83):Ev (fun k=>impl_RenameClause.f k s c) (renR s c):=by
 unfold renR
 simp only[impl_RenameClause.f]
 refine Ev.bnd (impl_GoodClause_ev s c) ?_
 by_cases g:goodClause s c=true
 ·have hc:=(clause_of_good g).2
  rw[if_pos g]
  exact Ev.pos g (Ev.bnd (impl_ren_ev hc (clause_wf hs hc)) (Ev.ret _))
 ·exact Ev.eq (Ev.neg g (Ev.ret _)) (if_neg g).symm
theorem spec_RenameClause_ev (s:List Int)(hs:s.length≤1048576)(c:List S83)(hl:c.length≤1048576):Ev (fun k=>spec_RenameClause.f k s c) (renR s c):=by
 unfold renR
 simp only[spec_RenameClause.f]
 refine Ev.bnd (spec_GoodClause_ev s hs c hl) ?_
 by_cases g:goodClause s c=true
 ·rw[if_pos g]
  exact Ev.pos g (Ev.bnd (spec_ren_ev (clause_of_good g).2) (Ev.ret _))
 ·exact Ev.eq (Ev.neg g (Ev.ret _)) (if_neg g).symm
theorem sameInts_l0 (d:Nat):∀ (a:List Int) (i:Nat),i+d=a.length→a.length≤1000000→Ev (fun k=>laws_sameInts.l0 k a a (a.length:Int) (i:Int)) true:=by
 induction d with
 | zero=>
  intro a i hi hl
  refine Ev.succ ?_
  simp only[laws_sameInts.l0]
  exact Ev.neg (by omega) (Ev.ret _)
 | succ d ih=>
  intro a i hi hl
  refine Ev.succ ?_
  simp only[laws_sameInts.l0]
  rw[w64 (x:=(i:Int)+1) (by omega) (by omega)]
  refine Ev.pos (by omega) (Ev.pos (by omega) (Ev.pos (by omega) (Ev.pos (by omega) (Ev.pos (by trivial) ?_))))
  have:=ih a (i+1) (by omega) hl
  simpa using this
theorem sameInts_self (a:List Int)(hl:a.length≤1000000):Ev (fun k=>laws_sameInts.f k a a) true:=by
 simp only[laws_sameInts.f]
 exact Ev.pos (by trivial) (sameInts_l0 a.length a 0 (by omega) hl)
theorem sameTerm_self (a:List Int)(hl:a.length≤1000000):Ev (fun k=>laws_sameTerm.f k a a) true:=by
 simp only[laws_sameTerm.f]
 exact Ev.bnd (sameInts_self a hl) (Ev.ret _)
theorem sameLits_l0 (post:List S83):∀ pre:List S83,(pre++post).length≤1000→(∀ x∈post,smL2 x)→Ev (fun k=>laws_sameLits.l0 k (pre++post) (pre++post) ((pre++post).length:Int) (pre.length:Int)) true:=by
 induction post with
 | nil=>
  intro pre hl hx
  refine Ev.succ ?_
  simp only[laws_sameLits.l0,List.append_nil]
  exact Ev.neg (by omega) (Ev.ret _)
 | cons x post ih=>
  intro pre hl hx
  have h:=ih (pre++[x]) (by simpa using hl) (fun y hy=>hx y (by simp[hy]))
  have hlen:(pre++x :: post).length=pre.length+(post.length+1):=by rw[List.length_append,List.length_cons]
  obtain⟨h1,h2⟩:=hx x (by simp)
  refine Ev.succ ?_
  simp only[laws_sameLits.l0]
  rw[rdLB_mid,w64 (x:=(pre.length:Int)+1) (by omega) (by omega)]
  exact Ev.pos (by omega) (Ev.pos (by omega) (Ev.pos (by omega) (Ev.pos (by omega) (Ev.neg (by simp) (Ev.bnd (sameTerm_self x.f1 h1) (Ev.pos rfl (Ev.bnd (sameTerm_self x.f2 h2) (Ev.pos rfl (by simpa using h)))))))))
theorem sameLits_self (c:List S83)(hl:c.length≤1000)(hx:∀ x∈c,smL2 x):Ev (fun k=>laws_sameLits.f k c c) true:=by
 simp only[laws_sameLits.f]
 exact Ev.pos (by trivial) (by simpa using sameLits_l0 c [] (by simpa using hl) hx)
def Evp (P:Nat→Prop):Prop:=∃ K,∀ k,K≤k→P k
theorem Evp.and {P Q:Nat→Prop} (hp:Evp P)(hq:Evp Q):Evp (fun k=>P k∧Q k):=by
 obtain⟨K1,h1⟩:=hp
 obtain⟨K2,h2⟩:=hq
 exact⟨K1+K2,fun k hk=>⟨h1 k (by omega),h2 k (by omega)⟩⟩
theorem Evp.some {P:Nat→Prop} (h:Evp P):∃ k,P k:=by
 obtain⟨K,h⟩:=h
 exact⟨K,h K (Nat.le_refl _)⟩
theorem Evp.of {α:Type} {g:Nat→Option α} {r:α} (h:Ev g r):Evp (fun k=>g k=.some r):=h
theorem wf8 (l:List Int)(h:∀ x∈l,(Lit.int .u8 x).wf=true):∀ x∈l,0≤x∧x≤255:=by
 intro x hx
 have:=h x hx
 simp only[Lit.wf,IntKind.min,IntKind.max,IntKind.signed,IntKind.bits,Bool.and_eq_true,decide_eq_true_eq]at this
 simp at this
 omega
theorem big_eq (l0 l1:List Int)(h0:l0.length≤140737488351232)(h1:l1.length≤140737488351232):∃ bg,laws_big.f l0 l1=some bg∧(bg=false→l0.length≤1048576∧l1.length≤1048576):=by
 unfold laws_big.f
 by_cases g:(l0.length:Int) > 1048576
 ·rw[if_pos g];exact⟨true,rfl,by simp⟩
 ·rw[if_neg g,w64 (by omega) (by omega)]
  exact⟨_,rfl,fun h=>by rw[decide_eq_false_iff_not]at h;exact⟨by omega,by omega⟩⟩
theorem DrawGoodClause_ok (l:List Int)(hl:Bs l):∃ (s:List Int) (c:List S83),Ev (fun k=>spec_DrawGoodClause.f k l) (s,c)∧SR s∧CB c 12:=by
 obtain⟨s,a1,s1,e1,hs,q1,q2⟩:=sign_ok l hl 0 0 (by omega) (by omega)
 obtain⟨c,a3,s3,e3,w1,w2,w3⟩:=clause_ok l hl s hs a1 s1 (by omega) (by omega)
 refine⟨s,c,?_,hs,w1⟩
 simp only[spec_DrawGoodClause.f]
 exact Ev.bnd1 e1 (Ev.bnd e3 (Ev.ret _))
theorem DrawTidyClause_ok (l:List Int)(hl:Bs l):∃ (s:List Int) (c:List S83),Ev (fun k=>spec_DrawTidyClause.f k l) (s,c)∧SR s∧CB c 12:=by
 obtain⟨s,c,e,h⟩:=DrawGoodClause_ok l hl
 refine⟨s,c,?_,h⟩
 simp only[spec_DrawTidyClause.f]
 exact Ev.bnd e (Ev.ret _)
theorem DrawWeightOf_ok (l:List Int)(hl:Bs l):∃ (s:List Int) (c:List S83),Ev (fun k=>spec_DrawWeightOf.f k l) (s,c)∧SR s∧CB c 12:=by
 obtain⟨s,c,e,h⟩:=DrawGoodClause_ok l hl
 refine⟨s,c,?_,h⟩
 simp only[spec_DrawWeightOf.f]
 exact Ev.bnd e (Ev.ret _)
theorem tidy_in {s:List Int} (hs:SR s) {c:List S83} (l1:List Int)(h1:Bs l1)(hl1:l1.length≤1048576)(ok:(tidyR s c).2=true) :
  ∃ n tb env a x five,Evp (fun k=>laws_FnTidied.In k l1 s c (tidyR s c).1 (renR s c).1 (tautR s c).1 n tb env a x five):=by
 unfold tidyR at ok ⊢
 split at ok
 case isFalse=>cases ok
 rename_i g
 unfold renR tautR
 rw[if_pos g,if_pos g,if_pos g]
 simp only
 obtain⟨gs,hc⟩:=clause_of_good g
 obtain⟨n,tb,ew,hn1,hn3,ht⟩:=worldOf_ok s hs l1 h1 hl1
 obtain⟨env,ee,hv⟩:=envOf_ok (n:Int) (by omega) tb l1 h1 hl1
 have gw:=goodWorld_mk gs hn1 hn3 ht
 have ht':=tidT_isClause hc
 have hr':=ren_isClause hc
 have i1:=impl_HoldsAt_ev s (n:Int) tb c env
 have i2:=impl_HoldsAt_ev s (n:Int) tb (tidT [] c) env
 unfold holdsAt at i1 i2
 rw[if_pos ⟨gw,hc,hv⟩]at i1
 rw[if_pos ⟨gw,ht',hv⟩,tidT_holds]at i2
 simp only[List.any_nil,Bool.false_or]at i2
 obtain⟨x,e3,x1,x2⟩:=holdsIn_ok gw hn1 hc
 obtain⟨y,e4,y1,y2⟩:=holdsIn_ok gw hn1 hr'
 have hvl:=ren_vars hc
 rw[hvl]at e4 y1 y2
 have hxy:y=x:=by
  by_cases g6:(varsT (flatT c)).length≤6
  ·have a:=x1 g6
   have b:=y1 g6
   rw[← rename_all hn1 tb hc,← a]at b
   cases x <;> cases y <;> simp at b ⊢
  ·rw[x2 g6,y2 g6]
 subst hxy
 have g2:goodClause s (tidT [] c)=true:=by unfold goodClause;rw[gs,ht'];rfl
 have e5:=impl_TidyClause_ev s (tidT [] c)
 unfold tidyR at e5
 rw[if_pos g2,tidT_twice]at e5
 refine⟨(n:Int),tb,env,c.any (litHolds s (n:Int) tb env),y,decide ((varsT (flatT c)).length≤6),?_⟩
 obtain⟨K,hK⟩:=((((Evp.of ew).and (Evp.of ee)).and ((Evp.of i1).and (Evp.of i2))).and (((Evp.of e3).and (Evp.of e4)).and (Evp.of e5)))
 refine⟨K,fun k hk=>?_⟩
 obtain⟨⟨⟨r1,r2⟩,r3,r4⟩,⟨r5,r6⟩,r7⟩:=hK k hk
 exact⟨r1,r2,r3,r4,r5,r6,r7,fun h=>taut_holds s (n:Int) tb env c h⟩
theorem FnTidied:laws_FnTidied.Pure:=by
 intro l0 l1 _ hl0 hw0 _ hl1 hw1
 have h0:=wf8 l0 hw0
 have h1:=wf8 l1 hw1
 obtain⟨bg,hb,hbs⟩:=big_eq l0 l1 (by omega) (by omega)
 cases bg with
 | true=>exact⟨0,true,hb,fun h=>absurd h (by simp)⟩
 | false=>
  obtain⟨hL0,hL1⟩:=hbs rfl
  obtain⟨s,c,ed,hs,hcb⟩:=DrawTidyClause_ok l0 h0
  have hsl:s.length≤1000000:=by have:=hs.1;omega
  have hcl:c.length≤1048576:=by have:=hcb.1;omega
  have it:=impl_TidyClause_ev s c
  have st:=spec_TidyClause_ev s (by omega) c hcl
  have ir:=impl_RenameClause_ev s hsl c
  have sr:=spec_RenameClause_ev s (by omega) c hcl
  have ia:=impl_IsTautology_ev s c
  have sa:=spec_IsTautology_ev s (by omega) c hcl
  have ig:=impl_GoodClause_ev s c
  have sg:=spec_GoodClause_ev s (by omega) c hcl
  have s1:Ev (fun k=>laws_sameLits.f k (tidyR s c).1 (tidyR s c).1) true:=by
   unfold tidyR
   split
   ·rename_i g
    obtain⟨q1,q2,_⟩:=small_of (tidT_isClause (clause_of_good g).2)
    exact sameLits_self _ (by simp only;omega) q2
   ·exact sameLits_self [] (by simp) (by simp)
  have s2:Ev (fun k=>laws_sameLits.f k (renR s c).1 (renR s c).1) true:=by
   unfold renR
   split
   ·rename_i g
    obtain⟨q1,q2,_⟩:=small_of (ren_isClause (clause_of_good g).2)
    exact sameLits_self _ (by simp only;omega) q2
   ·exact sameLits_self [] (by simp) (by simp)
  obtain⟨u,d,dw,hu,hdb⟩:=DrawWeightOf_ok l1 h1
  have hul:u.length≤1000000:=by have:=hu.1;omega
  have hdl:d.length≤1048576:=by have:=hdb.1;omega
  have iw:=impl_WeightOf_ev u d
  have sw:=spec_WeightOf_ev u (by omega) d hdl
  have iv:=impl_VarsIn_ev u d
  have sv:=spec_VarsIn_ev u (by omega) d hdl
  have si:Ev (fun k=>laws_sameInts.f k (varsIn u d).1 (varsIn u d).1) true:=by
   unfold varsIn
   split
   ·exact sameInts_self _ (by have:=varsT_len (flatT d);simp only;omega)
   ·exact sameInts_self [] (by simp)
  have inn:∃ (K:Nat),∀ k,K≤k→(tidyR s c).2=true→∃ n tb env a x five,laws_FnTidied.In k l1 s c (tidyR s c).1 (renR s c).1 (tautR s c).1 n tb env a x five:=by
   cases hok:(tidyR s c).2 with
   | false=>exact⟨0,fun k _ h=>absurd h (by simp)⟩
   | true=>
    obtain⟨n,tb,env,a,x,five,K,hK⟩:=tidy_in hs l1 h1 hL1 hok
    exact⟨K,fun k hk _=>⟨n,tb,env,a,x,five,hK k hk⟩⟩
  obtain⟨K1,hK1⟩:=(((Evp.of ed).and (Evp.of it)).and ((Evp.of st).and (Evp.of ir))).and (((Evp.of sr).and (Evp.of ia)).and ((Evp.of sa).and (Evp.of s1)))
  obtain⟨K2,hK2⟩:=(((Evp.of s2).and (Evp.of ig)).and ((Evp.of sg).and (Evp.of dw))).and (((Evp.of iw).and (Evp.of sw)).and ((Evp.of iv).and (Evp.of sv)))
  obtain⟨K3,hK3⟩:=Evp.of si
  obtain⟨K4,hK4⟩:=inn
  obtain⟨⟨⟨p1,p2⟩,p3,p4⟩,⟨p5,p6⟩,p7,p8⟩:=hK1 (K1+K2+K3+K4) (by omega)
  obtain⟨⟨⟨q1,q2⟩,q3,q4⟩,⟨q5,q6⟩,q7,q8⟩:=hK2 (K1+K2+K3+K4) (by omega)
  have r1:=hK3 (K1+K2+K3+K4) (by omega)
  exact⟨K1+K2+K3+K4,false,hb,fun _=>⟨s,c,(tidyR s c).1,(renR s c).1,(tidyR s c).2,(renR s c).2,(tautR s c).1,(tautR s c).2,goodClause s c,u,d,(weightR u d).1,(weightR u d).2,(varsIn u d).1,(varsIn u d).2,⟨p1,p2,p3,p4,p5,p6,p7,p8,q1,q2,q3,hK4 _ (by omega),q4,q5,q6,q7,q8,r1⟩⟩⟩
end Go.Proofs.Ytmgkflkfoccgkaa.Pure
