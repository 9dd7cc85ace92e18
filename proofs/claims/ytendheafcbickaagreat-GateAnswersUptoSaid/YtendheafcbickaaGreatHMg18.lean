/-
  SEVERAL TEXTS IN ONE: each with its own comment.
-/
import Derived.Test.YtendheafcbickaaGreatHMg03
import Derived.Test.YtendheafcbickaaGreatHZip
import Derived.Test.YtendheafcbickaaGreatHGo
import Derived.Test.YtendheafcbickaaGreatHMg16

set_option linter.unusedSimpArgs false
set_option linter.unusedVariables false
namespace Go.Proofs.YtendheafcbickaaGreat
open Go.RowKit
section
variable {P:Program} {o:Oper} {st:St} {n0:Nat} {G:List Nat}
end
section
variable {P:Program} {n0:Nat}
def roIn (heap:List (Nat×Option Blk)) (v v':V):Prop:=v' = v ∨ ∃ m l,v = .own m∧getH heap m=some (.fro l)∧v' = .ro l
end
def svX (inv:Nat→Option Nat) (heap:List (Nat×Option Blk)) (B B':Blk):Prop:=
  svB inv heap B=some B' ∨ ∃ e s l l',B = .rox e s l∧B' = .rox e s l' ∧ l'.length=l.length ∧ ∀ i,i<l.length→sv.svL inv heap (eAt l i)=some (eAt l' i)
section
variable {P:Program} {n0:Nat}
def coverX (L:List (Nat×Nat)) (heap:List (Nat×Option Blk)):List (Nat×Option Blk)→Prop
  | []=>True
  | (id,none) :: r=>coverX L heap r
  | (id,some B') :: r=>(invL L (mpL L id)=some id ∧ ∃ B,getH heap (mpL L id)=some B∧svX (invL L) heap B B')∧coverX L heap r
end
section
variable {P:Program} {o:Oper} {nt b0 k k':Nat} {ops:List Oper} {W:Nat→Nat→Bool} {rest:List Oper} {env:List (Nat×V)} {heap:List (Nat×Option Blk)} {Q:St→Prop}
end
end Go.Proofs.YtendheafcbickaaGreat


set_option linter.unusedSimpArgs false
set_option linter.unusedVariables false
namespace Go.Proofs.YtendheafcbickaaGreat
open Go.RowKit
section
variable {P:Program} {o:Oper} {n0:Nat} {ops:List Oper} {rest:List Oper} {env:List (Nat×V)} {heap:List (Nat×Option Blk)} {next nt:Nat} {Q:St→Prop}
end
section
variable {P:Program} {o:Oper} {nt b0 k k':Nat} {ops:List Oper} {W:Nat→Nat→Bool} {rest:List Oper} {env:List (Nat×V)} {heap:List (Nat×Option Blk)} {Q:St→Prop}
end
section
variable {P:Program} {n0:Nat}
def EndsMX (P:Program) (fn:Func) (k0:Nat) (r:V) (h1:List (Nat×Option Blk)) (k1:Nat) (e:Exit) (st:St):Prop:=
  (e = .ret∨e = .normal) ∧ ∃ v r' L,resV P st fn.results.toList=some v∧okP k0 k1 L=true∧sv (invL L) st.heap v=some r' ∧ Wk r' r∧coverX L st.heap h1
end
end Go.Proofs.YtendheafcbickaaGreat


set_option linter.unusedSimpArgs false
set_option linter.unusedVariables false
namespace Go.Proofs.YtendheafcbickaaGreat
open Go.RowKit
def nilS:Value:=.slice none 0 0
def colL (c:Nat) (vs:Nat→V):List (List V)→List (List V)
  | []=>[]
  | x :: r=>x.set c (vs 0) :: colL c (fun i=>vs (i+1)) r
theorem cAt_setc (l:List V) (c:Nat) (v:V) (j:Nat) (hj:j<l.length):cAt (l.set c v) j=if j=c then v else cAt l j:=by
  unfold cAt
  rw [List.getD_eq_getElem?_getD,List.getD_eq_getElem?_getD,List.getElem?_set]
  by_cases h:c=j
  · subst h;simp [hj]
  · rw [if_neg h,if_neg (fun e=>h e.symm)]
section
variable {P:Program} {f:FuncId} {args:List V} {r:V} {TE TL TQ TB:TypeId} {s sq c:Nat} {bx bx':List V} {q q' A A':List (List V)} {R:Nat→List (List V)}
abbrev mLift:Nat→Nat:=mM [0,1,2,7,8] 9
set_option maxRecDepth 10000
end
end Go.Proofs.YtendheafcbickaaGreat


set_option linter.unusedVariables false
set_option linter.unusedSimpArgs false
set_option linter.unusedVariables false
namespace Go.Proofs.YtendheafcbickaaGreat
open Go.RowKit
theorem goV_ (n:Nat) {A R:Prop} (r:R) (k:UpToR n→(Hld R→A)∧Ls R:=by intro u_;(refine And.intro (fun k_=>?_) ?_;(focus ((repeat1' first|refine p_quo (h:=?_)|refine p_rem (h:=?_)|refine r_seqA (by assumption) (by rfl) ?_|refine r_region ?_|refine r_cond_t rfl ?_|refine r_cond_f rfl ?_|refine r_block ?_|refine r_skip ?_|refine r_ret ?_|refine r_exit ?_|refine l_nil ?_|refine s_skip (h:=?_)|refine s_nw (h:=?_)|refine s_len (h:=?_)|refine s_lens (h:=?_)|refine s_q (h:=?_)|(refine s_cmp (ht:=?_) (hf:=?_) <;> intro h_ <;> try (exfalso;omega))|refine s_store (h:=?_)|refine s_box (h:=?_)|refine s_alloc (h:=?_)|refine s_quo (h:=?_)|refine r_drawA ?_|refine p_nil ?_|refine p_skip (h:=?_)|refine p_nw (h:=?_)|refine p_len (h:=?_)|refine p_lens (h:=?_)|refine p_q (h:=?_)|refine p_qh (h:=?_)|(refine p_cmp (ht:=?_) (hf:=?_) <;> intro h_ <;> try (exfalso;omega))|refine p_store (h:=?_)|refine p_alloc (h:=?_)|refine s_nilc (h:=?_)|refine p_nilc (h:=?_)|refine s_bstr (h:=?_)|refine s_func (h:=?_)|refine p_bstr (h:=?_)|(refine s_seql (ht:=?_) (hf:=?_) <;> intro h_ <;> try (exfalso;first|omega|(simp at h_;done)|exact absurd h_ (by assumption)|exact absurd (by assumption) hb_))|(refine s_eqs (ht:=?_) (hf:=?_) <;> intro h_ <;> try (exfalso;first|omega|(simp at h_;done)|exact absurd h_ (by assumption)|exact absurd (by assumption) hb_))|(refine p_eqs (ht:=?_) (hf:=?_) <;> intro h_ <;> try (exfalso;first|omega|(simp at h_;done)|exact absurd h_ (by assumption)|exact absurd (by assumption) hb_))|refine thenQ_n ?_|refine thenQ_r ?_|refine thenQ_e ?_|refine blockQ_n ?_|refine blockQ_r ?_|refine blockQ_x ?_|refine blockQ_e rfl ?_|(refine s_bytes (h63:=?_) (h:=?_);(exact Z11_))|refine s_sidx (h:=?_)|refine s_makeMap (h:=?_)|(refine s_beq (ht:=?_) (hf:=?_) <;> intro h_ <;> try (exfalso;simp at h_;done))|(refine p_beq (ht:=?_) (hf:=?_) <;> intro h_ <;> try (exfalso;simp at h_;done))|(refine s_bne (ht:=?_) (hf:=?_) <;> intro h_ <;> try (exfalso;simp at h_;done))|fail "");all_goals ((repeat revert h_);first|with_reducible apply Two.l (Hld.out k_)|with_reducible apply Two.l (Two.r (Hld.out k_))|with_reducible apply Two.l (Two.r (Two.r (Hld.out k_)))|with_reducible apply Two.l (Two.r (Two.r (Two.r (Hld.out k_))))|with_reducible apply Two.l (Two.r (Two.r (Two.r (Two.r (Hld.out k_)))))|with_reducible apply Two.l (Two.r (Two.r (Two.r (Two.r (Two.r (Hld.out k_))))))|with_reducible apply Two.l (Two.r (Two.r (Two.r (Two.r (Two.r (Two.r (Hld.out k_)))))))|with_reducible apply Two.l (Two.r (Two.r (Two.r (Two.r (Two.r (Two.r (Two.r (Hld.out k_))))))))|with_reducible apply Two.l (Two.r (Two.r (Two.r (Two.r (Two.r (Two.r (Two.r (Two.r (Hld.out k_)))))))))|with_reducible apply Two.l (Two.r (Two.r (Two.r (Two.r (Two.r (Two.r (Two.r (Two.r (Two.r (Hld.out k_))))))))))|with_reducible apply Two.l (Two.r (Two.r (Two.r (Two.r (Two.r (Two.r (Two.r (Two.r (Two.r (Two.r (Hld.out k_)))))))))))|with_reducible apply Two.l (Two.r (Two.r (Two.r (Two.r (Two.r (Two.r (Two.r (Two.r (Two.r (Two.r (Two.r (Hld.out k_))))))))))))|with_reducible apply Two.l (Two.r (Two.r (Two.r (Two.r (Two.r (Two.r (Two.r (Two.r (Two.r (Two.r (Two.r (Two.r (Hld.out k_)))))))))))))|with_reducible apply Two.l (Two.r (Two.r (Two.r (Two.r (Two.r (Two.r (Two.r (Two.r (Two.r (Two.r (Two.r (Two.r (Two.r (Hld.out k_))))))))))))))|with_reducible apply Two.l (Two.r (Two.r (Two.r (Two.r (Two.r (Two.r (Two.r (Two.r (Two.r (Two.r (Two.r (Two.r (Two.r (Two.r (Hld.out k_)))))))))))))))|with_reducible apply Two.l (Two.r (Two.r (Two.r (Two.r (Two.r (Two.r (Two.r (Two.r (Two.r (Two.r (Two.r (Two.r (Two.r (Two.r (Two.r (Hld.out k_))))))))))))))))|with_reducible apply Two.l (Two.r (Two.r (Two.r (Two.r (Two.r (Two.r (Two.r (Two.r (Two.r (Two.r (Two.r (Two.r (Two.r (Two.r (Two.r (Two.r (Hld.out k_)))))))))))))))))|with_reducible apply Two.l (Two.r (Two.r (Two.r (Two.r (Two.r (Two.r (Two.r (Two.r (Two.r (Two.r (Two.r (Two.r (Two.r (Two.r (Two.r (Two.r (Two.r (Hld.out k_))))))))))))))))))|with_reducible apply Two.l (Two.r (Two.r (Two.r (Two.r (Two.r (Two.r (Two.r (Two.r (Two.r (Two.r (Two.r (Two.r (Two.r (Two.r (Two.r (Two.r (Two.r (Two.r (Hld.out k_)))))))))))))))))))|with_reducible apply Two.l (Two.r (Two.r (Two.r (Two.r (Two.r (Two.r (Two.r (Two.r (Two.r (Two.r (Two.r (Two.r (Two.r (Two.r (Two.r (Two.r (Two.r (Two.r (Two.r (Hld.out k_))))))))))))))))))))|with_reducible apply Two.l (Two.r (Two.r (Two.r (Two.r (Two.r (Two.r (Two.r (Two.r (Two.r (Two.r (Two.r (Two.r (Two.r (Two.r (Two.r (Two.r (Two.r (Two.r (Two.r (Two.r (Hld.out k_)))))))))))))))))))))|with_reducible apply Two.l (Two.r (Two.r (Two.r (Two.r (Two.r (Two.r (Two.r (Two.r (Two.r (Two.r (Two.r (Two.r (Two.r (Two.r (Two.r (Two.r (Two.r (Two.r (Two.r (Two.r (Two.r (Hld.out k_))))))))))))))))))))))|with_reducible apply Two.l (Two.r (Two.r (Two.r (Two.r (Two.r (Two.r (Two.r (Two.r (Two.r (Two.r (Two.r (Two.r (Two.r (Two.r (Two.r (Two.r (Two.r (Two.r (Two.r (Two.r (Two.r (Two.r (Hld.out k_)))))))))))))))))))))))|with_reducible apply Two.l (Two.r (Two.r (Two.r (Two.r (Two.r (Two.r (Two.r (Two.r (Two.r (Two.r (Two.r (Two.r (Two.r (Two.r (Two.r (Two.r (Two.r (Two.r (Two.r (Two.r (Two.r (Two.r (Two.r (Hld.out k_))))))))))))))))))))))))|with_reducible apply Two.l (Two.r (Two.r (Two.r (Two.r (Two.r (Two.r (Two.r (Two.r (Two.r (Two.r (Two.r (Two.r (Two.r (Two.r (Two.r (Two.r (Two.r (Two.r (Two.r (Two.r (Two.r (Two.r (Two.r (Two.r (Hld.out k_)))))))))))))))))))))))))|with_reducible apply Two.l (Two.r (Two.r (Two.r (Two.r (Two.r (Two.r (Two.r (Two.r (Two.r (Two.r (Two.r (Two.r (Two.r (Two.r (Two.r (Two.r (Two.r (Two.r (Two.r (Two.r (Two.r (Two.r (Two.r (Two.r (Two.r (Hld.out k_))))))))))))))))))))))))))|with_reducible apply Two.l (Two.r (Two.r (Two.r (Two.r (Two.r (Two.r (Two.r (Two.r (Two.r (Two.r (Two.r (Two.r (Two.r (Two.r (Two.r (Two.r (Two.r (Two.r (Two.r (Two.r (Two.r (Two.r (Two.r (Two.r (Two.r (Two.r (Hld.out k_)))))))))))))))))))))))))))|with_reducible apply Two.l (Two.r (Two.r (Two.r (Two.r (Two.r (Two.r (Two.r (Two.r (Two.r (Two.r (Two.r (Two.r (Two.r (Two.r (Two.r (Two.r (Two.r (Two.r (Two.r (Two.r (Two.r (Two.r (Two.r (Two.r (Two.r (Two.r (Two.r (Hld.out k_))))))))))))))))))))))))))))|with_reducible apply Two.l (Two.r (Two.r (Two.r (Two.r (Two.r (Two.r (Two.r (Two.r (Two.r (Two.r (Two.r (Two.r (Two.r (Two.r (Two.r (Two.r (Two.r (Two.r (Two.r (Two.r (Two.r (Two.r (Two.r (Two.r (Two.r (Two.r (Two.r (Two.r (Hld.out k_)))))))))))))))))))))))))))))|with_reducible apply Two.l (Two.r (Two.r (Two.r (Two.r (Two.r (Two.r (Two.r (Two.r (Two.r (Two.r (Two.r (Two.r (Two.r (Two.r (Two.r (Two.r (Two.r (Two.r (Two.r (Two.r (Two.r (Two.r (Two.r (Two.r (Two.r (Two.r (Two.r (Two.r (Two.r (Hld.out k_))))))))))))))))))))))))))))))|with_reducible apply Two.l (Two.r (Two.r (Two.r (Two.r (Two.r (Two.r (Two.r (Two.r (Two.r (Two.r (Two.r (Two.r (Two.r (Two.r (Two.r (Two.r (Two.r (Two.r (Two.r (Two.r (Two.r (Two.r (Two.r (Two.r (Two.r (Two.r (Two.r (Two.r (Two.r (Two.r (Hld.out k_)))))))))))))))))))))))))))))))|with_reducible apply Two.l (Two.r (Two.r (Two.r (Two.r (Two.r (Two.r (Two.r (Two.r (Two.r (Two.r (Two.r (Two.r (Two.r (Two.r (Two.r (Two.r (Two.r (Two.r (Two.r (Two.r (Two.r (Two.r (Two.r (Two.r (Two.r (Two.r (Two.r (Two.r (Two.r (Two.r (Two.r (Hld.out k_))))))))))))))))))))))))))))))))|with_reducible apply Two.l (Two.r (Two.r (Two.r (Two.r (Two.r (Two.r (Two.r (Two.r (Two.r (Two.r (Two.r (Two.r (Two.r (Two.r (Two.r (Two.r (Two.r (Two.r (Two.r (Two.r (Two.r (Two.r (Two.r (Two.r (Two.r (Two.r (Two.r (Two.r (Two.r (Two.r (Two.r (Two.r (Hld.out k_)))))))))))))))))))))))))))))))))|with_reducible apply Two.l (Two.r (Two.r (Two.r (Two.r (Two.r (Two.r (Two.r (Two.r (Two.r (Two.r (Two.r (Two.r (Two.r (Two.r (Two.r (Two.r (Two.r (Two.r (Two.r (Two.r (Two.r (Two.r (Two.r (Two.r (Two.r (Two.r (Two.r (Two.r (Two.r (Two.r (Two.r (Two.r (Two.r (Hld.out k_))))))))))))))))))))))))))))))))))|with_reducible apply Two.l (Two.r (Two.r (Two.r (Two.r (Two.r (Two.r (Two.r (Two.r (Two.r (Two.r (Two.r (Two.r (Two.r (Two.r (Two.r (Two.r (Two.r (Two.r (Two.r (Two.r (Two.r (Two.r (Two.r (Two.r (Two.r (Two.r (Two.r (Two.r (Two.r (Two.r (Two.r (Two.r (Two.r (Two.r (Hld.out k_)))))))))))))))))))))))))))))))))))|with_reducible apply Two.l (Two.r (Two.r (Two.r (Two.r (Two.r (Two.r (Two.r (Two.r (Two.r (Two.r (Two.r (Two.r (Two.r (Two.r (Two.r (Two.r (Two.r (Two.r (Two.r (Two.r (Two.r (Two.r (Two.r (Two.r (Two.r (Two.r (Two.r (Two.r (Two.r (Two.r (Two.r (Two.r (Two.r (Two.r (Two.r (Hld.out k_))))))))))))))))))))))))))))))))))))|with_reducible apply Two.l (Two.r (Two.r (Two.r (Two.r (Two.r (Two.r (Two.r (Two.r (Two.r (Two.r (Two.r (Two.r (Two.r (Two.r (Two.r (Two.r (Two.r (Two.r (Two.r (Two.r (Two.r (Two.r (Two.r (Two.r (Two.r (Two.r (Two.r (Two.r (Two.r (Two.r (Two.r (Two.r (Two.r (Two.r (Two.r (Two.r (Hld.out k_)))))))))))))))))))))))))))))))))))))|with_reducible apply Two.l (Two.r (Two.r (Two.r (Two.r (Two.r (Two.r (Two.r (Two.r (Two.r (Two.r (Two.r (Two.r (Two.r (Two.r (Two.r (Two.r (Two.r (Two.r (Two.r (Two.r (Two.r (Two.r (Two.r (Two.r (Two.r (Two.r (Two.r (Two.r (Two.r (Two.r (Two.r (Two.r (Two.r (Two.r (Two.r (Two.r (Two.r (Hld.out k_))))))))))))))))))))))))))))))))))))))|with_reducible apply Two.l (Two.r (Two.r (Two.r (Two.r (Two.r (Two.r (Two.r (Two.r (Two.r (Two.r (Two.r (Two.r (Two.r (Two.r (Two.r (Two.r (Two.r (Two.r (Two.r (Two.r (Two.r (Two.r (Two.r (Two.r (Two.r (Two.r (Two.r (Two.r (Two.r (Two.r (Two.r (Two.r (Two.r (Two.r (Two.r (Two.r (Two.r (Two.r (Hld.out k_)))))))))))))))))))))))))))))))))))))))|with_reducible apply Two.l (Two.r (Two.r (Two.r (Two.r (Two.r (Two.r (Two.r (Two.r (Two.r (Two.r (Two.r (Two.r (Two.r (Two.r (Two.r (Two.r (Two.r (Two.r (Two.r (Two.r (Two.r (Two.r (Two.r (Two.r (Two.r (Two.r (Two.r (Two.r (Two.r (Two.r (Two.r (Two.r (Two.r (Two.r (Two.r (Two.r (Two.r (Two.r (Two.r (Hld.out k_)))))))))))))))))))))))))))))))))))))))))));(all_goals try (repeat' first|exact Ls.nil|apply Ls.cons)))):A:=(k ⟨trivial⟩).1 ⟨r⟩
inductive WkCs:List V→List V→Prop
  | nil:WkCs [] []
  | cons {a b:V} {l m:List V} (h:WkC a b) (t:WkCs l m):WkCs (a :: l) (b :: m)
theorem WkCs.len {l m:List V} (h:WkCs l m):m.length=l.length:=by
  induction h with
  | nil=>rfl
  | cons _ _ ih=>simp [ih]
theorem WkCs.at {l m:List V} (h:WkCs l m):∀ j,j<l.length→WkC (cAt l j) (cAt m j):=by
  induction h with
  | nil=>intro j hj;simp at hj
  | cons h _ ih=>
    intro j hj
    cases j with
    | zero=>exact h
    | succ j=>
      rw [cAt_succ,cAt_succ]
      exact ih j (by simp at hj;omega)
end Go.Proofs.YtendheafcbickaaGreat


set_option linter.unusedSimpArgs false
set_option linter.unusedVariables false
namespace Go.Proofs.YtendheafcbickaaGreat
open Go.RowKit
section
variable {P:Program} {n0:Nat}
theorem r_drawW {id:Nat} {st:St} {Q:Exit→St→Prop} {l:List Oper} (ws:List (Nat×Nat)) (h:PL P st.nt st.next l (fun j id=>(Nat.ble st.next id && isWat l j) || memW ws j id) st.next l st.env st.heap (Q .normal))
    (hm:P.follows .mixedOrders=true:=by kernel_rfl) (hok:okText l=true:=by kernel_rfl) (hn0:Nat.ble n0 st.next=true:=by kernel_rfl) :
    Run P n0 (.region id l.toArray true) st Q:=r_draw _ h hm hok hn0
theorem less_slot {st:St} (t:Nat) {v v':V} (hv:getE st.env t=some v) (h:∀ (ρ:Nat→Option Value) (S:Nat→Prop) (w:World) (u:Value),VRel ρ S w v u→VRel ρ S w v' u):Less P n0 st { st with env:=(t,v') :: st.env }:=fun F base w0 ρ a w hH hE=>
  ⟨ρ,hH,⟨hE.size,hE.defers,fun s x hx=>by
    simp only [getE] at hx
    cases hb:Nat.beq t s with
    | true=>
      rw [hb] at hx
      simp only [cond_true,Option.some.injEq] at hx
      have:=Nat.eq_of_beq_eq_true hb
      subst this;subst hx
      exact h _ _ _ _ (hE.slot _ _ hv)
    | false=>rw [hb] at hx;exact hE.slot _ _ hx⟩,fun _ _=>rfl⟩
theorem less_nilS {st:St} (t:Nat) (hv:getE st.env t=some (.lit (.slice none 0 0))):Less P n0 st { st with env:=(t,.ro []) :: st.env }:=less_slot t hv (fun ρ S w u h=>Wk.rel .nil h)
theorem less_roS {st:St} (t:Nat) {l l':List (List V)} (hv:getE st.env t=some (.ro l)) (hlen:l'.length=l.length) (hL:∀ i,i<l.length→(eAt l' i).length=(eAt l i).length)
    (hw:∀ i j,i<l.length→j<(eAt l i).length→WkC (cAt (eAt l i) j) (cAt (eAt l' i) j)):Less P n0 st { st with env:=(t,.ro l') :: st.env }:=less_slot t hv (fun ρ S w u h=>by
  cases h with
  | pure h=>exact .pure (ro_wk hlen hL hw h))
end
end Go.Proofs.YtendheafcbickaaGreat
