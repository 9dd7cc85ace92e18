/-
  SEVERAL TEXTS IN ONE: each with its own comment.
-/
import Derived.Test.YtendheafcbickaaGreatTMg03
import Derived.Test.YtendheafcbickaaGreatTZip
import Derived.Test.YtendheafcbickaaGreatTGo
import Derived.Test.YtendheafcbickaaGreatTMg13
set_option linter.unusedVariables false
set_option linter.unusedSimpArgs false
namespace Go.Proofs.YtendheafcbickaaGreat
section
open Go.RowKit
section
variable {P:Program} {o:Oper} {st:ba} {n0:Nat} {G:List Nat}
end
section
variable {P:Program} {n0:Nat}
def XG (heap:List (Nat×Option aY)) (v cX:V):Prop:=cX = v \/ ∃ m l,v = .own m/\bd heap m=some (.gb l)/\cX = .ro l
end
def UR (inv:Nat->Option Nat) (heap:List (Nat×Option aY)) (B bT:aY):Prop:=
 hX inv heap B=some bT \/ ∃ e s l fl,B = .jG e s l/\bT = .jG e s fl /\ fl.length=l.length /\ ∀ i,i<l.length->hW.qK inv heap (bH l i)=some (bH fl i)
section
variable {P:Program} {n0:Nat}
def Gd (L:List (Nat×Nat)) (heap:List (Nat×Option aY)):List (Nat×Option aY)->Prop
 | []=>True
 | (id,none) :: r=>Gd L heap r
 | (id,some bT) :: r=>(hg L (j4 L id)=some id /\ ∃ B,bd heap (j4 L id)=some B/\UR (hg L) heap B bT)/\Gd L heap r
end
section
variable {P:Program} {o:Oper} {ad aA k bq:Nat} {ops:List Oper} {W:Nat->Nat->Bool} {rest:List Oper} {env:List (Nat×V)} {heap:List (Nat×Option aY)} {Q:ba->Prop}
end
section
variable {P:Program} {o:Oper} {n0:Nat} {ops:List Oper} {rest:List Oper} {env:List (Nat×V)} {heap:List (Nat×Option aY)} {next ad:Nat} {Q:ba->Prop}
end
section
variable {P:Program} {o:Oper} {ad aA k bq:Nat} {ops:List Oper} {W:Nat->Nat->Bool} {rest:List Oper} {env:List (Nat×V)} {heap:List (Nat×Option aY)} {Q:ba->Prop}
end
section
variable {P:Program} {n0:Nat}
def XH (P:Program) (fn:Func) (fx:Nat) (r:V) (I:List (Nat×Option aY)) (bL:Nat) (e:Exit) (st:ba):Prop:=
 (e = .ret\/e = .normal) /\ ∃ v fT L,rS P st fn.results.toList=some v/\r5 fx bL L=true/\hW (hg L) st.heap v=some fT /\ cZ fT r/\Gd L st.heap I
end
def XI:Value:=.slice none 0 0
def US (c:Nat) (vs:Nat->V):List (List V)->List (List V)
 | []=>[]
 | x :: r=>x.set c (vs 0) :: US c (fun i=>vs (i+1)) r
theorem RA (l:List V) (c:Nat) (v:V) (j:Nat) (ah:j<l.length):bx (l.set c v) j=if j=c then v else bx l j:=by
 unfold bx
 rw[List.getD_eq_getElem?_getD,List.getD_eq_getElem?_getD,List.getElem?_set]
 by_cases h:c=j
 ·subst h;simp[ah]
 ·rw[if_neg h,if_neg (fun e=>h e.symm)]
section
variable {P:Program} {f:FuncId} {args:List V} {r:V} {XJ XK XL XM:TypeId} {s XN c:Nat} {BE XO:List V} {q eU A Li:List (List V)} {cN:Nat->List (List V)}
abbrev XP:Nat->Nat:=cd [0,1,2,7,8] 9
set_option maxRecDepth 10000
end
theorem yW (n:Nat) {A cN:Prop} (r:cN) (k:Ge n->(og cN->A)/\k6 cN:=by intro UT;(refine And.intro (fun aZ=>?_) ?_;(focus ((repeat1' first|refine yv (h:=?_)|refine yw (h:=?_)|refine Mw ca (by rfl) ?_|refine lb ?_|refine AS rfl ?_|refine AT rfl ?_|refine uB ?_|refine AP ?_|refine AQ ?_|refine AR ?_|refine xh ?_|refine xq (h:=?_)|refine xv (h:=?_)|refine xt (h:=?_)|refine yo (h:=?_)|refine xr (h:=?_)|(refine xu (ht:=?_) (hf:=?_) <;> intro bF <;> try (exfalso;omega))|refine xy (h:=?_)|refine xx (h:=?_)|refine xw (h:=?_)|refine x4 (h:=?_)|refine x5 (h:=?_)|refine Bo ?_|refine xG ?_|refine xH (h:=?_)|refine xM (h:=?_)|refine xN (h:=?_)|refine yp (h:=?_)|refine xJ (h:=?_)|refine xK (h:=?_)|(refine xL (ht:=?_) (hf:=?_) <;> intro bF <;> try (exfalso;omega))|refine xQ (h:=?_)|refine xP (h:=?_)|refine xO (h:=?_)|refine xI (h:=?_)|refine xX (h:=?_)|refine xY (h:=?_)|refine x1 (h:=?_)|refine s3 (h:=?_)|refine yn (h:=?_)|refine x2 (h:=?_)|(refine xU (ht:=?_) (hf:=?_) <;> intro bF <;> try (exfalso;first|omega|(simp at bF;done)|exact absurd bF ca|exact absurd ca hP))|(refine xV (ht:=?_) (hf:=?_) <;> intro bF <;> try (exfalso;first|omega|(simp at bF;done)|exact absurd bF ca|exact absurd ca hP))|(refine x6 (ht:=?_) (hf:=?_) <;> intro bF <;> try (exfalso;first|omega|(simp at bF;done)|exact absurd bF ca|exact absurd ca hP))|(refine xZ (ht:=?_) (hf:=?_) <;> intro bF <;> try (exfalso;first|omega|(simp at bF;done)|exact absurd bF ca|exact absurd ca hP))|(refine yz (ht:=?_) (hf:=?_) <;> intro bF <;> try (exfalso;first|omega|(simp at bF;done)|exact absurd bF ca|exact absurd ca hP))|(refine yd (ht:=?_) (hf:=?_) <;> intro bF <;> try (exfalso;first|omega|(simp at bF;done)|exact absurd bF ca|exact absurd ca hP))|refine lc ?_|refine A0 ?_|refine A1 ?_|refine A2 ?_|refine A3 ?_|refine A4 ?_|refine A5 rfl ?_|refine yx (h:=?_)|refine yy (h:=?_)|(refine x7 (h63:=?_) (h:=?_);(exact bP))|(refine yu (h63:=?_) (h:=?_);(exact bP))|refine ys (h:=?_)|refine yt (h:=?_)|refine yr (h:=?_)|refine yC (h:=?_)|refine yD (h:=?_)|(refine xW (ht:=?_) (hf:=?_) <;> intro bF <;> try (exfalso;simp at bF;done))|(refine x0 (ht:=?_) (hf:=?_) <;> intro bF <;> try (exfalso;simp at bF;done))|(refine yA (ht:=?_) (hf:=?_) <;> intro bF <;> try (exfalso;simp at bF;done))|(refine yB (ht:=?_) (hf:=?_) <;> intro bF <;> try (exfalso;simp at bF;done))|fail "");all_goals ((repeat revert bF);first|with_reducible apply (a7 aZ)|with_reducible apply (a7 (bg aZ))|with_reducible apply (a7 (bg (bg aZ)))|with_reducible apply (a7 (aR aZ))|with_reducible apply (a7 (bg (aR aZ)))|with_reducible apply (a7 (bg (bg (aR aZ))))|with_reducible apply (a7 (aR (aR aZ)))|with_reducible apply (a7 (bg (aR (aR aZ))))|with_reducible apply (a7 (bg (bg (aR (aR aZ)))))|with_reducible apply (a7 (aR (aR (aR aZ))))|with_reducible apply (a7 (aG aZ))|with_reducible apply (a7 (bg (aG aZ)))|with_reducible apply (a7 (bg (bg (aG aZ))))|with_reducible apply (a7 (aR (aG aZ)))|with_reducible apply (a7 (bg (aR (aG aZ))))|with_reducible apply (a7 (bg (bg (aR (aG aZ)))))|with_reducible apply (a7 (aR (aR (aG aZ))))|with_reducible apply (a7 (bg (aR (aR (aG aZ)))))|with_reducible apply (a7 (bg (bg (aR (aR (aG aZ))))))|with_reducible apply (a7 (aR (aR (aR (aG aZ)))))|with_reducible apply (a7 (aG (aG aZ)))|with_reducible apply (a7 (bg (aG (aG aZ))))|with_reducible apply (a7 (bg (bg (aG (aG aZ)))))|with_reducible apply (a7 (aR (aG (aG aZ))))|with_reducible apply (a7 (bg (aR (aG (aG aZ)))))|with_reducible apply (a7 (bg (bg (aR (aG (aG aZ))))))|with_reducible apply (a7 (aR (aR (aG (aG aZ)))))|with_reducible apply (a7 (bg (aR (aR (aG (aG aZ))))))|with_reducible apply (a7 (bg (bg (aR (aR (aG (aG aZ)))))))|with_reducible apply (a7 (aR (aR (aR (aG (aG aZ))))))|with_reducible apply (a7 (aG (aG (aG aZ))))|with_reducible apply (a7 (bg (aG (aG (aG aZ)))))|with_reducible apply (a7 (bg (bg (aG (aG (aG aZ))))))|with_reducible apply (a7 (aR (aG (aG (aG aZ)))))|with_reducible apply (a7 (bg (aR (aG (aG (aG aZ))))))|with_reducible apply (a7 (bg (bg (aR (aG (aG (aG aZ)))))))|with_reducible apply (a7 (aR (aR (aG (aG (aG aZ))))))|with_reducible apply (a7 (bg (aR (aR (aG (aG (aG aZ)))))))|with_reducible apply (a7 (bg (bg (aR (aR (aG (aG (aG aZ))))))))|with_reducible apply (a7 (aR (aR (aR (aG (aG (aG aZ))))))))));(all_goals try (repeat' first|exact k6.nil|apply k6.cons)))):A:=(k ⟨trivial⟩).1 ⟨r⟩
inductive tL:List V->List V->Prop
 | nil:tL [] []
 | cons {a b:V} {l m:List V} (h:q3 a b) (t:tL l m):tL (a :: l) (b :: m)
theorem tL.len {l m:List V} (h:tL l m):m.length=l.length:=by
 induction h with
 | nil=>rfl
 | cons _ _ cf=>simp[cf]
theorem tL.at {l m:List V} (h:tL l m):∀ j,j<l.length->q3 (bx l j) (bx m j):=by
 induction h with
 | nil=>intro j ah;simp at ah
 | cons h _ cf=>
  intro j ah
  cases j with
  | zero=>exact h
  | succ j=>
   rw[wG,wG]
   exact cf j (by simp at ah;omega)
section
variable {P:Program} {n0:Nat}
theorem pN {id:Nat} {st:ba} {Q:Exit->ba->Prop} {l:List Oper} (ws:List (Nat×Nat)) (h:bk P st.ad st.next l (fun j id=>(Nat.ble st.next id && LH l j) || FN ws j id) st.next l st.env st.heap (Q .normal))
  (hm:P.follows .mixedOrders=true:=by kernel_rfl) (bu:xA l=true:=by kernel_rfl) (hn0:Nat.ble n0 st.next=true:=by kernel_rfl) :
  cq P n0 (.region id l.toArray true) st Q:=K4 _ h hm bu hn0
theorem Mx {st:ba} (t:Nat) {v cX:V} (hv:cG st.env t=some v) (h:∀ (ρ:Nat->Option Value) (S:Nat->Prop) (w:World) (u:Value),cC ρ S w v u->cC ρ S w cX u):cu P n0 st { st with env:=(t,cX) :: st.env }:=fun F base w0 ρ a w ak ay=>
 ⟨ρ,ak,⟨ay.size,ay.defers,fun s x U=>by
  simp only[cG] at U
  cases hb:Nat.beq t s with
  | true=>
   rw[hb] at U
   simp only[cond_true,Option.some.injEq] at U
   have:=Nat.eq_of_beq_eq_true hb
   subst this;subst U
   exact h _ _ _ _ (ay.slot _ _ hv)
  | false=>rw[hb] at U;exact ay.slot _ _ U⟩,fun _ _=>rfl⟩
theorem Al {st:ba} (t:Nat) (hv:cG st.env t=some (.lit (.slice none 0 0))):cu P n0 st { st with env:=(t,.ro []) :: st.env }:=Mx t hv (fun ρ S w u h=>cZ.rel .nil h)
theorem y4 {st:ba} (t:Nat) {l fl:List (List V)} (hv:cG st.env t=some (.ro l)) (hlen:fl.length=l.length) (dx:∀ i,i<l.length->(bH fl i).length=(bH l i).length)
  (hw:∀ i j,i<l.length->j<(bH l i).length->q3 (bx (bH l i) j) (bx (bH fl i) j)):cu P n0 st { st with env:=(t,.ro fl) :: st.env }:=Mx t hv (fun ρ S w u h=>by
 cases h with
 | pure h=>exact .pure (UU hlen dx hw h))
end
end
end Go.Proofs.YtendheafcbickaaGreat
