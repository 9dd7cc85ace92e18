/-
  SEVERAL TEXTS IN ONE: each with its own comment.
-/
import Derived.Test.YtendheafcbickaaGreatTZip
import Derived.Test.YtendheafcbickaaGreatTGo
import Derived.Test.YtendheafcbickaaGreatTRgsCut
import Derived.Test.YtendheafcbickaaGreatTMg06
import Derived.Test.YtendheafcbickaaGreatTAbsB
import Derived.Test.YtendheafcbickaaGreatTMg07
set_option linter.unusedVariables false
set_option linter.unusedSimpArgs false
set_option maxHeartbeats 16000000
namespace Go.Proofs.YtendheafcbickaaGreat
section
set_option maxRecDepth 100000
attribute [local irreducible] cq a8 bw GStep Fn cu bk
def sw (x y:aQ):Prop:=max x.bs y.bs<=min x.br y.br
def Cx (m:List aQ) (x:aQ):Prop:=cV (fun j=>¬ sw x (m.getD j default)) m.length
def y5 (l m:List aQ):Prop:=cV (fun i=>Cx m (l.getD i default)) l.length
theorem N6 (l m:List aQ) (aq:l.length * 16<=140737488351232) (hm:m.length * 16<=140737488351232):Fn Tryz.prog 255 [.ro (l.map aD),.ro (m.map aD)] (.lit (.bool (yes (¬ y5 l m)))):=by
 refine aU ae Tryz.func255 rfl ae ?_
 (repeat' first|(refine ab ?_;((repeat' first|exact True.intro|refine R.mk ?_ ?_);all_goals intros))|fail "")
 refine b2 (fun k:Nat=>⟨[(1,.ro (m.map aD)),(9,.ro (l.map aD)),(10,.lit (.int .i64 l.length)),(11,.lit (.int .i64 k))],[],0,Tryz.f255.ntmps⟩)
  (fun k=>k<=l.length/\cV (fun i=>Cx m (l.getD i default)) k) (fun k=>l.length - k) 0 ⟨Nat.zero_le _,jx⟩ du ?_
 rintro k ⟨ag,bj⟩
 by_cases aJ:k<l.length
 ·(repeat' first|(refine ab ?_;((repeat' first|exact True.intro|refine R.mk ?_ ?_);all_goals intros))|fail "")
  refine b2 (fun j:Nat=>⟨[(1,.ro (m.map aD)),(9,.ro (l.map aD)),(10,.lit (.int .i64 l.length)),(11,.lit (.int .i64 k)),(6,.ptr 0 0 0 0),(15,.ro (m.map aD)),(16,.lit (.int .i64 m.length)),(17,.lit (.int .i64 j))],[(0,some (.box 146 (aD (l.getD k default))))],1,Tryz.f255.ntmps⟩)
   (fun j=>j<=m.length/\cV (fun j=>¬ sw (l.getD k default) (m.getD j default)) j) (fun j=>m.length - j) 0 ⟨Nat.zero_le _,jx⟩ du ?_
  rintro j ⟨ah,hb⟩
  by_cases jy:j<m.length
  ·(repeat' first|(refine ab ?_;((repeat' first|exact True.intro|refine R.mk ?_ ?_);all_goals intros))|fail "")
   all_goals first
    | (refine ⟨j+1,?_,?_,?_⟩;rotate_left 2;(exact ax);(exact bN);(focus (exact⟨jy,gn.2 ⟨hb,by unfold sw;assumption⟩⟩)))
    | (refine bt (hr:=?_);exact pV (fun h=>h k aJ j jy (by unfold sw;assumption)))
  ·(repeat' first|(refine ab ?_;((repeat' first|exact True.intro|refine R.mk ?_ ?_);all_goals intros))|fail "")
   all_goals (refine ⟨k+1,?_,?_,?_⟩;rotate_left 2;(exact ax);(exact bN);(focus (exact⟨aJ,gn.2 ⟨bj,fun i hi=>hb i (by omega)⟩⟩)))
 ·(repeat' first|(refine ab ?_;((repeat' first|exact True.intro|refine R.mk ?_ ?_);all_goals intros))|fail "")
  all_goals (refine bt (hr:=?_);exact nl (fun h=>h fun i hi=>bj i (by omega)))
def y6 (fin gg hI:Bool):Bool:=(fin || (!gg && !hI)) && !(gg && hI)
def nm (s:dE):Prop:=s.Data.length<=600/\0<=s.Next/\s.Next<=s.Data.length/\s.Next<=s.Max/\s.Max<=4611686018427387903/\gH s.cp=0/\gH s.dF=0/\y6 s.Fin s.lH s.Over=true/\((s.lH || s.Over)=true->s.Next=s.Data.length)
def q5 (n:Int) (l:List aQ):Prop:=0<l.length->(l.getD (l.length - 1) default).br<n
def lI (s:dE):Prop:=((nm s/\q5 s.Next s.cp)/\q5 s.Next s.dF)/\y5 s.cp s.dF
noncomputable def kM (s:dE):Int:=if yes (lI s)=true then 0 else 9
theorem Cy {s:dE} (h:lI s):kM s=0:=if_pos (nh h)
theorem sx {s:dE} (h:¬ lI s):kM s=9:=if_neg (by rw[qZ h];exact Bool.false_ne_true)
theorem su (s:dE):(kM s=0/\lI s)\/(kM s=9 /\ ¬ lI s):=by
 by_cases h:lI s
 ·exact .inl ⟨Cy h,h⟩
 ·exact .inr ⟨sx h,h⟩
theorem Cn (s:dE) (hw:hJ s):Fn Tryz.prog 121 [.agg (fe s)] (.lit (.int .i64 (kM s))):=by
 obtain ⟨cy,cR,w3,ef,dU,eS,fV⟩:=hw
 unfold aF at cR w3
 have I:=vF s.cp dU (by omega)
 have J:=vF s.dF fV (by omega)
 refine aU ae Tryz.func121 rfl ae ?_
 refine iv ?_
 refine lb ?_
 (repeat' first|(refine ni ?_;((repeat' first|exact True.intro|refine R.mk ?_ ?_);all_goals intros))|fail "")
 refine lc ?_
 refine fG (fun ok:Bool=>⟨[(1,.ptr 0 0 0 0),(2,.lit (.int .i64 0)),(3,.lit (.bool ok))],[(0,some (.box 132 (fe s)))],1,Tryz.f121.ntmps⟩) (fun ok=>ok=true ↔ nm s) ?_ ?_
 ·unfold nm
  obtain ⟨data,fin,next,kv,lost,dK,gg,hI⟩:=s
  dsimp only at *
  by_cases hq:data.length<=600/\0<=next/\next<=data.length/\next<=kv/\kv<=4611686018427387903/\gH lost=0/\gH dK=0
  ·obtain ⟨aT,a1,bz,cW,gA,Cz,vG⟩:=hq
   clear dU fV
   cases fin <;> cases gg <;> cases hI
   all_goals (repeat' first|(refine ar (I) (h:=?_))|(refine au (I) (h:=?_))|(refine ar (J) (h:=?_))|(refine au (J) (h:=?_))|(refine ab ?_;((repeat' first|exact True.intro|refine R.mk ?_ ?_);all_goals intros))|fail "")
   all_goals first
    | (refine ⟨true,?_,?_⟩;rotate_left 1;(exact ax);(focus (exact⟨fun _=>⟨aT,a1,bz,cW,gA,Cz,vG,rfl,fun h=>(by first|omega|cases h)⟩,fun _=>rfl⟩)))
    | (refine ⟨false,?_,?_⟩;rotate_left 1;(exact ax);(focus (exact⟨(fun h=>by cases h),fun h=>(by obtain ⟨_,_,_,_,_,_,_,y7,vH⟩:=h;first|(cases y7;done)|(exfalso;have vH:=vH rfl;omega))⟩)))
    | skip
  ·clear dU fV
   (repeat' first|(refine ar (I) (h:=?_))|(refine au (I) (h:=?_))|(refine ar (J) (h:=?_))|(refine au (J) (h:=?_))|(refine ab ?_;((repeat' first|exact True.intro|refine R.mk ?_ ?_);all_goals intros))|fail "")
   all_goals first
    | (refine ⟨false,?_,?_⟩;rotate_left 1;(exact ax);(focus (exact⟨(fun h=>by cases h),fun h=>absurd ⟨h.1,h.2.1,h.2.2.1,h.2.2.2.1,h.2.2.2.2.1,h.2.2.2.2.2.1,h.2.2.2.2.2.2.1⟩ hq⟩)))
    | skip
 rintro ok bu
 clear I J
 cases ok
 ·have hn:¬ lI s:=fun h=>by have:=bu.2 h.1.1.1;cases this
  rw[sx hn]
  (repeat' first|(refine ab ?_;((repeat' first|exact True.intro|refine R.mk ?_ ?_);all_goals intros))|fail "")
  all_goals exact bt (hr:=rfl)
 have hh:=bu.1 rfl
 clear bu
 have l5:=oy hh.2.2.2.2.2.1
 have nS:=oy hh.2.2.2.2.2.2.1
 have uc:0<=s.Next/\s.Next<=600:=by unfold nm at hh;omega
 (repeat' first|(refine ab ?_;((repeat' first|exact True.intro|refine R.mk ?_ ?_);all_goals intros))|fail "")
 refine b2 (fun j:Nat=>⟨[(1,.ptr 0 0 0 0),(2,.lit (.int .i64 0)),(99,.agg [.ro (s.cp.map aD),.ro (s.dF.map aD)]),(100,.lit (.int .i64 j))],[(0,some (.box 132 (fe s)))],1,Tryz.f121.ntmps⟩)
  (fun j=>j<=2/\(0<j->q5 s.Next s.cp)/\(1<j->q5 s.Next s.dF)) (fun j=>2 - j) 0 ⟨by omega,fun h=>absurd h (by omega),fun h=>absurd h (by omega)⟩ du ?_
 rintro j ⟨ah,bj,hb⟩
 obtain rfl|rfl|rfl:j=0\/j=1\/j=2:=by omega
 ·by_cases af:0<s.cp.length
  ·have aH:((s.cp.length - 1:Nat):Int)=(s.cp.length:Int) - 1:=by omega
   (repeat' first|(refine ab ?_;((repeat' first|exact True.intro|refine R.mk ?_ ?_);all_goals intros))|fail "")
   all_goals first
    | (refine ⟨1,?_,?_,?_⟩;rotate_left 2;(exact ax);(exact bN);(focus (exact⟨by omega,fun _ _=>by omega,fun h=>absurd h (by omega)⟩)))
    | (refine bt (hr:=?_);rw[sx (fun h=>by have:=h.1.1.2 af;omega)])
  ·(repeat' first|(refine ab ?_;((repeat' first|exact True.intro|refine R.mk ?_ ?_);all_goals intros))|fail "")
   all_goals (refine ⟨1,?_,?_,?_⟩;rotate_left 2;(exact ax);(exact bN);(focus (exact⟨by omega,fun _ h=>absurd h af,fun h=>absurd h (by omega)⟩)))
 ·have bj:=bj (by omega)
  by_cases af:0<s.dF.length
  ·have aH:((s.dF.length - 1:Nat):Int)=(s.dF.length:Int) - 1:=by omega
   (repeat' first|(refine ab ?_;((repeat' first|exact True.intro|refine R.mk ?_ ?_);all_goals intros))|fail "")
   all_goals first
    | (refine ⟨2,?_,?_,?_⟩;rotate_left 2;(exact ax);(exact bN);(focus (exact⟨by omega,fun _=>bj,fun _ _=>by omega⟩)))
    | (refine bt (hr:=?_);rw[sx (fun h=>by have:=h.1.2 af;omega)])
  ·(repeat' first|(refine ab ?_;((repeat' first|exact True.intro|refine R.mk ?_ ?_);all_goals intros))|fail "")
   all_goals (refine ⟨2,?_,?_,?_⟩;rotate_left 2;(exact ax);(exact bN);(focus (exact⟨by omega,fun _=>bj,fun _ h=>absurd h af⟩)))
 have bj:=bj (by omega)
 have hb:=hb (by omega)
 (repeat' first|(refine ab ?_;((repeat' first|exact True.intro|refine R.mk ?_ ?_);all_goals intros))|fail "")
 refine b2 (fun k:Nat=>⟨[(1,.ptr 0 0 0 0),(2,.lit (.int .i64 0)),(120,.ro (s.cp.map aD)),(121,.lit (.int .i64 s.cp.length)),(122,.lit (.int .i64 k))],[(0,some (.box 132 (fe s)))],1,Tryz.f121.ntmps⟩)
  (fun k=>k<=s.cp.length/\cV (fun i=>Cx s.dF (s.cp.getD i default)) k) (fun k=>s.cp.length - k) 0 ⟨Nat.zero_le _,jx⟩ du ?_
 rintro k ⟨ag,hd⟩
 by_cases aJ:k<s.cp.length
 ·have U:=(ji l5 _ (cY aJ)).1
  unfold b9 at U
  (repeat' first|(refine ab ?_;((repeat' first|exact True.intro|refine R.mk ?_ ?_);all_goals intros))|fail "")
  refine b2 (fun j:Nat=>⟨[(1,.ptr 0 0 0 0),(2,.lit (.int .i64 0)),(120,.ro (s.cp.map aD)),(121,.lit (.int .i64 s.cp.length)),(122,.lit (.int .i64 k)),(8,.ptr 1 0 0 0),(127,.ro (s.dF.map aD)),(128,.lit (.int .i64 s.dF.length)),(129,.lit (.int .i64 j))],[(0,some (.box 132 (fe s))),(1,some (.box 146 (aD (s.cp.getD k default))))],2,Tryz.f121.ntmps⟩)
   (fun j=>j<=s.dF.length/\cV (fun j=>¬ sw (s.cp.getD k default) (s.dF.getD j default)) j) (fun j=>s.dF.length - j) 0 ⟨Nat.zero_le _,jx⟩ du ?_
  rintro j ⟨ah,he⟩
  by_cases jy:j<s.dF.length
  ·have ai:=(ji nS _ (cY jy)).1
   unfold b9 at ai
   (repeat' first|(refine ab ?_;((repeat' first|exact True.intro|refine R.mk ?_ ?_);all_goals intros))|fail "")
   all_goals first
    | (refine ⟨j+1,?_,?_,?_⟩;rotate_left 2;(exact ax);(exact bN);(focus (exact⟨jy,gn.2 ⟨he,by unfold sw;omega⟩⟩)))
    | (refine bt (hr:=?_);rw[sx (fun h=>h.2 k aJ j jy (by unfold sw;omega))])
  ·(repeat' first|(refine ab ?_;((repeat' first|exact True.intro|refine R.mk ?_ ?_);all_goals intros))|fail "")
   all_goals (refine ⟨k+1,?_,?_,?_⟩;rotate_left 2;(exact ax);(exact bN);(focus (exact⟨aJ,gn.2 ⟨hd,fun i hi=>he i (by omega)⟩⟩)))
 ·rw[Cy ⟨⟨⟨hh,bj⟩,hb⟩,fun i hi=>hd i (by omega)⟩]
  (repeat' first|(refine ab ?_;((repeat' first|exact True.intro|refine R.mk ?_ ?_);all_goals intros))|fail "")
  all_goals exact bt (hr:=rfl)
end
section
set_option maxRecDepth 100000
attribute [local irreducible] cq a8 bw GStep Fn cu bk cU
def c5 (n:Nat):Nat->List UInt8
 | 0=>[]
 | k+1=>UInt8.ofNat (n / 256 ^ k) :: c5 n k
theorem iL (n:Nat):∀ k,(c5 n k).length=k
 | 0=>rfl
 | k+1=>by simp[c5,iL n k]
theorem yP (n:Nat):∀ k j,j<k->(c5 n k).getD j default=UInt8.ofNat (n / 256 ^ (k - 1 - j))
 | 0,j,h=>by omega
 | k+1,0,h=>by simp[c5]
 | k+1,j+1,h=>by
  have:=yP n k j (by omega)
  simp only[c5,List.getD_cons_succ,this]
  rw[show k+1 - 1 - (j+1)=k - 1 - j by omega]
theorem B5 (m:Nat):((UInt8.ofNat m).toNat:Int)=IntKind.u8.wrap (m:Int):=by
 rw[IntKind.wrap_u8]
 simp
theorem tV (m:Nat):aC (UInt8.ofNat m)=[.lit (.int .u8 (IntKind.u8.wrap (m:Int)))]:=by unfold aC;rw[B5]
def lv (l:List UInt8) (n k:Nat):List (List V):=(l.take k).map aC++List.replicate (n - k) [.lit (.int .u8 0)]
theorem Ny {l:List UInt8} {n k:Nat} (aq:l.length=n) (ag:k<=n):(lv l n k).length=n:=by
 unfold lv;rw[List.length_append,List.length_map,List.length_take,List.length_replicate];omega
theorem Nx (l:List UInt8) (n:Nat):lv l n 0=List.replicate n [.lit (.int .u8 0)]:=by unfold lv;simp
theorem NA {l:List UInt8} {n:Nat} (aq:l.length=n):lv l n n=l.map aC:=by
 unfold lv;rw[Nat.sub_self,List.take_of_length_le (by omega)];simp
theorem Nz {l:List UInt8} {n k:Nat} {v:Int} (aq:l.length=n) (ag:k<n) (hv:[.lit (.int .u8 v)]=aC (l.getD k default)) :
  (lv l n k).set k [.lit (.int .u8 v)]=lv l n (k+1):=by
 have I:n - k=(n - (k+1))+1:=by omega
 unfold lv
 rw[hv,hy (by omega),List.map_append,I,List.replicate_succ,List.set_append_right (h:=by rw[List.length_map,List.length_take];omega),List.append_assoc]
 congr 1
 rw[List.length_map,List.length_take,Nat.min_eq_left (show k<=l.length by omega),Nat.sub_self]
 simp
theorem GO {l:List UInt8} {n k:Nat} (aq:l.length=n) (ag:k<n):(bH (lv l n k) k).length=1:=by
 unfold lv bH
 rw[List.getD_eq_getElem?_getD,List.getElem?_append_right (by rw[List.length_map,List.length_take];omega),List.length_map,List.length_take,Nat.min_eq_left (by omega),Nat.sub_self,List.getElem?_replicate,if_pos (by omega)]
 rfl
theorem vu {v:V} {c:List V} (h:c.length=1):setAt 0 [v] c=[v]:=by
 match c,h with
 | [x],_=>rfl
theorem tT (n k:Nat):(n:Int).fdiv (2 ^ k)=((n / 2 ^ k:Nat):Int):=by
 rw[Int.fdiv_eq_ediv_of_nonneg _ (by exact_mod_cast Nat.zero_le _)]
 push_cast
 rfl
theorem N7 (n k:Nat):some [[V.lit (.int .u8 (IntKind.u8.wrap ((n / 256 ^ k:Nat):Int)))]]=some ([UInt8.ofNat (n / 256 ^ k)].map aC):=by
 rw[List.map_cons,List.map_nil,tV]
theorem CA (n k:Nat):((n / 256 ^ k:Nat):Int).fdiv (2 ^ min (8:Int).toNat IntKind.u64.bits)=((n / 256 ^ (k+1):Nat):Int):=by
 rw[show min (8:Int).toNat IntKind.u64.bits=8 from rfl,tT,Nat.div_div_eq_div_mul,show(256:Nat) ^ (k+1)=256 ^ k * 2 ^ 8 from by rw[Nat.pow_succ]]
def qQ (l:List UInt8):Int:=l.foldl (fun a c=>IntKind.u64.wrap (IntKind.u64.wrap (a * 256)+c.toNat)) 0
def q6 (l:List UInt8):Nat:=l.foldl (fun a c=>a * 256+c.toNat) 0
theorem Hf (l:List UInt8) (c:UInt8):q6 (l++[c])=q6 l * 256+c.toNat:=by unfold q6;rw[List.foldl_append];rfl
theorem GB (l:List UInt8) (c:UInt8):qQ (l++[c])=IntKind.u64.wrap (IntKind.u64.wrap (qQ l * 256)+c.toNat):=by unfold qQ;rw[List.foldl_append];rfl
theorem Hg {l:List UInt8} (h:l≠[]):∃ m c,l=m++[c]:=⟨l.dropLast,l.getLast h,(List.dropLast_concat_getLast h).symm⟩
theorem CB:∀ (k:Nat) (l:List UInt8),l.length=k->q6 l<256 ^ k
 | 0,l,h=>by
  have:l=[]:=List.length_eq_zero_iff.1 h
  subst this;decide
 | k+1,l,h=>by
  have c9:l≠[]:=fun e=>by rw[e] at h;cases h
  obtain ⟨m,c,rfl⟩:∃ m c,l=m++[c]:=Hg c9
  have I:=CB k m (by simpa using h)
  rw[Hf,Nat.pow_succ]
  have:=c.toNat_lt
  omega
theorem GD:∀ (k:Nat) (l:List UInt8),l.length=k->k<=8->qQ l=(q6 l:Int)
 | 0,l,h,_=>by
  have:l=[]:=List.length_eq_zero_iff.1 h
  subst this;rfl
 | k+1,l,h,ag=>by
  have c9:l≠[]:=fun e=>by rw[e] at h;cases h
  obtain ⟨m,c,rfl⟩:∃ m c,l=m++[c]:=Hg c9
  have hm:m.length=k:=by simpa using h
  have I:=CB k m hm
  have J:=GD k m hm (by omega)
  have av:256 ^ k<=256 ^ 7:=Nat.pow_le_pow_right (by omega) (by omega)
  have bl:(256:Nat) ^ 7=72057594037927936:=by decide
  have:=c.toNat_lt
  rw[GB,Hf,J,IntKind.wrap_u64,IntKind.wrap_u64]
  omega
def hasB (k:Int):List UInt8:=if k=2 then[114] else if k=4 then[105,111,99] else if k=5 then[105,99] else if k=6 then[111,100] else if k=7 then[100] else if k=8 then[105,111,100,102] else if k=16 then[111] else if k=17 then[105,111] else if k=18 then[111] else if k=26 then[119] else if k=27 then[119] else if k=28 then[99] else[]
def mI (k:Int):Bool:=decide (k=0\/k=1\/k=2\/k=4\/k=5\/k=6\/k=7\/k=8\/k=16\/k=17\/k=18\/k=26\/k=27\/k=28\/k=30)
def c6 (s:List UInt8) (c:Int):Bool:=s.any (fun x=>decide ((x.toNat:Int)=c))
theorem CC (k:Int):k=0\/k=1\/k=2\/k=4\/k=5\/k=6\/k=7\/k=8\/k=16\/k=17\/k=18\/k=26\/k=27\/k=28\/k=30\/(¬ k=0 /\ ¬ k=1 /\ ¬ k=2 /\ ¬ k=4 /\ ¬ k=5 /\ ¬ k=6 /\ ¬ k=7 /\ ¬ k=8 /\ ¬ k=16 /\ ¬ k=17 /\ ¬ k=18 /\ ¬ k=26 /\ ¬ k=27 /\ ¬ k=28 /\ ¬ k=30):=by omega
theorem y8 {k:Int} (h:¬ k=0 /\ ¬ k=1 /\ ¬ k=2 /\ ¬ k=4 /\ ¬ k=5 /\ ¬ k=6 /\ ¬ k=7 /\ ¬ k=8 /\ ¬ k=16 /\ ¬ k=17 /\ ¬ k=18 /\ ¬ k=26 /\ ¬ k=27 /\ ¬ k=28 /\ ¬ k=30):mI k=false/\hasB k=[]:=by
 unfold mI hasB
 obtain ⟨af,I,J,av,bl,dm,fr,gB,iO,lg,pW,pX,kf,pY,Hh⟩:=h
 refine ⟨decide_eq_false (by omega),?_⟩
 rw[if_neg J,if_neg av,if_neg bl,if_neg dm,if_neg fr,if_neg gB,if_neg iO,if_neg lg,if_neg pW,if_neg pX,if_neg kf,if_neg pY]
def Ca (s:List UInt8):List V:=[.lit (.bool (c6 s 105)),.lit (.bool (c6 s 111)),.lit (.bool (c6 s 99 || c6 s 119)),.lit (.bool (c6 s 100)),.lit (.bool (c6 s 102)),.lit (.bool (c6 s 119))]
theorem GU (k:Int):Fn Tryz.prog 122 [.lit (.int .i64 k)] (.b0 [.agg (Ca (hasB k)),.lit (.bool (mI k))]):=by
 refine aU ae Tryz.func122 rfl ae ?_
 (repeat' first|(refine ab ?_;((repeat' first|exact True.intro|refine R.mk ?_ ?_);all_goals intros))|fail "")
 all_goals first
  | (subst_vars;exact bt (hr:=rfl))
  | (refine bt (hr:=?_);obtain ⟨aH,aN⟩:=y8 (k:=k) (by omega);rw[aH,aN];rfl)
def y9:List (Value×Value):=[(.int .i64 0,.string (bZ [])),(.int .i64 1,.string (bZ [])),(.int .i64 2,.string (bZ [114])),(.int .i64 4,.string (bZ [105,111,99])),(.int .i64 5,.string (bZ [105,99])),(.int .i64 6,.string (bZ [111,100])),(.int .i64 7,.string (bZ [100])),(.int .i64 8,.string (bZ [105,111,100,102])),(.int .i64 16,.string (bZ [111])),(.int .i64 17,.string (bZ [105,111])),(.int .i64 18,.string (bZ [111])),(.int .i64 26,.string (bZ [119])),(.int .i64 27,.string (bZ [119])),(.int .i64 28,.string (bZ [99])),(.int .i64 30,.string (bZ []))]
theorem N8 {a b:Int} (h:¬ a=b):nn (.int .i64 a) (.int .i64 b)=false:=by simp[nn,h]
theorem N9 (k:Int):(hK (.int .i64 k) y9).getD (.string (bZ [])) = .string (bZ (hasB k))/\(hK (.int .i64 k) y9).isSome=mI k:=by
 rcases CC k with rfl|rfl|rfl|rfl|rfl|rfl|rfl|rfl|rfl|rfl|rfl|rfl|rfl|rfl|rfl|h
 iterate 15 exact⟨rfl,rfl⟩
 obtain ⟨aH,aN⟩:=y8 h
 obtain ⟨af,I,J,av,bl,dm,fr,gB,iO,lg,pW,pX,kf,pY,Hh⟩:=h
 have:hK (.int .i64 k) y9=none:=by
  unfold y9
  simp only[hK,N8,af,I,J,av,bl,dm,fr,gB,iO,lg,pW,pX,kf,pY,Hh,not_false_eq_true,cond_false]
 rw[this,aH,aN]
 exact⟨rfl,rfl⟩
theorem Hi (k:Int):Fn Tryz.prog 142 [.lit (.int .i64 k)] (.b0 [.lit (.string (bZ (hasB k))),.lit (.bool (mI k))]):=by
 obtain ⟨g1,g2⟩:=N9 k
 refine aU ae Tryz.func142 rfl ae ?_
 (repeat' first|(refine Oa (r:=(.string (bZ (hasB k)))) (b:=(mI k)) ?_ ?_ (h:=?_);(focus ((first|exact g1|exact g2)));(focus ((first|exact g1|exact g2))))|(refine ab ?_;((repeat' first|exact True.intro|refine R.mk ?_ ?_);all_goals intros))|fail "")
 all_goals exact bt (hr:=rfl)
theorem sy (s:List UInt8) (c:Int) (ap:s.length<=1000):Fn Tryz.prog 143 [.lit (.string (bZ s)),.lit (.int .u8 c)] (.lit (.bool (c6 s c))):=by
 refine aU ae Tryz.func143 rfl ae ?_
 (repeat' first|(refine ab ?_;((repeat' first|exact True.intro|refine R.mk ?_ ?_);all_goals intros))|fail "")
 refine b2 (fun k:Nat=>⟨[(0,.lit (.string (bZ s))),(1,.lit (.int .u8 c)),(5,.lit (.int .i64 k))],[],0,Tryz.f143.ntmps⟩)
  (fun k=>k<=s.length/\cV (fun i=>¬ ((s.getD i default).toNat:Int)=c) k) (fun k=>s.length - k) 0 ⟨Nat.zero_le _,jx⟩ du ?_
 rintro k ⟨ag,bj⟩
 by_cases aJ:k<s.length
 ·(repeat' first|(refine ab ?_;((repeat' first|exact True.intro|refine R.mk ?_ ?_);all_goals intros))|fail "")
  all_goals first
   | (refine ⟨k+1,?_,?_,?_⟩;rotate_left 2;(exact ax);(exact bN);(focus (exact⟨aJ,gn.2 ⟨bj,by assumption⟩⟩)))
   | (refine bt (hr:=?_);rw[show c6 s c=true from List.any_eq_true.2 ⟨_,cY aJ,decide_eq_true ca⟩])
 ·(repeat' first|(refine ab ?_;((repeat' first|exact True.intro|refine R.mk ?_ ?_);all_goals intros))|fail "")
  all_goals (refine bt (hr:=?_);rw[show c6 s c=false from ?_];refine List.any_eq_false.2 fun x U=>?_;obtain ⟨i,hi,rfl⟩:=List.getElem_of_mem U;have:=bj i (by omega);dsimp only at this;rw[List.getD_eq_getElem?_getD,List.getElem?_eq_getElem hi] at this;simpa using this)
theorem G1 (b:Bool) (n:Int):Fn Tryz.prog 123 [.lit (.bool b),.lit (.int .i64 n)] (.lit (.bool (decide (0<=n/\n<=4611686018427387903/\(b=true\/n=0))))):=by
 cases b
 all_goals refine aU ae Tryz.func123 rfl ae ?_
 all_goals (repeat' first|(refine ab ?_;((repeat' first|exact True.intro|refine R.mk ?_ ?_);all_goals intros))|fail "")
 all_goals refine bt (hr:=?_)
 all_goals first
  | (rw[decide_eq_true (by simp;omega)] <;> rfl)
  | (rw[decide_eq_false (by simp;omega)] <;> rfl)
theorem NR (l:List aQ) (hw:∀ y,y ∈ l->fz y) (aq:l.length * 16<=140737488351232):Fn Tryz.prog 124 [.ro (l.map aD)] (.lit (.bool (decide (gH l.reverse=0)))):=by
 have I:=vF l.reverse (fun y ai=>hw y (List.mem_reverse.1 ai)) (by rw[List.length_reverse];omega)
 refine aU ae Tryz.func124 rfl ae ?_
 (repeat' first|(refine ab ?_;((repeat' first|exact True.intro|refine R.mk ?_ ?_);all_goals intros))|fail "")
 refine b2 (fun k:Nat=>⟨[(0,.ro (l.map aD)),(4,.lit (.int .i64 ((k:Int) - 1))),(3,.own 0)],[(0,some (.row 146 2 ((l.drop k).reverse.map aD)))],1,Tryz.f124.ntmps⟩)
  (fun k=>k<=l.length) (fun k=>k) l.length (Nat.le_refl _) (by rw[List.drop_length];exact(ic (n:=0) (t:=3) 146 2 rfl rfl rfl).trans du) ?_
 intro k ag
 by_cases ng:0<k
 ·have ct:k - 1<l.length:=by omega
  have e:(l.drop (k - 1)).reverse=(l.drop k).reverse++[l.getD (k - 1) default]:=by rw[drop_cons ct,List.reverse_cons,show k - 1+1=k by omega]
  have qV:(l.drop k).length=l.length - k:=List.length_drop
  have tY:(k:Int) - 1=((k - 1:Nat):Int):=by omega
  (repeat' first|(refine cx (r:=((l.drop (k - 1)).reverse).map aD) ?_ ?_ ?_ ?_ (h:=?_);(focus (rw[e,List.map_append];rfl));(focus (exact CD rfl));(exact CE);(exact CF))|(refine ab ?_;((repeat' first|exact True.intro|refine R.mk ?_ ?_);all_goals intros))|fail "")
  all_goals (refine ⟨k - 1,?_,?_,?_⟩;rotate_left 2;(exact ax);(exact bN);(exact bN))
 ·have:k=0:=by omega
  subst this
  rw[List.drop_zero]
  (repeat' first|(refine l6 (I) (h:=?_))|(refine l7 (I) (h:=?_))|(refine ab ?_;((repeat' first|exact True.intro|refine R.mk ?_ ?_);all_goals intros))|fail "")
  all_goals (refine bt (hr:=?_);first|rw[decide_eq_true ca]|rw[decide_eq_false ca])
end
end Go.Proofs.YtendheafcbickaaGreat
