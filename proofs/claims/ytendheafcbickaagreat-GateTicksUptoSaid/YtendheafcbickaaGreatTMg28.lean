/-
  SEVERAL TEXTS IN ONE: each with its own comment.
-/
import Derived.Test.YtendheafcbickaaGreatTZip
import Derived.Test.YtendheafcbickaaGreatTGo
import Derived.Test.YtendheafcbickaaGreatTMg27
import Derived.Test.YtendheafcbickaaGreatTMg23
import Derived.Test.YtendheafcbickaaGreatTAbsB
import Derived.Test.YtendheafcbickaaGreatTMg25
set_option linter.unusedVariables false
set_option linter.unusedSimpArgs false
set_option maxHeartbeats 16000000
namespace Go.Proofs.YtendheafcbickaaGreat
section
set_option maxRecDepth 100000
attribute [local irreducible] cq a8 bw GStep Fn cu bk cU
theorem Rc (st:Int) (q:Nat):gz (IntKind.u64.wrap (st+((8 * q:Nat):Int) / 8))=((qS st q:Nat):Int):=by
 unfold qS
 rw[show((8 * q:Nat):Int) / 8=(q:Int) by omega]
 have:=B2 (IntKind.u64.wrap (st+(q:Int)))
 rw[Int.toNat_of_nonneg this.1]
theorem Re (st:Int) (q j:Nat) (h:j<8):IntKind.u8.wrap ((qS st q / 256 ^ j:Nat):Int)=((oi st (8 * q+j)).toNat:Int):=by
 unfold oi
 rw[B5,show(8 * q+j) / 8=q by omega,show(8 * q+j) % 8=j by omega]
theorem Rf (st:Int) (l:List UInt8) {i:Nat} (h:i<l.length):(k8 st 0 l).take i++[l.getD i default ^^^ oi st i]=(k8 st 0 l).take (i+1):=by
 have aj:=B4 st l 0 i h
 rw[Nat.zero_add] at aj
 rw[hy (by rw[oj];exact h),aj]
theorem Rg (key n:Int) (l:List UInt8) (aq:l.length<=140737488355328):Fn Tryz.prog 267 [.lit (.int .u64 key),.lit (.int .i64 n),.lit (.string (bZ l))] (.lit (.string (bZ (oY key n l)))):=by
 have ap:yO key n=gz (ee .xor .u64 (gz (IntKind.u64.wrap n)) key):=by unfold yO;rw[B3]
 unfold oY
 rw[ap]
 refine aU ae Tryz.func267 rfl ae ?_
 (repeat' first|(refine ar (oq _) (h:=?_))|(refine au (oq _) (h:=?_))|(refine ab ?_;((repeat' first|exact True.intro|refine R.mk ?_ ?_);all_goals intros))|fail "")
 generalize gz (ee .xor .u64 (gz (IntKind.u64.wrap n)) key)=st
 have qV:=oj st l 0
 refine b2 (fun q:Nat=>⟨[(2,.lit (.string (bZ l))),(7,.lit (.int .u64 st)),(8,.lit (.string (bZ ((k8 st 0 l).take (8 * q))))),(9,.lit (.int .i64 ((8 * q:Nat):Int)))],[],0,Tryz.f267.ntmps⟩)
  (fun q=>8 * q<=l.length+7) (fun q=>l.length+8 - 8 * q) 0 (by omega) gf ?_
 intro q hq
 have b8:=Rc st q
 by_cases Xf:8 * q<l.length
 ·(repeat' first|(refine ar (oq _) (h:=?_))|(refine au (oq _) (h:=?_))|(refine ab ?_;((repeat' first|exact True.intro|refine R.mk ?_ ?_);all_goals intros))|fail "")
  rw[b8]
  refine b2 (fun j:Nat=>⟨[(2,.lit (.string (bZ l))),(7,.lit (.int .u64 st)),(8,.lit (.string (bZ ((k8 st 0 l).take (8 * q+j))))),(9,.lit (.int .i64 ((8 * q:Nat):Int))),(10,.lit (.int .u64 ((qS st q / 256 ^ j:Nat):Int))),(11,.lit (.int .i64 ((8 * q+j:Nat):Int)))],[],0,Tryz.f267.ntmps⟩)
   (fun j=>j<=8/\8 * q+j<=l.length) (fun j=>8 - j) 0 (by omega) gf ?_
  rintro j ⟨ah,sm⟩
  have mN:((k8 st 0 l).take (8 * q+j)).length<=l.length:=by rw[List.length_take];omega
  by_cases U:j<8/\8 * q+j<l.length
  ·have aH:=CA (qS st q) j
   have aN:=Rf st l U.2
   have bS:some [[V.lit (.int .u8 (ee .xor .u8 ((l.getD (8 * q+j) default).toNat:Int) (IntKind.u8.wrap ((qS st q / 256 ^ j:Nat):Int))))]]=some ([l.getD (8 * q+j) default ^^^ oi st (8 * q+j)].map aC):=by
    rw[Re st q j U.1,GG];rfl
   (repeat' first|(refine s3 (l:=[l.getD (8 * q+j) default ^^^ oi st (8 * q+j)]) (hv:=?_) (h:=?_);(focus exact bS))|(refine dS (r:=(k8 st 0 l).take (8 * q+j+1)) ?_ ?_ (h:=?_);(focus (exact aN));(exact bP))|(refine dT (r:=(k8 st 0 l).take (8 * q+j+1)) ?_ ?_ (h:=?_);(focus (exact aN));(exact bP))|(refine fc ?_;((repeat' first|exact True.intro|refine R.mk ?_ ?_);all_goals intros))|refine bB (h:=?_)|refine bB (hq:=eo rfl rfl rfl ew ey rfl rfl rfl rfl) (h:=?_)|refine da (h:=?_)|refine dJ (h:=?_)|refine ep (h:=?_)|refine ez (h:=?_)|refine eA (h:=?_)|refine eB (h:=?_)|refine eC (h:=?_)|refine eD (h:=?_)|(refine dS rfl ?_ (h:=?_);(exact bP))|(refine dT rfl ?_ (h:=?_);(exact bP))|fail "")
   all_goals (rw[aH];(refine ⟨j+1,?_,?_,?_⟩;rotate_left 2;(exact ax);(exact bN);(exact bN)))
  ·have ht:(k8 st 0 l).take (8 * q+j)=(k8 st 0 l).take (8 * (q+1)):=by
    by_cases Ce:j=8
    ·rw[Ce];rfl
    ·rw[List.take_of_length_le (by omega),List.take_of_length_le (by omega)]
   rw[ht]
   (repeat' first|(refine ab ?_;((repeat' first|exact True.intro|refine R.mk ?_ ?_);all_goals intros))|fail "")
   all_goals (refine ⟨q+1,?_,?_,?_⟩;rotate_left 2;(exact ax);(exact bN);(exact bN))
 ·(repeat' first|(refine ab ?_;((repeat' first|exact True.intro|refine R.mk ?_ ?_);all_goals intros))|fail "")
  all_goals (refine bt (hr:=?_);rw[List.take_of_length_le (by omega)])
def D5 (p:List UInt8):List V:=[.lit (.string (bZ p))]
theorem Rh (key n:Int) (bK:List (List UInt8)) (aw:bK.length<=1000) (aq:∀ p,p ∈ bK->p.length<=140737488355328):Fn Tryz.prog 283 [.lit (.int .u64 key),.lit (.int .i64 n),.ro (bK.map D5)] (.lit (.string (bZ (om key n bK)))):=by
 have hr:=GL key n bK
 unfold om
 unfold tU at *
 rw[B3] at *
 refine aU ae Tryz.func283 rfl ae ?_
 (repeat' first|(refine ar (oq _) (h:=?_))|(refine au (oq _) (h:=?_))|(refine ab ?_;((repeat' first|exact True.intro|refine R.mk ?_ ?_);all_goals intros))|fail "")
 generalize ee .xor .u64 (IntKind.u64.wrap n) (gz key)=af at *
 refine b2 (fun k:Nat=>⟨[(7,.lit (.int .u64 ((bK.take k).foldl ol af))),(16,.ro (bK.map D5)),(17,.lit (.int .i64 bK.length)),(18,.lit (.int .i64 k))],[],0,Tryz.f283.ntmps⟩)
  (fun k=>k<=bK.length) (fun k=>bK.length - k) 0 (by omega) du ?_
 intro k ag
 by_cases aJ:k<bK.length
 ·have hb:=aq _ (cY aJ)
  have e:(bK.take (k+1)).foldl ol af=gz (ee .xor .u64 (nL ((bK.take k).foldl ol af) (bK.getD k default)) (((bK.getD k default).length * 256:Nat):Int)):=by rw[hy aJ,List.foldl_append];rfl
  generalize ak:(bK.take k).foldl ol af=H at e ⊢
  generalize aB:bK.getD k default=b at hb e ⊢
  rw[show((b.length * 256:Nat):Int)=256 * (b.length:Int) by omega] at e
  (repeat' first|(refine ab ?_;((repeat' first|exact True.intro|refine R.mk ?_ ?_);all_goals intros))|fail "")
  rw[aB]
  refine b2 (fun j:Nat=>⟨[(7,.lit (.int .u64 (nL H (b.take j)))),(9,.lit (.string (bZ b))),(10,.lit (.int .i64 j)),(16,.ro (bK.map D5)),(17,.lit (.int .i64 bK.length)),(18,.lit (.int .i64 k))],[],0,Tryz.f283.ntmps⟩)
   (fun j=>j<=b.length) (fun j=>b.length - j) 0 (by omega) du ?_
  intro j ah
  by_cases B7:j<b.length
  ·have hc:=(b.getD j default).toNat_lt
   have aN:nL H (b.take (j+1))=gz (ee .xor .u64 ((b.getD j default).toNat:Int) (nL H (b.take j))):=by rw[hy B7,GK,B3]
   (repeat' first|(refine ar (oq _) (h:=?_))|(refine au (oq _) (h:=?_))|(refine ab ?_;((repeat' first|exact True.intro|refine R.mk ?_ ?_);all_goals intros))|fail "")
   all_goals (refine ⟨j+1,?_,?_,?_⟩;rotate_left 2;(exact ax);(exact bN);(exact bN))
  ·have:j=b.length:=by omega
   subst this
   rw[List.take_length]
   (repeat' first|(refine ar (oq _) (h:=?_))|(refine au (oq _) (h:=?_))|(refine ab ?_;((repeat' first|exact True.intro|refine R.mk ?_ ?_);all_goals intros))|fail "")
   all_goals (rw[<- e];(refine ⟨k+1,?_,?_,?_⟩;rotate_left 2;(exact ax);(exact bN);(exact bN)))
 ·have:k=bK.length:=by omega
  subst this
  rw[List.take_length]
  generalize bK.foldl ol af=x at *
  obtain ⟨m,rfl⟩:=Int.eq_ofNat_of_zero_le hr.1
  rw[Int.toNat_natCast]
  (repeat' first|(refine ar (D6 _) (h:=?_))|(refine au (D6 _) (h:=?_))|(refine ab ?_;((repeat' first|exact True.intro|refine R.mk ?_ ?_);all_goals intros))|fail "")
  all_goals exact bt (hr:=rfl)
theorem Ri (key n:Int) (h t:List UInt8) (hh:h.length<=140737488355328) (ht:t.length<=140737488355328):Fn Tryz.prog 265 [.lit (.int .u64 key),.lit (.int .i64 n),.ro [[.ro (h.map aC)],[.ro (t.map aC)]]] (.ro ((om key n [h,t]).map aC)):=
 Nw key n [h,t] (by simp) (fun p aw=>by rcases List.mem_cons.1 aw with rfl|aw;exact hh;rcases List.mem_cons.1 aw with rfl|aw;exact ht;cases aw)
theorem Rj (key n:Int) (h t:List UInt8) (hh:h.length<=140737488355328) (ht:t.length<=140737488355328):Fn Tryz.prog 283 [.lit (.int .u64 key),.lit (.int .i64 n),.ro [[.lit (.string (bZ h))],[.lit (.string (bZ t))]]] (.lit (.string (bZ (om key n [h,t])))):=
 Rh key n [h,t] (by simp) (fun p aw=>by rcases List.mem_cons.1 aw with rfl|aw;exact hh;rcases List.mem_cons.1 aw with rfl|aw;exact ht;cases aw)
theorem Pk (key n:Int) (h t:List UInt8) (hh:h.length<=140737488355328) (ht:t.length<=140737488355300):cU Tryz.prog 216 [.lit (.int .u64 key),.lit (.int .i64 n),.ro (h.map aC),.ro (t.map aC)] [] 0 (.own 0) [(0,some (.row 5 1 ((nM key n h t).map aC)))] 1:=by
 have I:=Nv key n t (by omega)
 have J:=Ri key n h t hh (by omega)
 have iA:=vt key n t
 have iw:=vv key n [h,t]
 unfold nM
 generalize oY key n t=x at *
 generalize om key n [h,t]=y at *
 refine gG ae Tryz.func216 rfl ae (by rfl) ?_
 (repeat' first|(refine eL [] (I) (h:=?_))|(refine eM [] (I) (h:=?_))|(refine kc (I) (h:=?_))|(refine ar (J) (h:=?_))|(refine au (J) (h:=?_))|(refine cx (r:=(x++y).map aC) ?_ ?_ ?_ ?_ (h:=?_);(exact aM);(exact al);(exact an);(exact ao))|(refine cD (r:=(x++y).map aC) ?_ ?_ ?_ ?_ (h:=?_);(exact aM);(exact al);(exact an);(exact ao))|(refine cE (r:=(x++y).map aC) ?_ ?_ ?_ ?_ (h:=?_);(exact aM);(exact al);(exact an);(exact ao))|(refine cF (r:=(x++y).map aC) ?_ ?_ ?_ ?_ (h:=?_);(exact aM);(exact al);(exact an);(exact ao))|(refine ab ?_;((repeat' first|exact True.intro|refine R.mk ?_ ?_);all_goals intros))|fail "")
 all_goals (exact fg)
theorem QG (key n:Int) (h t:List UInt8) (hh:h.length<=140737488355328) (ht:t.length<=140737488355328):Fn Tryz.prog 227 [.lit (.int .u64 key),.lit (.int .i64 n),.lit (.string (bZ h)),.lit (.string (bZ t))] (.lit (.string (bZ (nM key n h t)))):=by
 have I:=Rg key n t ht
 have J:=Rj key n h t hh ht
 have iA:=vt key n t
 have iw:=vv key n [h,t]
 unfold nM
 generalize oY key n t=x at *
 generalize om key n [h,t]=y at *
 refine aU ae Tryz.func227 rfl ae ?_
 (repeat' first|(refine ar (I) (h:=?_))|(refine au (I) (h:=?_))|(refine ar (J) (h:=?_))|(refine au (J) (h:=?_))|(refine ab ?_;((repeat' first|exact True.intro|refine R.mk ?_ ?_);all_goals intros))|fail "")
 all_goals exact bt (hr:=rfl)
noncomputable def Xg (key n:Int) (h s:List UInt8):List UInt8×Int:=
 if s.length<8 then([],4) else if om key n [h,oY key n (s.take (s.length - 8))]=s.drop (s.length - 8) then(oY key n (s.take (s.length - 8)),0) else([],10)
def iH (L:List Int):List UInt8:=L.flatMap (fun n=>cM n.toNat)
theorem Jp (L:List Int) (n:Int):iH (L++[n])=iH L++cM n.toNat:=by unfold iH;rw[List.flatMap_append];simp
theorem hj (n:Nat):(cM n).length<=8:=by
 have:=rF n
 rw[An];omega
theorem Jq:∀ L:List Int,(iH L).length<=8 * L.length
 | []=>by simp[iH]
 | n :: L=>by
  have I:=Jq L
  have J:=hj n.toNat
  unfold iH at *
  rw[List.flatMap_cons,List.length_append,List.length_cons]
  omega
theorem D7 (n:Int) (h:0<=n/\n<=4611686018427387903):Fn Tryz.prog 279 [.lit (.int .i64 n)] (.b0 [.ro ((cM n.toNat).map aC),.lit (.int .i64 0)]):=by
 have:=I4 n.toNat (by omega)
 rw[Int.toNat_of_nonneg h.1] at this
 exact this
theorem Cb (n:Int) (h:0<=n/\n<=4611686018427387903):cU Tryz.prog 280 [.ptr 0 0 0 0,.ro [[.lit (.int .i64 n)]]] [(0,some (.box 333 [.lit (.slice none 0 0)]))] 1 (.b0 []) [(0,some (.box 333 [.own 1])),(1,some (.row 5 1 ((cM n.toNat).map aC)))] 2:=by
 have hv:=D7 n h
 have aq:=hj n.toNat
 generalize cM n.toNat=v at *
 refine gG ae Tryz.func280 rfl ae (by rfl) ?_
 (repeat' first|(refine ab ?_;((repeat' first|exact True.intro|refine R.mk ?_ ?_);all_goals intros))|fail "")
 refine b2 (fun b:Bool=>match b with
  | false=>⟨[(0,.ptr 0 0 0 0),(8,.ro [[.lit (.int .i64 n)]]),(9,.lit (.int .i64 1)),(10,.lit (.int .i64 0))],[(0,some (.box 333 [.lit (.slice none 0 0)]))],1,Tryz.f280.ntmps⟩
  | true=>⟨[(0,.ptr 0 0 0 0),(8,.ro [[.lit (.int .i64 n)]]),(9,.lit (.int .i64 1)),(10,.lit (.int .i64 1))],[(0,some (.box 333 [.own 1])),(1,some (.row 5 1 (v.map aC)))],2,Tryz.f280.ntmps⟩)
  (fun _=>True) (fun b=>if b then 0 else 1) false trivial gf ?_
 rintro (_|_) _
 ·dsimp only
  (repeat' first|(refine ar (hv) (h:=?_))|(refine au (hv) (h:=?_))|(refine cx (r:=v.map aC) ?_ ?_ ?_ ?_ (h:=?_);(exact aM);(exact al);(exact an);(exact ao))|(refine cD (r:=v.map aC) ?_ ?_ ?_ ?_ (h:=?_);(exact aM);(exact al);(exact an);(exact ao))|(refine cE (r:=v.map aC) ?_ ?_ ?_ ?_ (h:=?_);(exact aM);(exact al);(exact an);(exact ao))|(refine cF (r:=v.map aC) ?_ ?_ ?_ ?_ (h:=?_);(exact aM);(exact al);(exact an);(exact ao))|(refine ab ?_;((repeat' first|exact True.intro|refine R.mk ?_ ?_);all_goals intros))|fail "")
  all_goals first
   | (refine ⟨true,?_,?_,?_⟩;rotate_left 2;(exact ax);(focus (decide));(exact jt))
   | skip
 ·dsimp only
  (repeat' first|(refine ab ?_;((repeat' first|exact True.intro|refine R.mk ?_ ?_);all_goals intros))|fail "")
  all_goals (exact fg)
theorem D8 (L:List Int) (p:List UInt8) (dx:∀ n ∈ L,0<=n/\n<=4611686018427387903) (aq:0<L.length/\L.length<=10) (aw:p.length<=1000):cU Tryz.prog 280 [.ptr 0 0 0 0,.ro (L.map encI)] [(0,some (.box 333 [.own 1])),(1,some (.row 5 1 (p.map aC)))] 2 (.b0 []) [(0,some (.box 333 [.own 2])),(2,some (.row 5 1 ((p++iH L).map aC)))] 3:=by
 refine gG ae Tryz.func280 rfl ae (by rfl) ?_
 (repeat' first|(refine ab ?_;((repeat' first|exact True.intro|refine R.mk ?_ ?_);all_goals intros))|fail "")
 refine b2 (fun x:Nat=>match x with
  | 0=>⟨[(0,.ptr 0 0 0 0),(8,.ro (L.map encI)),(9,.lit (.int .i64 L.length)),(10,.lit (.int .i64 0))],[(0,some (.box 333 [.own 1])),(1,some (.row 5 1 (p.map aC)))],2,Tryz.f280.ntmps⟩
  | k+1=>⟨[(0,.ptr 0 0 0 0),(8,.ro (L.map encI)),(9,.lit (.int .i64 L.length)),(10,.lit (.int .i64 ((k+1:Nat):Int)))],[(0,some (.box 333 [.own 2])),(2,some (.row 5 1 ((p++iH (L.take (k+1))).map aC)))],3,Tryz.f280.ntmps⟩)
  (fun x=>x<=L.length) (fun x=>L.length - x) 0 (Nat.zero_le _) gf ?_
 rintro (_|k) ag
 ·dsimp only
  have af:=D7 _ (dx _ (cY aq.1))
  have e:iH (L.take (0+1))=cM (L.getD 0 default).toNat:=by
   rw[hy aq.1,Jp];rfl
  have hv:=hj (L.getD 0 default).toNat
  (repeat' first|(refine ar (af) (h:=?_))|(refine au (af) (h:=?_))|(refine cx (r:=(p++iH (L.take (0+1))).map aC) ?_ ?_ ?_ ?_ (h:=?_);(exact Af);(exact al);(exact an);(exact ao))|(refine cD (r:=(p++iH (L.take (0+1))).map aC) ?_ ?_ ?_ ?_ (h:=?_);(exact Af);(exact al);(exact an);(exact ao))|(refine cE (r:=(p++iH (L.take (0+1))).map aC) ?_ ?_ ?_ ?_ (h:=?_);(exact Af);(exact al);(exact an);(exact ao))|(refine cF (r:=(p++iH (L.take (0+1))).map aC) ?_ ?_ ?_ ?_ (h:=?_);(exact Af);(exact al);(exact an);(exact ao))|(refine ab ?_;((repeat' first|exact True.intro|refine R.mk ?_ ?_);all_goals intros))|fail "")
  all_goals first
   | (refine ⟨0+1,?_,?_,?_⟩;rotate_left 2;(exact ax);(exact bN);(exact bN))
   | skip
 ·dsimp only
  by_cases zm:k+1<L.length
  ·have af:=D7 _ (dx _ (cY zm))
   have e:iH (L.take (k+1+1))=iH (L.take (k+1))++cM (L.getD (k+1) default).toNat:=by
    rw[hy zm,Jp]
   have hv:=hj (L.getD (k+1) default).toNat
   have hc:=Jq (L.take (k+1))
   rw[List.length_take] at hc
   (repeat' first|(refine ar (af) (h:=?_))|(refine au (af) (h:=?_))|(refine cx (r:=(p++iH (L.take (k+1+1))).map aC) ?_ ?_ ?_ ?_ (h:=?_);(exact Aa);(exact al);(exact an);(exact ao))|(refine cD (r:=(p++iH (L.take (k+1+1))).map aC) ?_ ?_ ?_ ?_ (h:=?_);(exact Aa);(exact al);(exact an);(exact ao))|(refine cE (r:=(p++iH (L.take (k+1+1))).map aC) ?_ ?_ ?_ ?_ (h:=?_);(exact Aa);(exact al);(exact an);(exact ao))|(refine cF (r:=(p++iH (L.take (k+1+1))).map aC) ?_ ?_ ?_ ?_ (h:=?_);(exact Aa);(exact al);(exact an);(exact ao))|(refine ab ?_;((repeat' first|exact True.intro|refine R.mk ?_ ?_);all_goals intros))|fail "")
   all_goals first
    | (refine ⟨k+1+1,?_,?_,?_⟩;rotate_left 2;(exact ax);(exact bN);(exact bN))
    | skip
  ·rw[List.take_of_length_le (by omega)]
   (repeat' first|(refine ab ?_;((repeat' first|exact True.intro|refine R.mk ?_ ?_);all_goals intros))|fail "")
   all_goals (exact fg)
theorem yT (n:Int) (p:List UInt8) (h:0<=n/\n<=4611686018427387903) (aw:p.length<=1000):cU Tryz.prog 280 [.ptr 0 0 0 0,.ro [[.lit (.int .i64 n)]]] [(0,some (.box 333 [.own 1])),(1,some (.row 5 1 (p.map aC)))] 2 (.b0 []) [(0,some (.box 333 [.own 2])),(2,some (.row 5 1 ((p++cM n.toNat).map aC)))] 3:=by
 have:=D8 [n] p (fun m hm=>by rw[List.mem_singleton.1 hm];exact h) (by simp) aw
 rw[show iH [n]=cM n.toNat by simp[iH]] at this
 exact this
theorem NF (m n:Int) (p:List UInt8) (hm:0<=m/\m<=4611686018427387903) (h:0<=n/\n<=4611686018427387903) (aw:p.length<=1000):cU Tryz.prog 280 [.ptr 0 0 0 0,.ro [[.lit (.int .i64 m)],[.lit (.int .i64 n)]]] [(0,some (.box 333 [.own 1])),(1,some (.row 5 1 (p.map aC)))] 2 (.b0 []) [(0,some (.box 333 [.own 2])),(2,some (.row 5 1 ((p++(cM m.toNat++cM n.toNat)).map aC)))] 3:=by
 have:=D8 [m,n] p (fun x U=>by simp at U;rcases U with rfl|rfl;exact hm;exact h) (by simp) aw
 rw[show iH [m,n]=cM m.toNat++cM n.toNat by simp[iH]] at this
 exact this
theorem ND (m k n:Int) (p:List UInt8) (hm:0<=m/\m<=4611686018427387903) (ag:0<=k/\k<=4611686018427387903) (h:0<=n/\n<=4611686018427387903) (aw:p.length<=1000):cU Tryz.prog 280 [.ptr 0 0 0 0,.ro [[.lit (.int .i64 m)],[.lit (.int .i64 k)],[.lit (.int .i64 n)]]] [(0,some (.box 333 [.own 1])),(1,some (.row 5 1 (p.map aC)))] 2 (.b0 []) [(0,some (.box 333 [.own 2])),(2,some (.row 5 1 ((p++(cM m.toNat++cM k.toNat++cM n.toNat)).map aC)))] 3:=by
 have:=D8 [m,k,n] p (fun x U=>by simp at U;rcases U with rfl|rfl|rfl;exact hm;exact ag;exact h) (by simp) aw
 rw[show iH [m,k,n]=cM m.toNat++cM k.toNat++cM n.toNat by simp[iH]] at this
 exact this
end
end Go.Proofs.YtendheafcbickaaGreat
