/-
  SEVERAL TEXTS IN ONE: each with its own comment.
-/
import Derived.Test.YtendheafcbickaaGreatTZip
import Derived.Test.YtendheafcbickaaGreatTGo
import Derived.Test.YtendheafcbickaaGreatTMg09
import Derived.Test.YtendheafcbickaaGreatProg
import Derived.Test.YtendheafcbickaaGreatTMg23
import Derived.Test.YtendheafcbickaaGreatTMg06
set_option linter.unusedVariables false
set_option linter.unusedSimpArgs false
set_option maxHeartbeats 16000000
namespace Go.Proofs.YtendheafcbickaaGreat
section
set_option maxRecDepth 100000
attribute [local irreducible] cq a8 bw GStep Fn cu bk cU
theorem Ni (l:List UInt8) (aq:l.length<=1000000000000000):Fn Tryz.prog 171 [.lit (.string (bZ l))] (.lit (.int .u64 (qQ l))):=by
 refine aU ae Tryz.func171 rfl ae ?_
 (repeat' first|(refine ab ?_;((repeat' first|exact True.intro|refine R.mk ?_ ?_);all_goals intros))|fail "")
 refine b2 (fun k:Nat=>⟨[(0,.lit (.string (bZ l))),(3,.lit (.int .u64 (qQ (l.take k)))),(4,.lit (.int .i64 k))],[],0,Tryz.f171.ntmps⟩)
  (fun k=>k<=l.length) (fun k=>l.length - k) 0 (by omega) du ?_
 intro k ag
 by_cases aJ:k<l.length
 ·have e:qQ (l.take (k+1))=IntKind.u64.wrap (IntKind.u64.wrap (qQ (l.take k) * 256)+(l.getD k default).toNat):=by rw[hy aJ,GB]
  have hc:=(l.getD k default).toNat_lt
  (repeat' first|(refine ab ?_;((repeat' first|exact True.intro|refine R.mk ?_ ?_);all_goals intros))|fail "")
  all_goals (refine ⟨k+1,?_,?_,?_⟩;rotate_left 2;(exact ax);(exact bN);(exact bN))
 ·(repeat' first|(refine ab ?_;((repeat' first|exact True.intro|refine R.mk ?_ ?_);all_goals intros))|fail "")
  all_goals (refine bt (hr:=?_);rw[List.take_of_length_le (by omega)])
def B0 (l:List UInt8):Nat:=2 ^ ((l.getD 0 default).toNat / 64)
def yL (l:List UInt8):Nat×Nat×Int:=
 if l.length=0 then(0,0,4) else if l.length<B0 l then(0,0,4) else(ia ((l.getD 0 default).toNat % 64) ((l.take (B0 l)).drop 1),B0 l,0)
def qR (e:Int):gy×Int×Int:=(⟨0,0,0,[],0,0⟩,0,e)
def WO (r:gy×Int×Int):V:=.b0 [.agg (k7 r.1),.lit (.int .i64 r.2.1),.lit (.int .i64 r.2.2)]
def Nj (c:Nat):Option (Int×Nat):=if 64<=c/\c<68 then some (2,c - 63) else if 192<=c/\c<196 then some (0,c - 191) else if c=240 then some (1,0) else none
def GC (K:Int) (T F:Nat) (tok:List UInt8) (S u:Nat) (l:List UInt8):gy×Int×Int:=
 if l.length<u+S then qR 4 else(⟨K,T,F,tok,((ia 0 ((l.take (u+S)).drop u):Nat):Int),S⟩,((u+S:Nat):Int),0)
def Nk (K:Int) (S:Nat) (l:List UInt8) (v:Nat×Nat×Int):gy×Int×Int:=
 if ¬ v.2.2=0 then qR v.2.2 else if 120<v.1 then qR 1 else if l.length<3+v.2.1+v.1 then qR 4
 else GC K (l.getD 1 default).toNat (l.getD 2 default).toNat ((l.take (3+v.2.1+v.1)).drop (3+v.2.1)) S (3+v.2.1+v.1) l
def Nl (K:Int) (S:Nat) (l:List UInt8):gy×Int×Int:=
 if K=2 then(if l.length<2 then qR 4 else GC 2 (l.getD 1 default).toNat 0 [] S 2 l)
 else if l.length<3 then qR 4 else Nk K S l (yL (l.drop 3))
def WQ (l:List UInt8):gy×Int×Int:=
 if l.length=0 then qR 4 else match Nj (l.getD 0 default).toNat with
  | none=>qR 2
  | some (K,S)=>Nl K S l
theorem Nn (r:List UInt8) (h:r.length<=8):Fn Tryz.prog 171 [.lit (.string (bZ r))] (.lit (.int .u64 ((ia 0 r:Nat):Int))):=by
 have:=Ni r (by omega)
 rw[GD _ _ rfl h] at this
 exact this
def yM (x:Int) (s:Nat):Int:=ee .xor .u64 x (x.fdiv (2 ^ s))
def vr (x:Int):Int:=IntKind.u64.wrap (x+11400714819323198485)
def yN (x:Int):Int:=IntKind.u64.wrap (yM x 30 * 13787848793156543929)
def B1 (x:Int):Int:=IntKind.u64.wrap (yM x 27 * 10723151780598845931)
def gz (x:Int):Int:=yM (B1 (yN (vr x))) 31
theorem No (x:Int):0<=IntKind.u64.wrap x/\IntKind.u64.wrap x<18446744073709551616:=by rw[IntKind.wrap_u64];omega
theorem GF (op:BinOp) (x y:Int):0<=ee op .u64 x y/\ee op .u64 x y<18446744073709551616:=by unfold ee;exact No _
theorem B2 (x:Int):0<=gz x/\gz x<18446744073709551616:=by unfold gz;generalize B1 (yN (vr x))=y;unfold yM;generalize y.fdiv (2 ^ 31)=z;exact GF _ _ _
def Np (s n:Int):Int:=gz (ee .xor .u64 (gz s) (IntKind.u64.wrap n))
theorem B3 (a b:Int):ee .xor .u64 a b=ee .xor .u64 b a:=by
 unfold ee
 dsimp only
 rw[BitVec.xor_comm]
def Nq (x:Int):Nat->Int
 | 0=>x
 | 1=>vr x
 | 2=>yN (vr x)
 | _=>B1 (yN (vr x))
def yO (key n:Int):Int:=gz (ee .xor .u64 key (gz (IntKind.u64.wrap n)))
def qS (st:Int) (q:Nat):Nat:=(gz (IntKind.u64.wrap (st+(q:Int)))).toNat
def oi (st:Int) (i:Nat):UInt8:=UInt8.ofNat (qS st (i / 8) / 256 ^ (i % 8))
def k8 (st:Int):Nat->List UInt8->List UInt8
 | _,[]=>[]
 | i,c :: r=>(c ^^^ oi st i) :: k8 st (i+1) r
theorem oj (st:Int):∀ (l:List UInt8) (i:Nat),(k8 st i l).length=l.length
 | [],_=>rfl
 | c :: r,i=>by simp[k8,oj st r (i+1)]
theorem B4 (st:Int):∀ (l:List UInt8) (i k:Nat),k<l.length->(k8 st i l).getD k default=l.getD k default ^^^ oi st (i+k)
 | [],_,_,h=>by simp at h
 | c :: r,i,0,_=>rfl
 | c :: r,i,k+1,h=>by
  have:=B4 st r (i+1) k (by simpa using h)
  simp only[k8,List.getD_cons_succ,this]
  rw[show i+1+k=i+(k+1) by omega]
def oY (key n:Int) (l:List UInt8):List UInt8:=k8 (yO key n) 0 l
theorem vt (key n:Int) (l:List UInt8):(oY key n l).length=l.length:=oj _ _ _
theorem GG (a b:UInt8):ee .xor .u8 (a.toNat:Int) (b.toNat:Int)=((a ^^^ b).toNat:Int):=by
 have I:=a.toNat_lt
 have J:=b.toNat_lt
 unfold ee
 show IntKind.u8.wrap ((((BitVec.ofInt 8 (a.toNat:Int) ^^^ BitVec.ofInt 8 (b.toNat:Int)):BitVec 8).toNat:Nat):Int)=_
 rw[BitVec.toNat_xor,BitVec.ofInt_natCast,BitVec.ofInt_natCast,BitVec.toNat_ofNat,BitVec.toNat_ofNat,Nat.mod_eq_of_lt (by omega),Nat.mod_eq_of_lt (by omega),<- UInt8.toNat_xor,IntKind.wrap_u8]
 have:=(a ^^^ b).toNat_lt
 omega
theorem Nr (st:Int) (k:Nat):IntKind.u8.wrap ((gz (IntKind.u64.wrap (st+(k:Int) / 8))).fdiv (2 ^ min (8 * ((k:Int) % 8)).toNat IntKind.u64.bits))=((oi st k).toNat:Int):=by
 have I:min (8 * ((k:Int) % 8)).toNat IntKind.u64.bits=8 * (k % 8):=by show min (8 * ((k:Int) % 8)).toNat 64=_;omega
 have J:(k:Int) / 8=((k / 8:Nat):Int):=by omega
 have av:=B2 (IntKind.u64.wrap (st+((k / 8:Nat):Int)))
 unfold oi qS
 rw[I,J]
 generalize gz (IntKind.u64.wrap (st+((k / 8:Nat):Int)))=x at *
 obtain ⟨m,rfl⟩:=Int.eq_ofNat_of_zero_le av.1
 rw[tT,Int.toNat_natCast,Nat.pow_mul,B5]
theorem GH (st:Int) (k:Nat) (c:UInt8):ee .xor .u8 (c.toNat:Int) (IntKind.u8.wrap ((gz (IntKind.u64.wrap (st+(k:Int) / 8))).fdiv (2 ^ min (8 * ((k:Int) % 8)).toNat IntKind.u64.bits)))=((c ^^^ oi st k).toNat:Int):=by
 rw[Nr,GG]
def lY (st:Int) (l:List UInt8) (k:Nat):List UInt8:=(k8 st 0 l).take k++l.drop k
theorem GI {st:Int} {l:List UInt8} {k:Nat} (h:k<=l.length):(lY st l k).length=l.length:=by
 unfold lY;rw[List.length_append,List.length_take,List.length_drop,oj];omega
theorem Ns (st:Int) (l:List UInt8):lY st l 0=l:=by unfold lY;simp
theorem Nt (st:Int) (l:List UInt8):lY st l l.length=k8 st 0 l:=by
 unfold lY;rw[List.take_of_length_le (by rw[oj];exact Nat.le_refl _),List.drop_of_length_le (Nat.le_refl _),List.append_nil]
theorem Nu {st:Int} {l:List UInt8} {k:Nat} (h:k<l.length):(lY st l k).getD k default=l.getD k default:=by
 unfold lY
 rw[List.getD_eq_getElem?_getD,List.getElem?_append_right (by rw[List.length_take,oj];omega),List.length_take,oj,Nat.min_eq_left (by omega),Nat.sub_self,List.getElem?_drop,Nat.add_zero,<- List.getD_eq_getElem?_getD]
theorem GJ {st:Int} {l:List UInt8} {k:Nat} {v:Int} (h:k<l.length) (hv:v=((l.getD k default ^^^ oi st k).toNat:Int)) :
  ((lY st l k).map aC).set k (setAt 0 [.lit (.int .u8 v)] (bH ((lY st l k).map aC) k))=(lY st l (k+1)).map aC:=by
 subst hv
 have aq:=GI (st:=st) (Nat.le_of_lt h)
 rw[vu (by rw[je aC (by omega)];rfl)]
 have aj:=B4 st l 0 k h
 rw[Nat.zero_add] at aj
 unfold lY
 rw[List.map_append,List.set_append_right (h:=by rw[List.length_map,List.length_take,oj];omega),List.length_map,List.length_take,oj,Nat.min_eq_left (by omega),Nat.sub_self,drop_cons h,hy (by rw[oj];exact h),aj]
 simp only[List.map_append,List.map_cons,List.map_nil,List.set_cons_zero,List.append_assoc,List.cons_append,List.nil_append]
 rfl
def nL (h:Int) (b:List UInt8):Int:=b.foldl (fun h c=>gz (ee .xor .u64 h (c.toNat:Int))) h
def ol (h:Int) (b:List UInt8):Int:=gz (ee .xor .u64 (nL h b) ((b.length * 256:Nat):Int))
def tU (key n:Int) (bK:List (List UInt8)):Int:=bK.foldl ol (ee .xor .u64 (gz key) (IntKind.u64.wrap n))
theorem GK (h:Int) (l:List UInt8) (c:UInt8):nL h (l++[c])=gz (ee .xor .u64 (nL h l) (c.toNat:Int)):=by unfold nL;rw[List.foldl_append];rfl
theorem GL (key n:Int) (bK:List (List UInt8)):0<=tU key n bK/\tU key n bK<18446744073709551616:=by
 rcases List.eq_nil_or_concat bK with rfl | ⟨WR,p,rfl⟩
 ·show 0<=ee .xor .u64 (gz key) (IntKind.u64.wrap n)/\_
  exact GF _ _ _
 ·unfold tU
  rw[List.concat_eq_append,List.foldl_append]
  exact B2 _
def om (key n:Int) (bK:List (List UInt8)):List UInt8:=c5 (tU key n bK).toNat 8
theorem vv (key n:Int) (bK:List (List UInt8)):(om key n bK).length=8:=iL _ _
def nM (key n:Int) (h t:List UInt8):List UInt8:=oY key n t++om key n [h,t]
theorem oo (x:Int):Fn Tryz.prog 169 [.lit (.int .u64 x)] (.lit (.int .u64 (gz x))):=by
 refine aU ae Tryz.func169 rfl ae ?_
 (repeat' first|(refine ab ?_;((repeat' first|exact True.intro|refine R.mk ?_ ?_);all_goals intros))|fail "")
 all_goals exact bt (hr:=rfl)
theorem oq (x:Int):Fn Tryz.prog 177 [.lit (.int .u64 x)] (.lit (.int .u64 (gz x))):=by
 refine aU ae Tryz.func177 rfl ae ?_
 (repeat' first|(refine ab ?_;((repeat' first|exact True.intro|refine R.mk ?_ ?_);all_goals intros))|fail "")
 refine b2 (fun k:Nat=>⟨[(0,.lit (.int .u64 (Nq x k))),(5,.ro [[.lit (.int .u64 1)],[.lit (.int .u64 13787848793156543929)],[.lit (.int .u64 10723151780598845931)]]),(6,.lit (.int .i64 3)),(7,.lit (.int .i64 k))],[],0,Tryz.f177.ntmps⟩)
  (fun k=>k<=3) (fun k=>3 - k) 0 (by omega) du ?_
 intro k ag
 rcases (show k=0\/k=1\/k=2\/k=3 by omega) with rfl|rfl|rfl|rfl
 ·(repeat' first|(refine ab ?_;((repeat' first|exact True.intro|refine R.mk ?_ ?_);all_goals intros))|fail "")
  all_goals (refine ⟨1,?_,?_,?_⟩;rotate_left 2;(exact ax);(exact bN);(exact bN))
 ·(repeat' first|(refine ab ?_;((repeat' first|exact True.intro|refine R.mk ?_ ?_);all_goals intros))|fail "")
  all_goals (refine ⟨2,?_,?_,?_⟩;rotate_left 2;(exact ax);(exact bN);(exact bN))
 ·(repeat' first|(refine ab ?_;((repeat' first|exact True.intro|refine R.mk ?_ ?_);all_goals intros))|fail "")
  all_goals (refine ⟨3,?_,?_,?_⟩;rotate_left 2;(exact ax);(exact bN);(exact bN))
 ·(repeat' first|(refine ab ?_;((repeat' first|exact True.intro|refine R.mk ?_ ?_);all_goals intros))|fail "")
  all_goals exact bt (hr:=rfl)
theorem Nv (key n:Int) (l:List UInt8) (aq:l.length<=140737488355328):cU Tryz.prog 264 [.lit (.int .u64 key),.lit (.int .i64 n),.ro (l.map aC)] [] 0 (.own 0) [(0,some (.row 5 1 ((oY key n l).map aC)))] 1:=by
 unfold oY yO
 refine gG ae Tryz.func264 rfl ae (by rfl) ?_
 (repeat' first|(refine ar (oo _) (h:=?_))|(refine au (oo _) (h:=?_))|(refine cx (r:=l.map aC) ?_ ?_ ?_ ?_ (h:=?_);(exact aM);(exact al);(exact an);(exact ao))|(refine cD (r:=l.map aC) ?_ ?_ ?_ ?_ (h:=?_);(exact aM);(exact al);(exact an);(exact ao))|(refine cE (r:=l.map aC) ?_ ?_ ?_ ?_ (h:=?_);(exact aM);(exact al);(exact an);(exact ao))|(refine cF (r:=l.map aC) ?_ ?_ ?_ ?_ (h:=?_);(exact aM);(exact al);(exact an);(exact ao))|(refine ab ?_;((repeat' first|exact True.intro|refine R.mk ?_ ?_);all_goals intros))|fail "")
 generalize gz (ee .xor .u64 key (gz (IntKind.u64.wrap n)))=st
 refine b2 (fun k:Nat=>⟨[(7,.lit (.int .u64 st)),(8,.own 0),(20,.lit (.int .i64 l.length)),(21,.lit (.int .i64 k))],[(0,some (.row 5 1 ((lY st l k).map aC)))],1,Tryz.f264.ntmps⟩)
  (fun k=>k<=l.length) (fun k=>l.length - k) 0 (by omega) (by rw[Ns];(exact ax)) ?_
 intro k ag
 have qT:=GI (st:=st) ag
 by_cases aJ:k<l.length
 ·have aj:=Nu (st:=st) aJ
  (repeat' first|(refine ar (oo _) (h:=?_))|(refine au (oo _) (h:=?_))|(refine mG (r:=(lY st l (k+1)).map aC) ?_ ?_ (h:=?_);(exact hQ);(focus ((exact GJ aJ (by rw[GH,aj])))))|(refine mH (r:=(lY st l (k+1)).map aC) ?_ ?_ (h:=?_);(exact hQ);(focus ((exact GJ aJ (by rw[GH,aj])))))|(refine ab ?_;((repeat' first|exact True.intro|refine R.mk ?_ ?_);all_goals intros))|fail "")
  all_goals (refine ⟨k+1,?_,?_,?_⟩;rotate_left 2;(exact ax);(exact bN);(exact bN))
 ·have:k=l.length:=by omega
  subst this
  rw[Nt]
  (repeat' first|(refine ab ?_;((repeat' first|exact True.intro|refine R.mk ?_ ?_);all_goals intros))|fail "")
  all_goals (exact fg)
def B6 (p:List UInt8):List V:=[.ro (p.map aC)]
theorem Nw (key n:Int) (bK:List (List UInt8)) (aw:bK.length<=1000) (aq:∀ p,p ∈ bK->p.length<=140737488355328):Fn Tryz.prog 265 [.lit (.int .u64 key),.lit (.int .i64 n),.ro (bK.map B6)] (.ro ((om key n bK).map aC)):=by
 have hr:=GL key n bK
 unfold om
 unfold tU at *
 refine aU ae Tryz.func265 rfl ae ?_
 (repeat' first|(refine ar (oo _) (h:=?_))|(refine au (oo _) (h:=?_))|(refine ab ?_;((repeat' first|exact True.intro|refine R.mk ?_ ?_);all_goals intros))|fail "")
 generalize ee .xor .u64 (gz key) (IntKind.u64.wrap n)=af at *
 refine b2 (fun k:Nat=>⟨[(7,.lit (.int .u64 ((bK.take k).foldl ol af))),(19,.ro (bK.map B6)),(20,.lit (.int .i64 bK.length)),(21,.lit (.int .i64 k))],[],0,Tryz.f265.ntmps⟩)
  (fun k=>k<=bK.length) (fun k=>bK.length - k) 0 (by omega) du ?_
 intro k ag
 by_cases aJ:k<bK.length
 ·have hb:=aq _ (cY aJ)
  have e:(bK.take (k+1)).foldl ol af=gz (ee .xor .u64 (nL ((bK.take k).foldl ol af) (bK.getD k default)) (((bK.getD k default).length * 256:Nat):Int)):=by rw[hy aJ,List.foldl_append];rfl
  generalize ak:(bK.take k).foldl ol af=H at e ⊢
  generalize aB:bK.getD k default=b at hb e ⊢
  have vw:IntKind.u64.wrap ((b.length:Int) * 2 ^ min (8:Int).toNat IntKind.u64.bits)=((b.length * 256:Nat):Int):=by
   rw[show(2:Int) ^ min (8:Int).toNat IntKind.u64.bits=256 from rfl,IntKind.wrap_u64];omega
  (repeat' first|(refine ab ?_;((repeat' first|exact True.intro|refine R.mk ?_ ?_);all_goals intros))|fail "")
  rw[aB]
  refine b2 (fun j:Nat=>⟨[(7,.lit (.int .u64 (nL H (b.take j)))),(9,.ro (b.map aC)),(25,.ro (b.map aC)),(26,.lit (.int .i64 b.length)),(27,.lit (.int .i64 j)),(19,.ro (bK.map B6)),(20,.lit (.int .i64 bK.length)),(21,.lit (.int .i64 k))],[],0,Tryz.f265.ntmps⟩)
   (fun j=>j<=b.length) (fun j=>b.length - j) 0 (by omega) du ?_
  intro j ah
  by_cases B7:j<b.length
  ·have hc:=(b.getD j default).toNat_lt
   have aN:nL H (b.take (j+1))=gz (ee .xor .u64 (nL H (b.take j)) ((b.getD j default).toNat:Int)):=by rw[hy B7,GK]
   (repeat' first|(refine ar (oo _) (h:=?_))|(refine au (oo _) (h:=?_))|(refine ab ?_;((repeat' first|exact True.intro|refine R.mk ?_ ?_);all_goals intros))|fail "")
   all_goals (refine ⟨j+1,?_,?_,?_⟩;rotate_left 2;(exact ax);(exact bN);(exact bN))
  ·have:j=b.length:=by omega
   subst this
   rw[List.take_length]
   (repeat' first|(refine ar (oo _) (h:=?_))|(refine au (oo _) (h:=?_))|(refine ab ?_;((repeat' first|exact True.intro|refine R.mk ?_ ?_);all_goals intros))|fail "")
   all_goals (rw[vw,<- e];(refine ⟨k+1,?_,?_,?_⟩;rotate_left 2;(exact ax);(exact bN);(exact bN)))
 ·have:k=bK.length:=by omega
  subst this
  rw[List.take_length]
  generalize bK.foldl ol af=x at *
  obtain ⟨m,rfl⟩:=Int.eq_ofNat_of_zero_le hr.1
  rw[Int.toNat_natCast]
  have vx:=iL m 8
  (repeat' first|(refine GM (8) ?_ ?_ ?_ ?_ (h:=?_);(focus (first|rfl|omega));(focus (first|rfl|omega));(exact GN);(focus omega))|(refine ab ?_;((repeat' first|exact True.intro|refine R.mk ?_ ?_);all_goals intros))|fail "")
  rw[<- Nx (c5 m 8) 8]
  refine b2 (fun k:Nat=>⟨[(7,.lit (.int .u64 m)),(12,.own 0),(47,.lit (.int .i64 8)),(48,.lit (.int .i64 k))],[(0,some (.row 5 1 (lv (c5 m 8) 8 k)))],1,Tryz.f265.ntmps⟩)
   (fun k=>k<=8) (fun k=>8 - k) 0 (by omega) du ?_
  intro k ag
  have hf:=Ny vx ag
  by_cases aJ:k<8
  ·have ap:(lv (c5 m 8) 8 k).set k [.lit (.int .u8 (IntKind.u8.wrap ((m:Int).fdiv (2 ^ min (56 - 8 * (k:Int)).toNat IntKind.u64.bits))))]=lv (c5 m 8) 8 (k+1):=by
    refine Nz vx aJ ?_
    rw[yP m 8 k aJ,tV,show min (56 - 8 * (k:Int)).toNat IntKind.u64.bits=8 * (7 - k) by(show min (56 - 8 * (k:Int)).toNat 64=_;omega),tT,Nat.pow_mul]
   (repeat' first|(refine mG (r:=lv (c5 m 8) 8 (k+1)) ?_ ?_ (h:=?_);(exact hQ);(focus ((rw[vu (GO vx aJ)];exact ap))))|(refine mH (r:=lv (c5 m 8) 8 (k+1)) ?_ ?_ (h:=?_);(exact hQ);(focus ((rw[vu (GO vx aJ)];exact ap))))|(refine ab ?_;((repeat' first|exact True.intro|refine R.mk ?_ ?_);all_goals intros))|fail "")
   all_goals (refine ⟨k+1,?_,?_,?_⟩;rotate_left 2;(exact ax);(exact bN);(exact bN))
  ·have:k=8:=by omega
   subst this
   rw[NA vx]
   (repeat' first|(refine ab ?_;((repeat' first|exact True.intro|refine R.mk ?_ ?_);all_goals intros))|fail "")
   all_goals exact bt (hr:=rfl)
end
end Go.Proofs.YtendheafcbickaaGreat
