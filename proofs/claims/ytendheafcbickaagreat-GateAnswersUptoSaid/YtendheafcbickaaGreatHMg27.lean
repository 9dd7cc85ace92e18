/-
  SEVERAL TEXTS IN ONE: each with its own comment.
-/
import Derived.Test.YtendheafcbickaaGreatHZip
import Derived.Test.YtendheafcbickaaGreatHGo
import Derived.Test.YtendheafcbickaaGreatHMg09
import Derived.Test.YtendheafcbickaaGreatProg
import Derived.Test.YtendheafcbickaaGreatHMg22
import Derived.Test.YtendheafcbickaaGreatHMg06

set_option linter.unusedVariables false
set_option linter.unusedSimpArgs false
set_option linter.unusedVariables false
namespace Go.Proofs.YtendheafcbickaaGreat
set_option maxRecDepth 100000
attribute [local irreducible] Run RunL QStep GStep Fn Less PL FnM
theorem number_fn (l:List UInt8) (hl:l.length≤1000000000000000):Fn Tryz.prog 171 [.lit (.string (strB l))] (.lit (.int .u64 (numV l))):=by
  refine fn_of_run (by kernel_rfl) Tryz.func171 rfl (by kernel_rfl) ?_
  (repeat' first|(refine go_ ?_;((repeat' first|exact True.intro|refine Two.mk ?_ ?_);all_goals intros))|fail "")
  refine r_for (fun k:Nat=>⟨[(0,.lit (.string (strB l))),(3,.lit (.int .u64 (numV (l.take k)))),(4,.lit (.int .i64 k))],[],0,Tryz.f171.ntmps⟩)
    (fun k=>k≤l.length) (fun k=>l.length - k) 0 (by omega) less_to ?_
  intro k hk
  by_cases hkn:k<l.length
  · have e:numV (l.take (k+1))=IntKind.u64.wrap (IntKind.u64.wrap (numV (l.take k) * 256)+(l.getD k default).toNat):=by rw [take_snoc hkn,numV_snoc]
    have hc:=(l.getD k default).toNat_lt
    (repeat' first|(refine go_ ?_;((repeat' first|exact True.intro|refine Two.mk ?_ ?_);all_goals intros))|fail "")
    all_goals (refine ⟨k+1,?_,?_,?_⟩;rotate_left 2;(exact lessA_);(exact Z69_);(exact Z69_))
  · (repeat' first|(refine go_ ?_;((repeat' first|exact True.intro|refine Two.mk ?_ ?_);all_goals intros))|fail "")
    all_goals (refine ends_ (hr:=?_);rw [List.take_of_length_le (by omega)])
end Go.Proofs.YtendheafcbickaaGreat


set_option linter.unusedVariables false
set_option linter.unusedSimpArgs false
set_option linter.unusedVariables false
namespace Go.Proofs.YtendheafcbickaaGreat
set_option maxRecDepth 100000
attribute [local irreducible] Run RunL QStep GStep Fn Less PL FnM
def varW (l:List UInt8):Nat:=2 ^ ((l.getD 0 default).toNat / 64)
def varD (l:List UInt8):Nat×Nat×Int:=
  if l.length=0 then (0,0,4) else if l.length<varW l then (0,0,4) else (numG ((l.getD 0 default).toNat % 64) ((l.take (varW l)).drop 1),varW l,0)
end Go.Proofs.YtendheafcbickaaGreat


set_option linter.unusedVariables false
set_option linter.unusedSimpArgs false
set_option linter.unusedVariables false
namespace Go.Proofs.YtendheafcbickaaGreat
set_option maxRecDepth 100000
attribute [local irreducible] Run RunL QStep GStep Fn Less PL FnM
def hdErr (e:Int):DHead×Int×Int:=(⟨0,0,0,[],0,0⟩,0,e)
def encHd (r:DHead×Int×Int):V:=.tup [.agg (encHead r.1),.lit (.int .i64 r.2.1),.lit (.int .i64 r.2.2)]
def hdK (c:Nat):Option (Int×Nat):=if 64≤c∧c<68 then some (2,c - 63) else if 192≤c∧c<196 then some (0,c - 191) else if c=240 then some (1,0) else none
def hdFin (K:Int) (T F:Nat) (tok:List UInt8) (S u:Nat) (l:List UInt8):DHead×Int×Int:=
  if l.length<u+S then hdErr 4 else (⟨K,T,F,tok,((numG 0 ((l.take (u+S)).drop u):Nat):Int),S⟩,((u+S:Nat):Int),0)
def hdLong (K:Int) (S:Nat) (l:List UInt8) (v:Nat×Nat×Int):DHead×Int×Int:=
  if ¬ v.2.2=0 then hdErr v.2.2 else if 120<v.1 then hdErr 1 else if l.length<3+v.2.1+v.1 then hdErr 4
  else hdFin K (l.getD 1 default).toNat (l.getD 2 default).toNat ((l.take (3+v.2.1+v.1)).drop (3+v.2.1)) S (3+v.2.1+v.1) l
def hdR (K:Int) (S:Nat) (l:List UInt8):DHead×Int×Int:=
  if K=2 then (if l.length<2 then hdErr 4 else hdFin 2 (l.getD 1 default).toNat 0 [] S 2 l)
  else if l.length<3 then hdErr 4 else hdLong K S l (varD (l.drop 3))
def hdD (l:List UInt8):DHead×Int×Int:=
  if l.length=0 then hdErr 4 else match hdK (l.getD 0 default).toNat with
    | none=>hdErr 2
    | some (K,S)=>hdR K S l
end Go.Proofs.YtendheafcbickaaGreat


set_option linter.unusedVariables false
set_option linter.unusedSimpArgs false
set_option linter.unusedVariables false
namespace Go.Proofs.YtendheafcbickaaGreat
set_option maxRecDepth 100000
attribute [local irreducible] Run RunL QStep GStep Fn Less PL FnM
theorem num_fn (r:List UInt8) (h:r.length≤8):Fn Tryz.prog 171 [.lit (.string (strB r))] (.lit (.int .u64 ((numG 0 r:Nat):Int))):=by
  have:=number_fn r (by omega)
  rw [numV_num _ _ rfl h] at this
  exact this
end Go.Proofs.YtendheafcbickaaGreat


set_option linter.unusedVariables false
set_option linter.unusedSimpArgs false
set_option linter.unusedVariables false
namespace Go.Proofs.YtendheafcbickaaGreat
set_option maxRecDepth 100000
attribute [local irreducible] Run RunL QStep GStep Fn Less PL FnM
def mxS (x:Int) (s:Nat):Int:=bitsI .xor .u64 x (x.fdiv (2 ^ s))
def mx1 (x:Int):Int:=IntKind.u64.wrap (x+11400714819323198485)
def mx2 (x:Int):Int:=IntKind.u64.wrap (mxS x 30 * 13787848793156543929)
def mx3 (x:Int):Int:=IntKind.u64.wrap (mxS x 27 * 10723151780598845931)
def mixV (x:Int):Int:=mxS (mx3 (mx2 (mx1 x))) 31
theorem u64_range (x:Int):0≤IntKind.u64.wrap x∧IntKind.u64.wrap x<18446744073709551616:=by rw [IntKind.wrap_u64];omega
theorem bitsI_range (op:BinOp) (x y:Int):0≤bitsI op .u64 x y∧bitsI op .u64 x y<18446744073709551616:=by unfold bitsI;exact u64_range _
theorem mixV_range (x:Int):0≤mixV x∧mixV x<18446744073709551616:=by unfold mixV;generalize mx3 (mx2 (mx1 x))=y;unfold mxS;generalize y.fdiv (2 ^ 31)=z;exact bitsI_range _ _ _
def keyV (s n:Int):Int:=mixV (bitsI .xor .u64 (mixV s) (IntKind.u64.wrap n))
theorem bitsI_xor_comm (a b:Int):bitsI .xor .u64 a b=bitsI .xor .u64 b a:=by
  unfold bitsI
  dsimp only
  rw [BitVec.xor_comm]
def mxK (x:Int):Nat→Int
  | 0=>x
  | 1=>mx1 x
  | 2=>mx2 (mx1 x)
  | _=>mx3 (mx2 (mx1 x))
end Go.Proofs.YtendheafcbickaaGreat


set_option linter.unusedVariables false
set_option linter.unusedSimpArgs false
set_option linter.unusedVariables false
namespace Go.Proofs.YtendheafcbickaaGreat
set_option maxRecDepth 100000
attribute [local irreducible] Run RunL QStep GStep Fn Less PL FnM
def startV (key n:Int):Int:=mixV (bitsI .xor .u64 key (mixV (IntKind.u64.wrap n)))
def wordV (st:Int) (q:Nat):Nat:=(mixV (IntKind.u64.wrap (st+(q:Int)))).toNat
def ks (st:Int) (i:Nat):UInt8:=UInt8.ofNat (wordV st (i / 8) / 256 ^ (i % 8))
def turnG (st:Int):Nat→List UInt8→List UInt8
  | _,[]=>[]
  | i,c :: r=>(c ^^^ ks st i) :: turnG st (i+1) r
theorem turnG_length (st:Int):∀ (l:List UInt8) (i:Nat),(turnG st i l).length=l.length
  | [],_=>rfl
  | c :: r,i=>by simp [turnG,turnG_length st r (i+1)]
theorem turnG_get (st:Int):∀ (l:List UInt8) (i k:Nat),k<l.length→(turnG st i l).getD k default=l.getD k default ^^^ ks st (i+k)
  | [],_,_,h=>by simp at h
  | c :: r,i,0,_=>rfl
  | c :: r,i,k+1,h=>by
    have:=turnG_get st r (i+1) k (by simpa using h)
    simp only [turnG,List.getD_cons_succ,this]
    rw [show i+1+k=i+(k+1) by omega]
def turnB (key n:Int) (l:List UInt8):List UInt8:=turnG (startV key n) 0 l
theorem turnB_length (key n:Int) (l:List UInt8):(turnB key n l).length=l.length:=turnG_length _ _ _
theorem xor8 (a b:UInt8):bitsI .xor .u8 (a.toNat:Int) (b.toNat:Int)=((a ^^^ b).toNat:Int):=by
  have h1:=a.toNat_lt
  have h2:=b.toNat_lt
  unfold bitsI
  show IntKind.u8.wrap ((((BitVec.ofInt 8 (a.toNat:Int) ^^^ BitVec.ofInt 8 (b.toNat:Int)):BitVec 8).toNat:Nat):Int)=_
  rw [BitVec.toNat_xor,BitVec.ofInt_natCast,BitVec.ofInt_natCast,BitVec.toNat_ofNat,BitVec.toNat_ofNat,Nat.mod_eq_of_lt (by omega),Nat.mod_eq_of_lt (by omega),← UInt8.toNat_xor,IntKind.wrap_u8]
  have:=(a ^^^ b).toNat_lt
  omega
theorem ks_val (st:Int) (k:Nat):IntKind.u8.wrap ((mixV (IntKind.u64.wrap (st+(k:Int) / 8))).fdiv (2 ^ min (8 * ((k:Int) % 8)).toNat IntKind.u64.bits))=((ks st k).toNat:Int):=by
  have h1:min (8 * ((k:Int) % 8)).toNat IntKind.u64.bits=8 * (k % 8):=by show min (8 * ((k:Int) % 8)).toNat 64=_;omega
  have h2:(k:Int) / 8=((k / 8:Nat):Int):=by omega
  have h3:=mixV_range (IntKind.u64.wrap (st+((k / 8:Nat):Int)))
  unfold ks wordV
  rw [h1,h2]
  generalize mixV (IntKind.u64.wrap (st+((k / 8:Nat):Int)))=x at *
  obtain ⟨m,rfl⟩:=Int.eq_ofNat_of_zero_le h3.1
  rw [fdiv_two_pow,Int.toNat_natCast,Nat.pow_mul,u8_val]
theorem turn_val (st:Int) (k:Nat) (c:UInt8):bitsI .xor .u8 (c.toNat:Int) (IntKind.u8.wrap ((mixV (IntKind.u64.wrap (st+(k:Int) / 8))).fdiv (2 ^ min (8 * ((k:Int) % 8)).toNat IntKind.u64.bits)))=((c ^^^ ks st k).toNat:Int):=by
  rw [ks_val,xor8]
def mixL (st:Int) (l:List UInt8) (k:Nat):List UInt8:=(turnG st 0 l).take k++l.drop k
theorem mixL_length {st:Int} {l:List UInt8} {k:Nat} (h:k≤l.length):(mixL st l k).length=l.length:=by
  unfold mixL;rw [List.length_append,List.length_take,List.length_drop,turnG_length];omega
theorem mixL0 (st:Int) (l:List UInt8):mixL st l 0=l:=by unfold mixL;simp
theorem mixL_all (st:Int) (l:List UInt8):mixL st l l.length=turnG st 0 l:=by
  unfold mixL;rw [List.take_of_length_le (by rw [turnG_length];exact Nat.le_refl _),List.drop_of_length_le (Nat.le_refl _),List.append_nil]
theorem mixL_get {st:Int} {l:List UInt8} {k:Nat} (h:k<l.length):(mixL st l k).getD k default=l.getD k default:=by
  unfold mixL
  rw [List.getD_eq_getElem?_getD,List.getElem?_append_right (by rw [List.length_take,turnG_length];omega),List.length_take,turnG_length,Nat.min_eq_left (by omega),Nat.sub_self,List.getElem?_drop,Nat.add_zero,← List.getD_eq_getElem?_getD]
theorem mixL_set {st:Int} {l:List UInt8} {k:Nat} {v:Int} (h:k<l.length) (hv:v=((l.getD k default ^^^ ks st k).toNat:Int)) :
    ((mixL st l k).map encB).set k (setAt 0 [.lit (.int .u8 v)] (eAt ((mixL st l k).map encB) k))=(mixL st l (k+1)).map encB:=by
  subst hv
  have hl:=mixL_length (st:=st) (Nat.le_of_lt h)
  rw [setAt1 (by rw [eAt_map encB (by omega)];rfl)]
  have hg:=turnG_get st l 0 k h
  rw [Nat.zero_add] at hg
  unfold mixL
  rw [List.map_append,List.set_append_right (h:=by rw [List.length_map,List.length_take,turnG_length];omega),List.length_map,List.length_take,turnG_length,Nat.min_eq_left (by omega),Nat.sub_self,drop_cons h,take_snoc (by rw [turnG_length];exact h),hg]
  simp only [List.map_append,List.map_cons,List.map_nil,List.set_cons_zero,List.append_assoc,List.cons_append,List.nil_append]
  rfl
def hashB (h:Int) (b:List UInt8):Int:=b.foldl (fun h c=>mixV (bitsI .xor .u64 h (c.toNat:Int))) h
def tagH (h:Int) (b:List UInt8):Int:=mixV (bitsI .xor .u64 (hashB h b) ((b.length * 256:Nat):Int))
def tagV (key n:Int) (ps:List (List UInt8)):Int:=ps.foldl tagH (bitsI .xor .u64 (mixV key) (IntKind.u64.wrap n))
theorem hashB_snoc (h:Int) (l:List UInt8) (c:UInt8):hashB h (l++[c])=mixV (bitsI .xor .u64 (hashB h l) (c.toNat:Int)):=by unfold hashB;rw [List.foldl_append];rfl
theorem tagV_range (key n:Int) (ps:List (List UInt8)):0≤tagV key n ps∧tagV key n ps<18446744073709551616:=by
  rcases List.eq_nil_or_concat ps with rfl | ⟨qs,p,rfl⟩
  · show 0≤bitsI .xor .u64 (mixV key) (IntKind.u64.wrap n)∧_
    exact bitsI_range _ _ _
  · unfold tagV
    rw [List.concat_eq_append,List.foldl_append]
    exact mixV_range _
def tagB (key n:Int) (ps:List (List UInt8)):List UInt8:=bigB (tagV key n ps).toNat 8
theorem tagB_length (key n:Int) (ps:List (List UInt8)):(tagB key n ps).length=8:=bigB_length _ _
def sealB (key n:Int) (h t:List UInt8):List UInt8:=turnB key n t++tagB key n [h,t]
end Go.Proofs.YtendheafcbickaaGreat


set_option linter.unusedVariables false
set_option linter.unusedSimpArgs false
set_option linter.unusedVariables false
namespace Go.Proofs.YtendheafcbickaaGreat
set_option maxRecDepth 100000
attribute [local irreducible] Run RunL QStep GStep Fn Less PL FnM
theorem mix_fn (x:Int):Fn Tryz.prog 169 [.lit (.int .u64 x)] (.lit (.int .u64 (mixV x))):=by
  refine fn_of_run (by kernel_rfl) Tryz.func169 rfl (by kernel_rfl) ?_
  (repeat' first|(refine go_ ?_;((repeat' first|exact True.intro|refine Two.mk ?_ ?_);all_goals intros))|fail "")
  all_goals exact ends_ (hr:=rfl)
theorem mixed_fn (x:Int):Fn Tryz.prog 177 [.lit (.int .u64 x)] (.lit (.int .u64 (mixV x))):=by
  refine fn_of_run (by kernel_rfl) Tryz.func177 rfl (by kernel_rfl) ?_
  (repeat' first|(refine go_ ?_;((repeat' first|exact True.intro|refine Two.mk ?_ ?_);all_goals intros))|fail "")
  refine r_for (fun k:Nat=>⟨[(0,.lit (.int .u64 (mxK x k))),(5,.ro [[.lit (.int .u64 1)],[.lit (.int .u64 13787848793156543929)],[.lit (.int .u64 10723151780598845931)]]),(6,.lit (.int .i64 3)),(7,.lit (.int .i64 k))],[],0,Tryz.f177.ntmps⟩)
    (fun k=>k≤3) (fun k=>3 - k) 0 (by omega) less_to ?_
  intro k hk
  rcases (show k=0∨k=1∨k=2∨k=3 by omega) with rfl|rfl|rfl|rfl
  · (repeat' first|(refine go_ ?_;((repeat' first|exact True.intro|refine Two.mk ?_ ?_);all_goals intros))|fail "")
    all_goals (refine ⟨1,?_,?_,?_⟩;rotate_left 2;(exact lessA_);(exact Z69_);(exact Z69_))
  · (repeat' first|(refine go_ ?_;((repeat' first|exact True.intro|refine Two.mk ?_ ?_);all_goals intros))|fail "")
    all_goals (refine ⟨2,?_,?_,?_⟩;rotate_left 2;(exact lessA_);(exact Z69_);(exact Z69_))
  · (repeat' first|(refine go_ ?_;((repeat' first|exact True.intro|refine Two.mk ?_ ?_);all_goals intros))|fail "")
    all_goals (refine ⟨3,?_,?_,?_⟩;rotate_left 2;(exact lessA_);(exact Z69_);(exact Z69_))
  · (repeat' first|(refine go_ ?_;((repeat' first|exact True.intro|refine Two.mk ?_ ?_);all_goals intros))|fail "")
    all_goals exact ends_ (hr:=rfl)
end Go.Proofs.YtendheafcbickaaGreat


set_option linter.unusedVariables false
set_option linter.unusedSimpArgs false
set_option linter.unusedVariables false
namespace Go.Proofs.YtendheafcbickaaGreat
set_option maxRecDepth 100000
attribute [local irreducible] Run RunL QStep GStep Fn Less PL FnM
set_option maxHeartbeats 1000000 in
theorem turned_fnm (key n:Int) (l:List UInt8) (hl:l.length≤140737488355328):FnM Tryz.prog 264 [.lit (.int .u64 key),.lit (.int .i64 n),.ro (l.map encB)] [] 0 (.own 0) [(0,some (.row 5 1 ((turnB key n l).map encB)))] 1:=by
  unfold turnB startV
  refine fnm_of_run (by kernel_rfl) Tryz.func264 rfl (by kernel_rfl) (by rfl) ?_
  (repeat' first|(refine s_call (mix_fn _) (h:=?_))|(refine p_call (mix_fn _) (h:=?_))|(refine s_app (r:=l.map encB) ?_ ?_ ?_ ?_ (h:=?_);(exact Z65_);(exact Z47_);(exact Z12_);(exact Z22_))|(refine s_app0R (r:=l.map encB) ?_ ?_ ?_ ?_ (h:=?_);(exact Z65_);(exact Z47_);(exact Z12_);(exact Z22_))|(refine p_app (r:=l.map encB) ?_ ?_ ?_ ?_ (h:=?_);(exact Z65_);(exact Z47_);(exact Z12_);(exact Z22_))|(refine go_ ?_;((repeat' first|exact True.intro|refine Two.mk ?_ ?_);all_goals intros))|fail "")
  generalize mixV (bitsI .xor .u64 key (mixV (IntKind.u64.wrap n)))=st
  refine r_for (fun k:Nat=>⟨[(7,.lit (.int .u64 st)),(8,.own 0),(20,.lit (.int .i64 l.length)),(21,.lit (.int .i64 k))],[(0,some (.row 5 1 ((mixL st l k).map encB)))],1,Tryz.f264.ntmps⟩)
    (fun k=>k≤l.length) (fun k=>l.length - k) 0 (by omega) (by rw [mixL0];(exact lessA_)) ?_
  intro k hk
  have hml:=mixL_length (st:=st) hk
  by_cases hkn:k<l.length
  · have hg:=mixL_get (st:=st) hkn
    (repeat' first|(refine s_call (mix_fn _) (h:=?_))|(refine p_call (mix_fn _) (h:=?_))|(refine s_set (r:=(mixL st l (k+1)).map encB) ?_ ?_ (h:=?_);(exact Z13_);(focus ((exact mixL_set hkn (by rw [turn_val,hg])))))|(refine p_set (r:=(mixL st l (k+1)).map encB) ?_ ?_ (h:=?_);(exact Z13_);(focus ((exact mixL_set hkn (by rw [turn_val,hg])))))|(refine go_ ?_;((repeat' first|exact True.intro|refine Two.mk ?_ ?_);all_goals intros))|fail "")
    all_goals (refine ⟨k+1,?_,?_,?_⟩;rotate_left 2;(exact lessA_);(exact Z69_);(exact Z69_))
  · have:k=l.length:=by omega
    subst this
    rw [mixL_all]
    (repeat' first|(refine go_ ?_;((repeat' first|exact True.intro|refine Two.mk ?_ ?_);all_goals intros))|fail "")
    all_goals (exact endmA_)
def encP (p:List UInt8):List V:=[.ro (p.map encB)]
set_option maxHeartbeats 1000000 in
theorem tag_fn (key n:Int) (ps:List (List UInt8)) (hp:ps.length≤1000) (hl:∀ p,p ∈ ps→p.length≤140737488355328):Fn Tryz.prog 265 [.lit (.int .u64 key),.lit (.int .i64 n),.ro (ps.map encP)] (.ro ((tagB key n ps).map encB)):=by
  have hr:=tagV_range key n ps
  unfold tagB
  unfold tagV at *
  refine fn_of_run (by kernel_rfl) Tryz.func265 rfl (by kernel_rfl) ?_
  (repeat' first|(refine s_call (mix_fn _) (h:=?_))|(refine p_call (mix_fn _) (h:=?_))|(refine go_ ?_;((repeat' first|exact True.intro|refine Two.mk ?_ ?_);all_goals intros))|fail "")
  generalize bitsI .xor .u64 (mixV key) (IntKind.u64.wrap n)=h0 at *
  refine r_for (fun k:Nat=>⟨[(7,.lit (.int .u64 ((ps.take k).foldl tagH h0))),(19,.ro (ps.map encP)),(20,.lit (.int .i64 ps.length)),(21,.lit (.int .i64 k))],[],0,Tryz.f265.ntmps⟩)
    (fun k=>k≤ps.length) (fun k=>ps.length - k) 0 (by omega) less_to ?_
  intro k hk
  by_cases hkn:k<ps.length
  · have hb:=hl _ (getD_mem hkn)
    have e:(ps.take (k+1)).foldl tagH h0=mixV (bitsI .xor .u64 (hashB ((ps.take k).foldl tagH h0) (ps.getD k default)) (((ps.getD k default).length * 256:Nat):Int)):=by rw [take_snoc hkn,List.foldl_append];rfl
    generalize hH:(ps.take k).foldl tagH h0=H at e ⊢
    generalize hB:ps.getD k default=b at hb e ⊢
    have e8:IntKind.u64.wrap ((b.length:Int) * 2 ^ min (8:Int).toNat IntKind.u64.bits)=((b.length * 256:Nat):Int):=by
      rw [show (2:Int) ^ min (8:Int).toNat IntKind.u64.bits=256 from rfl,IntKind.wrap_u64];omega
    (repeat' first|(refine go_ ?_;((repeat' first|exact True.intro|refine Two.mk ?_ ?_);all_goals intros))|fail "")
    rw [hB]
    refine r_for (fun j:Nat=>⟨[(7,.lit (.int .u64 (hashB H (b.take j)))),(9,.ro (b.map encB)),(25,.ro (b.map encB)),(26,.lit (.int .i64 b.length)),(27,.lit (.int .i64 j)),(19,.ro (ps.map encP)),(20,.lit (.int .i64 ps.length)),(21,.lit (.int .i64 k))],[],0,Tryz.f265.ntmps⟩)
      (fun j=>j≤b.length) (fun j=>b.length - j) 0 (by omega) less_to ?_
    intro j hj
    by_cases hjb:j<b.length
    · have hc:=(b.getD j default).toNat_lt
      have e2:hashB H (b.take (j+1))=mixV (bitsI .xor .u64 (hashB H (b.take j)) ((b.getD j default).toNat:Int)):=by rw [take_snoc hjb,hashB_snoc]
      (repeat' first|(refine s_call (mix_fn _) (h:=?_))|(refine p_call (mix_fn _) (h:=?_))|(refine go_ ?_;((repeat' first|exact True.intro|refine Two.mk ?_ ?_);all_goals intros))|fail "")
      all_goals (refine ⟨j+1,?_,?_,?_⟩;rotate_left 2;(exact lessA_);(exact Z69_);(exact Z69_))
    · have:j=b.length:=by omega
      subst this
      rw [List.take_length]
      (repeat' first|(refine s_call (mix_fn _) (h:=?_))|(refine p_call (mix_fn _) (h:=?_))|(refine go_ ?_;((repeat' first|exact True.intro|refine Two.mk ?_ ?_);all_goals intros))|fail "")
      all_goals (rw [e8,← e];(refine ⟨k+1,?_,?_,?_⟩;rotate_left 2;(exact lessA_);(exact Z69_);(exact Z69_)))
  · have:k=ps.length:=by omega
    subst this
    rw [List.take_length]
    generalize ps.foldl tagH h0=x at *
    obtain ⟨m,rfl⟩:=Int.eq_ofNat_of_zero_le hr.1
    rw [Int.toNat_natCast]
    have hl8:=bigB_length m 8
    (repeat' first|(refine s_make (8) ?_ ?_ ?_ ?_ (h:=?_);(focus (first|rfl|omega));(focus (first|rfl|omega));(exact Z25_);(focus omega))|(refine go_ ?_;((repeat' first|exact True.intro|refine Two.mk ?_ ?_);all_goals intros))|fail "")
    rw [← fillB0 (bigB m 8) 8]
    refine r_for (fun k:Nat=>⟨[(7,.lit (.int .u64 m)),(12,.own 0),(47,.lit (.int .i64 8)),(48,.lit (.int .i64 k))],[(0,some (.row 5 1 (fillB (bigB m 8) 8 k)))],1,Tryz.f265.ntmps⟩)
      (fun k=>k≤8) (fun k=>8 - k) 0 (by omega) less_to ?_
    intro k hk
    have hf:=fillB_length hl8 hk
    by_cases hkn:k<8
    · have hs:(fillB (bigB m 8) 8 k).set k [.lit (.int .u8 (IntKind.u8.wrap ((m:Int).fdiv (2 ^ min (56 - 8 * (k:Int)).toNat IntKind.u64.bits))))]=fillB (bigB m 8) 8 (k+1):=by
        refine fillB_set hl8 hkn ?_
        rw [bigB_get m 8 k hkn,encB_ofNat,show min (56 - 8 * (k:Int)).toNat IntKind.u64.bits=8 * (7 - k) by (show min (56 - 8 * (k:Int)).toNat 64=_;omega),fdiv_two_pow,Nat.pow_mul]
      (repeat' first|(refine s_set (r:=fillB (bigB m 8) 8 (k+1)) ?_ ?_ (h:=?_);(exact Z13_);(focus ((rw [setAt1 (fillB_elem hl8 hkn)];exact hs))))|(refine p_set (r:=fillB (bigB m 8) 8 (k+1)) ?_ ?_ (h:=?_);(exact Z13_);(focus ((rw [setAt1 (fillB_elem hl8 hkn)];exact hs))))|(refine go_ ?_;((repeat' first|exact True.intro|refine Two.mk ?_ ?_);all_goals intros))|fail "")
      all_goals (refine ⟨k+1,?_,?_,?_⟩;rotate_left 2;(exact lessA_);(exact Z69_);(exact Z69_))
    · have:k=8:=by omega
      subst this
      rw [fillB_all hl8]
      (repeat' first|(refine go_ ?_;((repeat' first|exact True.intro|refine Two.mk ?_ ?_);all_goals intros))|fail "")
      all_goals exact ends_ (hr:=rfl)
end Go.Proofs.YtendheafcbickaaGreat
