
import Derived.Test.YtendheafcbickaaGreatHZip
import Derived.Test.YtendheafcbickaaGreatHGo
import Derived.Test.YtendheafcbickaaGreatHMg22
import Derived.Test.YtendheafcbickaaGreatHMg06
set_option linter.unusedVariables false
set_option linter.unusedSimpArgs false
set_option linter.unusedVariables false
namespace Go.Proofs.YtendheafcbickaaGreat
set_option maxRecDepth 100000
attribute [local irreducible] Run RunL QStep GStep Fn Less PL FnM
def varOk (n:Int):Prop:=0≤n∧n≤4611686018427387903
instance (n:Int):Decidable (varOk n):=inferInstanceAs (Decidable (_∧_))
def varK (n:Int):Nat:=if n<64 then 1 else if n<16384 then 2 else if n<1073741824 then 4 else 8
def varS (n:Int):Int:=if varOk n then varK n else 0
def varE (n:Int):Int:=if varOk n then 0 else 6
def varM (k:Nat):Nat:=if k=1 then 0 else if k=2 then 1 else if k=4 then 2 else 3
def varB (n:Nat):List UInt8:=bigB (n+varM (varK n) * (64 * 256 ^ (varK n - 1))) (varK n)
theorem varK_cases (n:Int):(varK n=1∧n<64)∨(varK n=2∧64≤n∧n<16384)∨(varK n=4∧16384≤n∧n<1073741824)∨(varK n=8∧1073741824≤n):=by
  unfold varK
  split
  · exact .inl ⟨rfl,by assumption⟩
  · split
    · exact .inr (.inl ⟨rfl,by omega,by assumption⟩)
    · split
      · exact .inr (.inr (.inl ⟨rfl,by omega,by assumption⟩))
      · exact .inr (.inr (.inr ⟨rfl,by omega⟩))
theorem varB_length (n:Nat):(varB n).length=varK n:=bigB_length _ _
theorem bigB_add (n c:Nat):∀ k,bigB (n+c * 256 ^ k) k=bigB n k
  | 0=>rfl
  | k+1=>by
    have hp:0<256 ^ k:=Nat.pow_pos (by omega)
    have e:n+c * 256 ^ (k+1)=n+(c * 256) * 256 ^ k:=by rw [Nat.pow_succ,Nat.mul_comm (256 ^ k),← Nat.mul_assoc]
    have e2:(n+(c * 256) * 256 ^ k) / 256 ^ k=n / 256 ^ k+c * 256:=Nat.add_mul_div_right _ _ hp
    unfold bigB
    rw [e,e2,bigB_add n (c * 256) k]
    congr 1
    apply UInt8.toNat_inj.1
    simp only [UInt8.toNat_ofNat']
    omega
theorem bigB_mark (n c k:Nat):bigB (n+c * (64 * 256 ^ k)) (k+1)=UInt8.ofNat (n / 256 ^ k+c * 64) :: bigB n k:=by
  have hp:0<256 ^ k:=Nat.pow_pos (by omega)
  rw [show n+c * (64 * 256 ^ k)=n+(c * 64) * 256 ^ k by rw [Nat.mul_assoc]]
  show UInt8.ofNat (_ / 256 ^ k) :: bigB _ k=_
  rw [Nat.add_mul_div_right _ _ hp,bigB_add]
theorem or8 (a m:Nat) (ha:a<64) (hm:m<4):bitsI .or .u8 (a:Int) ((m * 64:Nat):Int)=((a+m * 64:Nat):Int):=by
  unfold bitsI
  show IntKind.u8.wrap ((((BitVec.ofInt 8 (a:Int) ||| BitVec.ofInt 8 ((m * 64:Nat):Int)):BitVec 8).toNat:Nat):Int)=_
  have e2:((BitVec.ofInt 8 (a:Int) ||| BitVec.ofInt 8 ((m * 64:Nat):Int)):BitVec 8).toNat=a+m * 64:=by
    rw [BitVec.toNat_or,BitVec.ofInt_natCast,BitVec.ofInt_natCast,BitVec.toNat_ofNat,BitVec.toNat_ofNat,Nat.mod_eq_of_lt (by omega),Nat.mod_eq_of_lt (by omega),Nat.or_comm]
    have:=Nat.two_pow_add_eq_or_of_lt (i:=6) (b:=a) (by omega) m
    rw [show m * 64=2 ^ 6 * m by omega,← this]
    omega
  rw [e2,IntKind.wrap_u8]
  omega
theorem or64 (n m s:Nat) (hn:n<2 ^ s) (hs:s≤62) (hm:m<4):bitsI .or .u64 (n:Int) ((m * 2 ^ s:Nat):Int)=((n+m * 2 ^ s:Nat):Int):=by
  have h2:(2:Nat) ^ s≤2 ^ 62:=Nat.pow_le_pow_right (by omega) hs
  have h3:(2:Nat) ^ 62=4611686018427387904:=by decide
  have h4:m * 2 ^ s≤3 * 2 ^ 62:=Nat.mul_le_mul (by omega) h2
  unfold bitsI
  show IntKind.u64.wrap ((((BitVec.ofInt 64 (n:Int) ||| BitVec.ofInt 64 ((m * 2 ^ s:Nat):Int)):BitVec 64).toNat:Nat):Int)=_
  have e2:((BitVec.ofInt 64 (n:Int) ||| BitVec.ofInt 64 ((m * 2 ^ s:Nat):Int)):BitVec 64).toNat=n+m * 2 ^ s:=by
    rw [BitVec.toNat_or,BitVec.ofInt_natCast,BitVec.ofInt_natCast,BitVec.toNat_ofNat,BitVec.toNat_ofNat,Nat.mod_eq_of_lt (by omega),Nat.mod_eq_of_lt (by omega),Nat.or_comm]
    have:=Nat.two_pow_add_eq_or_of_lt (i:=s) (b:=n) hn m
    rw [Nat.mul_comm m,← this]
    omega
  rw [e2,IntKind.wrap_u64]
  omega
theorem varSize_fn (n:Int):Fn Tryz.prog 307 [.lit (.int .i64 n)] (.tup [.lit (.int .i64 (varS n)),.lit (.int .i64 (varE n))]):=by
  have hk:=varK_cases n
  by_cases ho:varOk n
  · have h1:varS n=varK n:=if_pos ho
    have h2:varE n=0:=if_pos ho
    rw [h1,h2]
    unfold varOk at ho
    rcases hk with ⟨h,hk⟩ | ⟨h,hk⟩ | ⟨h,hk⟩ | ⟨h,hk⟩ <;> rw [h]
    all_goals
      refine fn_of_run (by kernel_rfl) Tryz.func307 rfl (by kernel_rfl) ?_
      (repeat' first|(refine go_ ?_;((repeat' first|exact True.intro|refine Two.mk ?_ ?_);all_goals intros))|fail "")
      all_goals exact ends_ (hr:=rfl)
  · have h1:varS n=0:=if_neg ho
    have h2:varE n=6:=if_neg ho
    rw [h1,h2]
    unfold varOk at ho
    refine fn_of_run (by kernel_rfl) Tryz.func307 rfl (by kernel_rfl) ?_
    (repeat' first|(refine go_ ?_;((repeat' first|exact True.intro|refine Two.mk ?_ ?_);all_goals intros))|fail "")
    all_goals exact ends_ (hr:=rfl)
theorem varSizeRef_fn (n:Int):Fn Tryz.prog 305 [.lit (.int .i64 n)] (.tup [.lit (.int .i64 (varS n)),.lit (.int .i64 (varE n))]):=by
  have hk:=varK_cases n
  by_cases ho:varOk n
  · have h1:varS n=varK n:=if_pos ho
    have h2:varE n=0:=if_pos ho
    rw [h1,h2]
    unfold varOk at ho
    have e1:IntKind.i64.wrap (1 * 2 ^ min (8 * ((1:Nat):Int) - 2).toNat IntKind.i64.bits)=64:=by decide
    have e2:IntKind.i64.wrap (1 * 2 ^ min (8 * ((2:Nat):Int) - 2).toNat IntKind.i64.bits)=16384:=by decide
    have e4:IntKind.i64.wrap (1 * 2 ^ min (8 * ((4:Nat):Int) - 2).toNat IntKind.i64.bits)=1073741824:=by decide
    refine fn_of_run (by kernel_rfl) Tryz.func305 rfl (by kernel_rfl) ?_
    (repeat' first|(refine s_dec (upTo_fn _ _) (ht:=?_) (hff:=?_) <;> intro _ <;> try (exfalso;omega))|(refine p_dec (upTo_fn _ _) (ht:=?_) (hff:=?_) <;> intro _ <;> try (exfalso;omega))|(refine go_ ?_;((repeat' first|exact True.intro|refine Two.mk ?_ ?_);all_goals intros))|fail "")
    refine r_for (fun k:Nat=>⟨[(0,.lit (.int .i64 n)),(4,.lit (.int .i64 k))],[],0,Tryz.f305.ntmps⟩)
      (fun k=>(k=1∨k=2∨k=4∨k=8)∧(1<k→64≤n)∧(2<k→16384≤n)∧(4<k→1073741824≤n)) (fun k=>8 - k) 1 (by omega) less_to ?_
    rintro k ⟨h0,h1,h2,h3⟩
    rcases h0 with rfl|rfl|rfl|rfl
    · (repeat' first|(refine go_ ?_;((repeat' first|exact True.intro|refine Two.mk ?_ ?_);all_goals intros))|fail "")
      all_goals first
        | (refine ⟨2,?_,?_,?_⟩;rotate_left 2;(exact lessA_);(exact Z69_);(exact Z58_))
        | (refine ends_ (hr:=?_);rw [show varK n=1 by omega])
    · (repeat' first|(refine go_ ?_;((repeat' first|exact True.intro|refine Two.mk ?_ ?_);all_goals intros))|fail "")
      all_goals first
        | (refine ⟨4,?_,?_,?_⟩;rotate_left 2;(exact lessA_);(exact Z69_);(exact Z58_))
        | (refine ends_ (hr:=?_);rw [show varK n=2 by omega])
    · (repeat' first|(refine go_ ?_;((repeat' first|exact True.intro|refine Two.mk ?_ ?_);all_goals intros))|fail "")
      all_goals first
        | (refine ⟨8,?_,?_,?_⟩;rotate_left 2;(exact lessA_);(exact Z69_);(exact Z58_))
        | (refine ends_ (hr:=?_);rw [show varK n=4 by omega])
    · (repeat' first|(refine go_ ?_;((repeat' first|exact True.intro|refine Two.mk ?_ ?_);all_goals intros))|fail "")
      all_goals (refine ends_ (hr:=?_);rw [show varK n=8 by omega];rfl)
  · have h1:varS n=0:=if_neg ho
    have h2:varE n=6:=if_neg ho
    rw [h1,h2]
    unfold varOk at ho
    refine fn_of_run (by kernel_rfl) Tryz.func305 rfl (by kernel_rfl) ?_
    (repeat' first|(refine s_dec (upTo_fn _ _) (ht:=?_) (hff:=?_) <;> intro _ <;> try (exfalso;omega))|(refine p_dec (upTo_fn _ _) (ht:=?_) (hff:=?_) <;> intro _ <;> try (exfalso;omega))|(refine go_ ?_;((repeat' first|exact True.intro|refine Two.mk ?_ ?_);all_goals intros))|fail "")
    all_goals exact ends_ (hr:=rfl)
def backB (n k j:Nat):List (List V):=List.replicate (k - j) [.lit (.int .u8 0)]++(bigB n j).map encB
theorem backB_length {n k j:Nat} (h:j≤k):(backB n k j).length=k:=by
  unfold backB;rw [List.length_append,List.length_replicate,List.length_map,bigB_length];omega
theorem backB0 (n k:Nat):backB n k 0=List.replicate k [.lit (.int .u8 0)]:=by unfold backB;simp [bigB]
theorem backB_all (n k:Nat):backB n k k=(bigB n k).map encB:=by unfold backB;simp
theorem backB_set {n k j:Nat} {i:Nat} (hj:j<k) (hi:i=k - 1 - j):(backB n k j).set i (setAt 0 [.lit (.int .u8 (IntKind.u8.wrap ((n / 256 ^ j:Nat):Int)))] (eAt (backB n k j) i))=backB n k (j+1):=by
  subst hi
  have h1:k - j=(k - (j+1))+1:=by omega
  have h2:k - 1 - j=k - (j+1):=by omega
  have he:(eAt (backB n k j) (k - 1 - j)).length=1:=by
    unfold backB eAt
    rw [List.getD_eq_getElem?_getD,List.getElem?_append_left (by rw [List.length_replicate];omega),List.getElem?_replicate,if_pos (by omega)]
    rfl
  rw [setAt1 he,h2]
  unfold backB
  rw [h1,List.replicate_succ',List.append_assoc,List.set_append_right (h:=by rw [List.length_replicate];exact Nat.le_refl _),List.length_replicate,Nat.sub_self]
  show _++([.lit (.int .u8 (IntKind.u8.wrap ((n / 256 ^ j:Nat):Int)))] :: (bigB n j).map encB)=_++(UInt8.ofNat (n / 256 ^ j) :: bigB n j).map encB
  rw [List.map_cons,encB_ofNat]
theorem mark_set {n k m:Nat} {c:Int} (hk:1≤k) (h:n / 256 ^ (k - 1)<64) (hm:m<4) (hc:c=((m * 64:Nat):Int)) :
    ((bigB n k).map encB).set 0 (setAt 0 [.lit (.int .u8 (bitsI .or .u8 (((bigB n k).getD 0 default).toNat:Int) c))] (eAt ((bigB n k).map encB) 0))=(bigB (n+m * (64 * 256 ^ (k - 1))) k).map encB:=by
  subst hc
  obtain ⟨k,rfl⟩:∃ i,k=i+1:=⟨k - 1,by omega⟩
  rw [Nat.add_sub_cancel] at h ⊢
  rw [bigB_mark]
  have e0:(eAt ((bigB n (k+1)).map encB) 0).length=1:=by rw [eAt_map encB (by rw [bigB_length];omega)];rfl
  rw [setAt1 e0]
  show [.lit (.int .u8 (bitsI .or .u8 ((UInt8.ofNat (n / 256 ^ k)).toNat:Int) _))] :: (bigB n k).map encB=encB _ :: (bigB n k).map encB
  congr 1
  generalize n / 256 ^ k=a at *
  have e1:(UInt8.ofNat a).toNat=a:=by rw [UInt8.toNat_ofNat'];omega
  have e2:(UInt8.ofNat (a+m * 64)).toNat=a+m * 64:=by rw [UInt8.toNat_ofNat'];omega
  unfold encB
  rw [e1,e2,or8 _ _ h hm]
theorem shr8i (n k:Nat):((n / 256 ^ k:Nat):Int).fdiv (2 ^ min (8:Int).toNat IntKind.i64.bits)=((n / 256 ^ (k+1):Nat):Int):=shr8 n k
theorem varEncode_ok (n:Nat) (hn:n≤4611686018427387903):Fn Tryz.prog 279 [.lit (.int .i64 n)] (.tup [.ro ((varB n).map encB),.lit (.int .i64 0)]):=by
  have hs:=varSize_fn n
  rw [show varS n=varK n from if_pos ⟨by omega,by omega⟩,show varE n=0 from if_pos ⟨by omega,by omega⟩] at hs
  have hB:varB n=bigB (n+varM (varK n) * (64 * 256 ^ (varK n - 1))) (varK n):=rfl
  rw [hB]
  have hc:(varK n=1∧n<64)∨(varK n=2∧n<16384)∨(varK n=4∧n<1073741824)∨(varK n=8∧n<4611686018427387904):=by have:=varK_cases n;omega
  generalize varK n=k at *
  have h64:n / 256 ^ (k - 1)<64:=by
    rcases hc with ⟨rfl,hc⟩ | ⟨rfl,hc⟩ | ⟨rfl,hc⟩ | ⟨rfl,hc⟩
    · show n / 256 ^ 0<64;omega
    · show n / 256 ^ 1<64;omega
    · show n / 256 ^ 3<64;omega
    · show n / 256 ^ 7<64;omega
  have hk8:1≤k∧k≤8:=by omega
  refine fn_of_run (by kernel_rfl) Tryz.func279 rfl (by kernel_rfl) ?_
  (repeat' first|(refine s_call (hs) (h:=?_))|(refine p_call (hs) (h:=?_))|(refine s_make (k) ?_ ?_ ?_ ?_ (h:=?_);(focus (first|rfl|omega));(focus (first|rfl|omega));(exact Z25_);(focus omega))|(refine go_ ?_;((repeat' first|exact True.intro|refine Two.mk ?_ ?_);all_goals intros))|fail "")
  rw [← backB0 n k]
  refine r_for (fun j:Nat=>⟨[(0,.lit (.int .i64 ((n / 256 ^ j:Nat):Int))),(4,.lit (.int .i64 k)),(6,.own 0),(7,.lit (.int .i64 ((k:Int) - 1 - j)))],[(0,some (.row 5 1 (backB n k j)))],1,Tryz.f279.ntmps⟩)
    (fun j=>j≤k) (fun j=>k - j) 0 (by omega) (by (exact lessA_)) ?_
  intro j hj
  have hl:=backB_length (n:=n) hj
  have e:=shr8i n j
  by_cases hjk:j<k
  · (repeat' first|(refine s_set (r:=backB n k (j+1)) ?_ ?_ (h:=?_);(exact Z13_);(focus ((exact backB_set hjk (by omega)))))|(refine p_set (r:=backB n k (j+1)) ?_ ?_ (h:=?_);(exact Z13_);(focus ((exact backB_set hjk (by omega)))))|(refine go_ ?_;((repeat' first|exact True.intro|refine Two.mk ?_ ?_);all_goals intros))|fail "")
    all_goals (rw [e];(refine ⟨j+1,?_,?_,?_⟩;rotate_left 2;(exact lessA_);(exact Z69_);(exact Z69_)))
  · have:j=k:=by omega
    subst this
    rw [backB_all]
    have hbl:=bigB_length n j
    (repeat' first|(refine s_set (r:=(bigB (n+varM j * (64 * 256 ^ (j - 1))) j).map encB) ?_ ?_ (h:=?_);(exact Z13_);(exact Z2_))|(refine p_set (r:=(bigB (n+varM j * (64 * 256 ^ (j - 1))) j).map encB) ?_ ?_ (h:=?_);(exact Z13_);(exact Z2_))|(refine go_ ?_;((repeat' first|exact True.intro|refine Two.mk ?_ ?_);all_goals intros))|fail "")
    all_goals (refine ends_ (hr:=?_))
    all_goals first
      | rfl
      | (obtain rfl : j = 1 := by omega
         rfl)
theorem varText_fn (n:Nat) (hn:n≤4611686018427387903):Fn Tryz.prog 272 [.lit (.int .i64 n)] (.lit (.string (strB (varB n)))):=by
  have hs:=varSizeRef_fn n
  rw [show varS n=varK n from if_pos ⟨by omega,by omega⟩,show varE n=0 from if_pos ⟨by omega,by omega⟩] at hs
  have hB:varB n=bigB (n+varM (varK n) * (64 * 256 ^ (varK n - 1))) (varK n):=rfl
  rw [hB]
  have hc:(varK n=1∧n<64)∨(varK n=2∧n<16384)∨(varK n=4∧n<1073741824)∨(varK n=8∧n<4611686018427387904):=by have:=varK_cases n;omega
  generalize varK n=k at *
  have hb:=big_fn (n+varM k * (64 * 256 ^ (k - 1))) k (by omega)
  rcases hc with ⟨rfl,hc⟩ | ⟨rfl,hc⟩ | ⟨rfl,hc⟩ | ⟨rfl,hc⟩
  · rw [show ((n+varM 1 * (64 * 256 ^ (1 - 1)):Nat):Int)=bitsI .or .u64 (n:Int) (IntKind.u64.wrap (0 * 2 ^ min (8 * ((1:Nat):Int) - 2).toNat IntKind.u64.bits)) from (or64 n 0 6 hc (by omega) (by omega)).symm] at hb
    refine fn_of_run (by kernel_rfl) Tryz.func272 rfl (by kernel_rfl) ?_
    (repeat' first|(refine s_call (hs) (h:=?_))|(refine p_call (hs) (h:=?_))|(refine s_call (hb) (h:=?_))|(refine p_call (hb) (h:=?_))|(refine s_look (r:=(.int .u64 0)) ?_ (h:=?_);(focus (rfl)))|(refine go_ ?_;((repeat' first|exact True.intro|refine Two.mk ?_ ?_);all_goals intros))|fail "")
    all_goals exact ends_ (hr:=rfl)
  · rw [show ((n+varM 2 * (64 * 256 ^ (2 - 1)):Nat):Int)=bitsI .or .u64 (n:Int) (IntKind.u64.wrap (1 * 2 ^ min (8 * ((2:Nat):Int) - 2).toNat IntKind.u64.bits)) from (or64 n 1 14 hc (by omega) (by omega)).symm] at hb
    refine fn_of_run (by kernel_rfl) Tryz.func272 rfl (by kernel_rfl) ?_
    (repeat' first|(refine s_call (hs) (h:=?_))|(refine p_call (hs) (h:=?_))|(refine s_call (hb) (h:=?_))|(refine p_call (hb) (h:=?_))|(refine s_look (r:=(.int .u64 1)) ?_ (h:=?_);(focus (rfl)))|(refine go_ ?_;((repeat' first|exact True.intro|refine Two.mk ?_ ?_);all_goals intros))|fail "")
    all_goals exact ends_ (hr:=rfl)
  · rw [show ((n+varM 4 * (64 * 256 ^ (4 - 1)):Nat):Int)=bitsI .or .u64 (n:Int) (IntKind.u64.wrap (2 * 2 ^ min (8 * ((4:Nat):Int) - 2).toNat IntKind.u64.bits)) from (or64 n 2 30 hc (by omega) (by omega)).symm] at hb
    refine fn_of_run (by kernel_rfl) Tryz.func272 rfl (by kernel_rfl) ?_
    (repeat' first|(refine s_call (hs) (h:=?_))|(refine p_call (hs) (h:=?_))|(refine s_call (hb) (h:=?_))|(refine p_call (hb) (h:=?_))|(refine s_look (r:=(.int .u64 2)) ?_ (h:=?_);(focus (rfl)))|(refine go_ ?_;((repeat' first|exact True.intro|refine Two.mk ?_ ?_);all_goals intros))|fail "")
    all_goals exact ends_ (hr:=rfl)
  · rw [show ((n+varM 8 * (64 * 256 ^ (8 - 1)):Nat):Int)=bitsI .or .u64 (n:Int) (IntKind.u64.wrap (3 * 2 ^ min (8 * ((8:Nat):Int) - 2).toNat IntKind.u64.bits)) from (or64 n 3 62 hc (by omega) (by omega)).symm] at hb
    refine fn_of_run (by kernel_rfl) Tryz.func272 rfl (by kernel_rfl) ?_
    (repeat' first|(refine s_call (hs) (h:=?_))|(refine p_call (hs) (h:=?_))|(refine s_call (hb) (h:=?_))|(refine p_call (hb) (h:=?_))|(refine s_look (r:=(.int .u64 3)) ?_ (h:=?_);(focus (rfl)))|(refine go_ ?_;((repeat' first|exact True.intro|refine Two.mk ?_ ?_);all_goals intros))|fail "")
    all_goals exact ends_ (hr:=rfl)
end Go.Proofs.YtendheafcbickaaGreat
