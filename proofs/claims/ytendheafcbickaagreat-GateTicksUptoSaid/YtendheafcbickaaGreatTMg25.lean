/-
  SEVERAL TEXTS IN ONE: each with its own comment.
-/
import Derived.Test.YtendheafcbickaaGreatTZip
import Derived.Test.YtendheafcbickaaGreatTGo
import Derived.Test.YtendheafcbickaaGreatTMg23
import Derived.Test.YtendheafcbickaaGreatTMg06
set_option linter.unusedVariables false
set_option linter.unusedSimpArgs false
set_option maxHeartbeats 16000000
namespace Go.Proofs.YtendheafcbickaaGreat
section
set_option maxRecDepth 100000
attribute [local irreducible] cq a8 bw GStep Fn cu bk cU
def kT (h:gy):Int:=
 if h.Kind<0\/2<h.Kind then 2 else if 120<h.ky.length then 1 else if ¬ (0<=h.gW/\h.gW<=255) \/ ¬ (0<=h.hk/\h.hk<=255) then 6
 else if h.Kind=1 then(if ¬ h.fm=0 \/ ¬ h.Number=0 then 3 else 0)
 else if h.fm<1\/4<h.fm\/h.Number<0\/((256 ^ h.fm.toNat:Nat):Int)<=h.Number then 6
 else if h.Kind=2/\(¬ h.hk=0\/0<h.ky.length) then 3 else 0
theorem IZ (n:Int):cU Tryz.prog 306 [.lit (.int .i64 n)] [] 0 (.lit (.bool (decide (0<=n/\n<=255)))) [] 0:=by
 refine gG ae Tryz.func306 rfl ae (by rfl) ?_
 (repeat' first|(refine ab ?_;((repeat' first|exact True.intro|refine R.mk ?_ ?_);all_goals intros))|fail "")
 all_goals first
  | (rw[decide_eq_true (by omega)];(exact fg))
  | (rw[decide_eq_false (by omega)];(exact fg))
theorem I0 (s:Nat) (I:s<=4):IntKind.i64.wrap (1 * 2 ^ min (8 * (s:Int)).toNat IntKind.i64.bits)=((256 ^ s:Nat):Int)/\1<=256 ^ s/\256 ^ s<=4294967296:=by
 rcases (show s=0\/s=1\/s=2\/s=3\/s=4 by omega) with rfl|rfl|rfl|rfl|rfl <;> decide
theorem I1 (h:gy) (hw:mK h):Fn Tryz.prog 278 [.agg (k7 h)] (.lit (.int .i64 (kT h))):=by
  obtain ⟨cy,cR,w3,ef,dU,eS⟩:=hw
  unfold aF at *
  have b3:=IZ h.gW
  have dw:=IZ h.hk
  unfold kT
  by_cases aV:0<=h.gW/\h.gW<=255
  · rw[decide_eq_true aV] at b3
    by_cases ch:0<=h.hk/\h.hk<=255
    · rw[decide_eq_true ch] at dw
      have hn:¬ (¬ (0<=h.gW/\h.gW<=255) \/ ¬ (0<=h.hk/\h.hk<=255)):=by omega
      by_cases hS:1<=h.fm/\h.fm<=4
      · obtain ⟨s,ap⟩:=Int.eq_ofNat_of_zero_le (show 0<=h.fm by omega)
        obtain ⟨dD,c7,fb⟩:=I0 s (by omega)
        rw[<- ap] at dD
        rw[show h.fm.toNat=s by omega]
        generalize 256 ^ s=P at *
        refine aU ae Tryz.func278 rfl ae ?_
        (repeat' first|refine o3 [] (b3) (h:=?_)|refine o3 [] (dw) (h:=?_)|(refine ab ?_;((repeat' first|exact True.intro|refine R.mk ?_ ?_);all_goals intros))|fail "")
        all_goals first
          | (refine bt (hr := ?_)
             simp only[if_neg hn]
             first
              | (rw[if_pos (by omega)] <;> rfl)
              | (rw[if_neg (by omega),if_pos (by omega)] <;> rfl)
              | (rw[if_neg (by omega),if_neg (by omega),if_pos (by omega),if_pos (by omega)] <;> rfl)
              | (rw[if_neg (by omega),if_neg (by omega),if_pos (by omega),if_neg (by omega)] <;> rfl)
              | (rw[if_neg (by omega),if_neg (by omega),if_neg (by omega),if_pos (by omega)] <;> rfl)
              | (rw[if_neg (by omega),if_neg (by omega),if_neg (by omega),if_neg (by omega),if_pos (by omega)] <;> rfl)
              | (rw[if_neg (by omega),if_neg (by omega),if_neg (by omega),if_neg (by omega),if_neg (by omega)] <;> rfl))
          | skip
      · refine aU ae Tryz.func278 rfl ae ?_
        (repeat' first|refine o3 [] (b3) (h:=?_)|refine o3 [] (dw) (h:=?_)|(refine ab ?_;((repeat' first|exact True.intro|refine R.mk ?_ ?_);all_goals intros))|fail "")
        all_goals first
          | (refine bt (hr := ?_)
             simp only[if_neg hn]
             first
              | (rw[if_pos (by omega)] <;> rfl)
              | (rw[if_neg (by omega),if_pos (by omega)] <;> rfl)
              | (rw[if_neg (by omega),if_neg (by omega),if_pos (by omega),if_pos (by omega)] <;> rfl)
              | (rw[if_neg (by omega),if_neg (by omega),if_pos (by omega),if_neg (by omega)] <;> rfl)
              | (rw[if_neg (by omega),if_neg (by omega),if_neg (by omega),if_pos (by omega)] <;> rfl))
          | skip
    · rw[decide_eq_false ch] at dw
      have aw:¬ (0<=h.gW/\h.gW<=255) \/ ¬ (0<=h.hk/\h.hk<=255):=.inr ch
      simp only[if_pos aw]
      refine aU ae Tryz.func278 rfl ae ?_
      (repeat' first|refine o3 [] (b3) (h:=?_)|refine o3 [] (dw) (h:=?_)|(refine ab ?_;((repeat' first|exact True.intro|refine R.mk ?_ ?_);all_goals intros))|fail "")
      all_goals first
        | (refine bt (hr:=?_);first
            | (rw[if_pos (by omega)] <;> rfl)
            | (rw[if_neg (by omega),if_pos (by omega)] <;> rfl)
            | (rw[if_neg (by omega),if_neg (by omega)] <;> rfl))
        | skip
  · rw[decide_eq_false aV] at b3
    have aw:¬ (0<=h.gW/\h.gW<=255) \/ ¬ (0<=h.hk/\h.hk<=255):=.inl aV
    simp only[if_pos aw]
    refine aU ae Tryz.func278 rfl ae ?_
    (repeat' first|refine o3 [] (b3) (h:=?_)|refine o3 [] (dw) (h:=?_)|(refine ab ?_;((repeat' first|exact True.intro|refine R.mk ?_ ?_);all_goals intros))|fail "")
    all_goals first
      | (refine bt (hr:=?_);first
          | (rw[if_pos (by omega)] <;> rfl)
          | (rw[if_neg (by omega),if_pos (by omega)] <;> rfl)
          | (rw[if_neg (by omega),if_neg (by omega)] <;> rfl))
      | skip
theorem Qt (h:gy) (hw:mK h):Fn Tryz.prog 226 [.agg (k7 h)] (.lit (.int .i64 (kT h))):=by
 obtain ⟨cy,cR,w3,ef,dU,eS⟩:=hw
 unfold aF at *
 unfold kT
 by_cases hS:1<=h.fm/\h.fm<=4
 ·obtain ⟨s,ap⟩:=Int.eq_ofNat_of_zero_le (show 0<=h.fm by omega)
  obtain ⟨dD,c7,fb⟩:=I0 s (by omega)
  rw[<- ap] at dD
  rw[show h.fm.toNat=s by omega]
  generalize 256 ^ s=P at *
  refine aU ae Tryz.func226 rfl ae ?_
  (repeat' first|(refine dM (cB _ _) (ht:=?_) (hff:=?_) <;> intro _ <;> try (exfalso;omega))|(refine dN (cB _ _) (ht:=?_) (hff:=?_) <;> intro _ <;> try (exfalso;omega))|(refine ab ?_;((repeat' first|exact True.intro|refine R.mk ?_ ?_);all_goals intros))|fail "")
  all_goals first
   | (refine bt (hr:=?_);first
     | (rw[if_pos (by omega)] <;> rfl)
     | (rw[if_neg (by omega),if_pos (by omega)] <;> rfl)
     | (rw[if_neg (by omega),if_neg (by omega),if_pos (by omega)] <;> rfl)
     | (rw[if_neg (by omega),if_neg (by omega),if_neg (by omega),if_pos (by omega),if_pos (by omega)] <;> rfl)
     | (rw[if_neg (by omega),if_neg (by omega),if_neg (by omega),if_pos (by omega),if_neg (by omega)] <;> rfl)
     | (rw[if_neg (by omega),if_neg (by omega),if_neg (by omega),if_neg (by omega),if_pos (by omega)] <;> rfl)
     | (rw[if_neg (by omega),if_neg (by omega),if_neg (by omega),if_neg (by omega),if_neg (by omega),if_pos (by omega)] <;> rfl)
     | (rw[if_neg (by omega),if_neg (by omega),if_neg (by omega),if_neg (by omega),if_neg (by omega),if_neg (by omega)] <;> rfl))
   | skip
 ·have DO:¬ (0<=IntKind.i64.wrap (h.fm - 1)/\IntKind.i64.wrap (h.fm - 1)<=3):=by rw[IntKind.wrap_i64];omega
  refine aU ae Tryz.func226 rfl ae ?_
  (repeat' first|(refine dM (cB _ _) (ht:=?_) (hff:=?_) <;> intro _ <;> try (exfalso;omega))|(refine dN (cB _ _) (ht:=?_) (hff:=?_) <;> intro _ <;> try (exfalso;omega))|(refine ab ?_;((repeat' first|exact True.intro|refine R.mk ?_ ?_);all_goals intros))|fail "")
  all_goals first
   | (refine bt (hr:=?_);first
     | (rw[if_pos (by omega)] <;> rfl)
     | (rw[if_neg (by omega),if_pos (by omega)] <;> rfl)
     | (rw[if_neg (by omega),if_neg (by omega),if_pos (by omega)] <;> rfl)
     | (rw[if_neg (by omega),if_neg (by omega),if_neg (by omega),if_pos (by omega),if_pos (by omega)] <;> rfl)
     | (rw[if_neg (by omega),if_neg (by omega),if_neg (by omega),if_pos (by omega),if_neg (by omega)] <;> rfl)
     | (rw[if_neg (by omega),if_neg (by omega),if_neg (by omega),if_neg (by omega),if_pos (by omega)] <;> rfl))
   | skip
def qk (n:Int):Prop:=0<=n/\n<=4611686018427387903
instance (n:Int):Decidable (qk n):=inferInstanceAs (Decidable (_/\_))
def gu (n:Int):Nat:=if n<64 then 1 else if n<16384 then 2 else if n<1073741824 then 4 else 8
def rD (n:Int):Int:=if qk n then gu n else 0
def rE (n:Int):Int:=if qk n then 0 else 6
def oE (k:Nat):Nat:=if k=1 then 0 else if k=2 then 1 else if k=4 then 2 else 3
def cM (n:Nat):List UInt8:=c5 (n+oE (gu n) * (64 * 256 ^ (gu n - 1))) (gu n)
theorem rF (n:Int):(gu n=1/\n<64)\/(gu n=2/\64<=n/\n<16384)\/(gu n=4/\16384<=n/\n<1073741824)\/(gu n=8/\1073741824<=n):=by
 unfold gu
 split
 ·exact .inl ⟨rfl,by assumption⟩
 ·split
  ·exact .inr (.inl ⟨rfl,by omega,by assumption⟩)
  ·split
   ·exact .inr (.inr (.inl ⟨rfl,by omega,by assumption⟩))
   ·exact .inr (.inr (.inr ⟨rfl,by omega⟩))
theorem An (n:Nat):(cM n).length=gu n:=iL _ _
theorem I2 (n c:Nat):∀ k,c5 (n+c * 256 ^ k) k=c5 n k
 | 0=>rfl
 | k+1=>by
  have aw:0<256 ^ k:=Nat.pow_pos (by omega)
  have e:n+c * 256 ^ (k+1)=n+(c * 256) * 256 ^ k:=by rw[Nat.pow_succ,Nat.mul_comm (256 ^ k),<- Nat.mul_assoc]
  have aN:(n+(c * 256) * 256 ^ k) / 256 ^ k=n / 256 ^ k+c * 256:=Nat.add_mul_div_right _ _ aw
  unfold c5
  rw[e,aN,I2 n (c * 256) k]
  congr 1
  apply UInt8.toNat_inj.1
  simp only[UInt8.toNat_ofNat']
  omega
theorem Qu (n c k:Nat):c5 (n+c * (64 * 256 ^ k)) (k+1)=UInt8.ofNat (n / 256 ^ k+c * 64) :: c5 n k:=by
 have aw:0<256 ^ k:=Nat.pow_pos (by omega)
 rw[show n+c * (64 * 256 ^ k)=n+(c * 64) * 256 ^ k by rw[Nat.mul_assoc]]
 show UInt8.ofNat (_ / 256 ^ k) :: c5 _ k=_
 rw[Nat.add_mul_div_right _ _ aw,I2]
theorem Qv (a m:Nat) (bj:a<64) (hm:m<4):ee .or .u8 (a:Int) ((m * 64:Nat):Int)=((a+m * 64:Nat):Int):=by
 unfold ee
 show IntKind.u8.wrap ((((BitVec.ofInt 8 (a:Int) ||| BitVec.ofInt 8 ((m * 64:Nat):Int)):BitVec 8).toNat:Nat):Int)=_
 have aN:((BitVec.ofInt 8 (a:Int) ||| BitVec.ofInt 8 ((m * 64:Nat):Int)):BitVec 8).toNat=a+m * 64:=by
  rw[BitVec.toNat_or,BitVec.ofInt_natCast,BitVec.ofInt_natCast,BitVec.toNat_ofNat,BitVec.toNat_ofNat,Nat.mod_eq_of_lt (by omega),Nat.mod_eq_of_lt (by omega),Nat.or_comm]
  have:=Nat.two_pow_add_eq_or_of_lt (i:=6) (b:=a) (by omega) m
  rw[show m * 64=2 ^ 6 * m by omega,<- this]
  omega
 rw[aN,IntKind.wrap_u8]
 omega
theorem Ao (n m s:Nat) (hn:n<2 ^ s) (ap:s<=62) (hm:m<4):ee .or .u64 (n:Int) ((m * 2 ^ s:Nat):Int)=((n+m * 2 ^ s:Nat):Int):=by
 have J:(2:Nat) ^ s<=2 ^ 62:=Nat.pow_le_pow_right (by omega) ap
 have av:(2:Nat) ^ 62=4611686018427387904:=by decide
 have bl:m * 2 ^ s<=3 * 2 ^ 62:=Nat.mul_le_mul (by omega) J
 unfold ee
 show IntKind.u64.wrap ((((BitVec.ofInt 64 (n:Int) ||| BitVec.ofInt 64 ((m * 2 ^ s:Nat):Int)):BitVec 64).toNat:Nat):Int)=_
 have aN:((BitVec.ofInt 64 (n:Int) ||| BitVec.ofInt 64 ((m * 2 ^ s:Nat):Int)):BitVec 64).toNat=n+m * 2 ^ s:=by
  rw[BitVec.toNat_or,BitVec.ofInt_natCast,BitVec.ofInt_natCast,BitVec.toNat_ofNat,BitVec.toNat_ofNat,Nat.mod_eq_of_lt (by omega),Nat.mod_eq_of_lt (by omega),Nat.or_comm]
  have:=Nat.two_pow_add_eq_or_of_lt (i:=s) (b:=n) hn m
  rw[Nat.mul_comm m,<- this]
  omega
 rw[aN,IntKind.wrap_u64]
 omega
theorem Qw (n:Int):Fn Tryz.prog 307 [.lit (.int .i64 n)] (.b0 [.lit (.int .i64 (rD n)),.lit (.int .i64 (rE n))]):=by
 have ag:=rF n
 by_cases aa:qk n
 ·have I:rD n=gu n:=if_pos aa
  have J:rE n=0:=if_pos aa
  rw[I,J]
  unfold qk at aa
  rcases ag with⟨h,ag⟩ | ⟨h,ag⟩ | ⟨h,ag⟩ | ⟨h,ag⟩ <;> rw[h]
  all_goals
   refine aU ae Tryz.func307 rfl ae ?_
   (repeat' first|(refine ab ?_;((repeat' first|exact True.intro|refine R.mk ?_ ?_);all_goals intros))|fail "")
   all_goals exact bt (hr:=rfl)
 ·have I:rD n=0:=if_neg aa
  have J:rE n=6:=if_neg aa
  rw[I,J]
  unfold qk at aa
  refine aU ae Tryz.func307 rfl ae ?_
  (repeat' first|(refine ab ?_;((repeat' first|exact True.intro|refine R.mk ?_ ?_);all_goals intros))|fail "")
  all_goals exact bt (hr:=rfl)
theorem Qx (n:Int):Fn Tryz.prog 305 [.lit (.int .i64 n)] (.b0 [.lit (.int .i64 (rD n)),.lit (.int .i64 (rE n))]):=by
 have ag:=rF n
 by_cases aa:qk n
 ·have I:rD n=gu n:=if_pos aa
  have J:rE n=0:=if_pos aa
  rw[I,J]
  unfold qk at aa
  have aH:IntKind.i64.wrap (1 * 2 ^ min (8 * ((1:Nat):Int) - 2).toNat IntKind.i64.bits)=64:=by decide
  have aN:IntKind.i64.wrap (1 * 2 ^ min (8 * ((2:Nat):Int) - 2).toNat IntKind.i64.bits)=16384:=by decide
  have eK:IntKind.i64.wrap (1 * 2 ^ min (8 * ((4:Nat):Int) - 2).toNat IntKind.i64.bits)=1073741824:=by decide
  refine aU ae Tryz.func305 rfl ae ?_
  (repeat' first|(refine dM (cB _ _) (ht:=?_) (hff:=?_) <;> intro _ <;> try (exfalso;omega))|(refine dN (cB _ _) (ht:=?_) (hff:=?_) <;> intro _ <;> try (exfalso;omega))|(refine ab ?_;((repeat' first|exact True.intro|refine R.mk ?_ ?_);all_goals intros))|fail "")
  refine b2 (fun k:Nat=>⟨[(0,.lit (.int .i64 n)),(4,.lit (.int .i64 k))],[],0,Tryz.f305.ntmps⟩)
   (fun k=>(k=1\/k=2\/k=4\/k=8)/\(1<k->64<=n)/\(2<k->16384<=n)/\(4<k->1073741824<=n)) (fun k=>8 - k) 1 (by omega) du ?_
  rintro k ⟨af,I,J,av⟩
  rcases af with rfl|rfl|rfl|rfl
  ·(repeat' first|(refine ab ?_;((repeat' first|exact True.intro|refine R.mk ?_ ?_);all_goals intros))|fail "")
   all_goals first
    | (refine ⟨2,?_,?_,?_⟩;rotate_left 2;(exact ax);(exact bN);(exact DA))
    | (refine bt (hr:=?_);rw[show gu n=1 by omega])
  ·(repeat' first|(refine ab ?_;((repeat' first|exact True.intro|refine R.mk ?_ ?_);all_goals intros))|fail "")
   all_goals first
    | (refine ⟨4,?_,?_,?_⟩;rotate_left 2;(exact ax);(exact bN);(exact DA))
    | (refine bt (hr:=?_);rw[show gu n=2 by omega])
  ·(repeat' first|(refine ab ?_;((repeat' first|exact True.intro|refine R.mk ?_ ?_);all_goals intros))|fail "")
   all_goals first
    | (refine ⟨8,?_,?_,?_⟩;rotate_left 2;(exact ax);(exact bN);(exact DA))
    | (refine bt (hr:=?_);rw[show gu n=4 by omega])
  ·(repeat' first|(refine ab ?_;((repeat' first|exact True.intro|refine R.mk ?_ ?_);all_goals intros))|fail "")
   all_goals (refine bt (hr:=?_);rw[show gu n=8 by omega];rfl)
 ·have I:rD n=0:=if_neg aa
  have J:rE n=6:=if_neg aa
  rw[I,J]
  unfold qk at aa
  refine aU ae Tryz.func305 rfl ae ?_
  (repeat' first|(refine dM (cB _ _) (ht:=?_) (hff:=?_) <;> intro _ <;> try (exfalso;omega))|(refine dN (cB _ _) (ht:=?_) (hff:=?_) <;> intro _ <;> try (exfalso;omega))|(refine ab ?_;((repeat' first|exact True.intro|refine R.mk ?_ ?_);all_goals intros))|fail "")
  all_goals exact bt (hr:=rfl)
def mh (n k j:Nat):List (List V):=List.replicate (k - j) [.lit (.int .u8 0)]++(c5 n j).map aC
theorem Qy {n k j:Nat} (h:j<=k):(mh n k j).length=k:=by
 unfold mh;rw[List.length_append,List.length_replicate,List.length_map,iL];omega
theorem Qz (n k:Nat):mh n k 0=List.replicate k [.lit (.int .u8 0)]:=by unfold mh;simp[c5]
theorem QA (n k:Nat):mh n k k=(c5 n k).map aC:=by unfold mh;simp
theorem I3 {n k j:Nat} {i:Nat} (ah:j<k) (hi:i=k - 1 - j):(mh n k j).set i (setAt 0 [.lit (.int .u8 (IntKind.u8.wrap ((n / 256 ^ j:Nat):Int)))] (bH (mh n k j) i))=mh n k (j+1):=by
 subst hi
 have I:k - j=(k - (j+1))+1:=by omega
 have J:k - 1 - j=k - (j+1):=by omega
 have he:(bH (mh n k j) (k - 1 - j)).length=1:=by
  unfold mh bH
  rw[List.getD_eq_getElem?_getD,List.getElem?_append_left (by rw[List.length_replicate];omega),List.getElem?_replicate,if_pos (by omega)]
  rfl
 rw[vu he,J]
 unfold mh
 rw[I,List.replicate_succ',List.append_assoc,List.set_append_right (h:=by rw[List.length_replicate];exact Nat.le_refl _),List.length_replicate,Nat.sub_self]
 show _++([.lit (.int .u8 (IntKind.u8.wrap ((n / 256 ^ j:Nat):Int)))] :: (c5 n j).map aC)=_++(UInt8.ofNat (n / 256 ^ j) :: c5 n j).map aC
 rw[List.map_cons,tV]
theorem P7 {n k m:Nat} {c:Int} (ag:1<=k) (h:n / 256 ^ (k - 1)<64) (hm:m<4) (hc:c=((m * 64:Nat):Int)) :
  ((c5 n k).map aC).set 0 (setAt 0 [.lit (.int .u8 (ee .or .u8 (((c5 n k).getD 0 default).toNat:Int) c))] (bH ((c5 n k).map aC) 0))=(c5 (n+m * (64 * 256 ^ (k - 1))) k).map aC:=by
 subst hc
 obtain ⟨k,rfl⟩:∃ i,k=i+1:=⟨k - 1,by omega⟩
 rw[Nat.add_sub_cancel] at h ⊢
 rw[Qu]
 have b8:(bH ((c5 n (k+1)).map aC) 0).length=1:=by rw[je aC (by rw[iL];omega)];rfl
 rw[vu b8]
 show[.lit (.int .u8 (ee .or .u8 ((UInt8.ofNat (n / 256 ^ k)).toNat:Int) _))] :: (c5 n k).map aC=aC _ :: (c5 n k).map aC
 congr 1
 generalize n / 256 ^ k=a at *
 have aH:(UInt8.ofNat a).toNat=a:=by rw[UInt8.toNat_ofNat'];omega
 have aN:(UInt8.ofNat (a+m * 64)).toNat=a+m * 64:=by rw[UInt8.toNat_ofNat'];omega
 unfold aC
 rw[aH,aN,Qv _ _ h hm]
theorem QB (n k:Nat):((n / 256 ^ k:Nat):Int).fdiv (2 ^ min (8:Int).toNat IntKind.i64.bits)=((n / 256 ^ (k+1):Nat):Int):=CA n k
theorem I4 (n:Nat) (hn:n<=4611686018427387903):Fn Tryz.prog 279 [.lit (.int .i64 n)] (.b0 [.ro ((cM n).map aC),.lit (.int .i64 0)]):=by
  have ap:=Qw n
  rw[show rD n=gu n from if_pos ⟨by omega,by omega⟩,show rE n=0 from if_pos ⟨by omega,by omega⟩] at ap
  have aB:cM n=c5 (n+oE (gu n) * (64 * 256 ^ (gu n - 1))) (gu n):=rfl
  rw[aB]
  have hc:(gu n=1/\n<64)\/(gu n=2/\n<16384)\/(gu n=4/\n<1073741824)\/(gu n=8/\n<4611686018427387904):=by have:=rF n;omega
  generalize gu n=k at *
  have P9:n / 256 ^ (k - 1)<64:=by
    rcases hc with⟨rfl,hc⟩ | ⟨rfl,hc⟩ | ⟨rfl,hc⟩ | ⟨rfl,hc⟩
    · show n / 256 ^ 0<64;omega
    · show n / 256 ^ 1<64;omega
    · show n / 256 ^ 3<64;omega
    · show n / 256 ^ 7<64;omega
  have P8:1<=k/\k<=8:=by omega
  refine aU ae Tryz.func279 rfl ae ?_
  (repeat' first|(refine ar (ap) (h:=?_))|(refine au (ap) (h:=?_))|(refine GM (k) ?_ ?_ ?_ ?_ (h:=?_);(focus (first|rfl|omega));(focus (first|rfl|omega));(exact GN);(focus omega))|(refine ab ?_;((repeat' first|exact True.intro|refine R.mk ?_ ?_);all_goals intros))|fail "")
  rw[<- Qz n k]
  refine b2 (fun j:Nat=>⟨[(0,.lit (.int .i64 ((n / 256 ^ j:Nat):Int))),(4,.lit (.int .i64 k)),(6,.own 0),(7,.lit (.int .i64 ((k:Int) - 1 - j)))],[(0,some (.row 5 1 (mh n k j)))],1,Tryz.f279.ntmps⟩)
    (fun j=>j<=k) (fun j=>k - j) 0 (by omega) gf ?_
  intro j ah
  have aq:=Qy (n:=n) ah
  have e:=QB n j
  by_cases I5:j<k
  · (repeat' first|(refine mG (r:=mh n k (j+1)) ?_ ?_ (h:=?_);(exact hQ);(focus ((exact I3 I5 (by omega)))))|(refine mH (r:=mh n k (j+1)) ?_ ?_ (h:=?_);(exact hQ);(focus ((exact I3 I5 (by omega)))))|(refine ab ?_;((repeat' first|exact True.intro|refine R.mk ?_ ?_);all_goals intros))|fail "")
    all_goals (rw[e];(refine ⟨j+1,?_,?_,?_⟩;rotate_left 2;(exact ax);(exact bN);(exact bN)))
  · have:j=k:=by omega
    subst this
    rw[QA]
    have iP:=iL n j
    (repeat' first|(refine mG (r:=(c5 (n+oE j * (64 * 256 ^ (j - 1))) j).map aC) ?_ ?_ (h:=?_);(exact hQ);(exact Ii))|(refine mH (r:=(c5 (n+oE j * (64 * 256 ^ (j - 1))) j).map aC) ?_ ?_ (h:=?_);(exact hQ);(exact Ii))|(refine ab ?_;((repeat' first|exact True.intro|refine R.mk ?_ ?_);all_goals intros))|fail "")
    all_goals (refine bt (hr:=?_))
    all_goals first
      | rfl
      | (obtain rfl : j = 1 := by omega
         rfl)
theorem I6 (n:Nat) (hn:n<=4611686018427387903):Fn Tryz.prog 272 [.lit (.int .i64 n)] (.lit (.string (bZ (cM n)))):=by
 have ap:=Qx n
 rw[show rD n=gu n from if_pos ⟨by omega,by omega⟩,show rE n=0 from if_pos ⟨by omega,by omega⟩] at ap
 have aB:cM n=c5 (n+oE (gu n) * (64 * 256 ^ (gu n - 1))) (gu n):=rfl
 rw[aB]
 have hc:(gu n=1/\n<64)\/(gu n=2/\n<16384)\/(gu n=4/\n<1073741824)\/(gu n=8/\n<4611686018427387904):=by have:=rF n;omega
 generalize gu n=k at *
 have hb:=ql (n+oE k * (64 * 256 ^ (k - 1))) k (by omega)
 rcases hc with⟨rfl,hc⟩ | ⟨rfl,hc⟩ | ⟨rfl,hc⟩ | ⟨rfl,hc⟩
 ·rw[show((n+oE 1 * (64 * 256 ^ (1 - 1)):Nat):Int)=ee .or .u64 (n:Int) (IntKind.u64.wrap (0 * 2 ^ min (8 * ((1:Nat):Int) - 2).toNat IntKind.u64.bits)) from (Ao n 0 6 hc (by omega) (by omega)).symm] at hb
  refine aU ae Tryz.func272 rfl ae ?_
  (repeat' first|(refine ar (ap) (h:=?_))|(refine au (ap) (h:=?_))|(refine ar (hb) (h:=?_))|(refine au (hb) (h:=?_))|(refine sW (r:=(.int .u64 0)) ?_ (h:=?_);(focus (rfl)))|(refine ab ?_;((repeat' first|exact True.intro|refine R.mk ?_ ?_);all_goals intros))|fail "")
  all_goals exact bt (hr:=rfl)
 ·rw[show((n+oE 2 * (64 * 256 ^ (2 - 1)):Nat):Int)=ee .or .u64 (n:Int) (IntKind.u64.wrap (1 * 2 ^ min (8 * ((2:Nat):Int) - 2).toNat IntKind.u64.bits)) from (Ao n 1 14 hc (by omega) (by omega)).symm] at hb
  refine aU ae Tryz.func272 rfl ae ?_
  (repeat' first|(refine ar (ap) (h:=?_))|(refine au (ap) (h:=?_))|(refine ar (hb) (h:=?_))|(refine au (hb) (h:=?_))|(refine sW (r:=(.int .u64 1)) ?_ (h:=?_);(focus (rfl)))|(refine ab ?_;((repeat' first|exact True.intro|refine R.mk ?_ ?_);all_goals intros))|fail "")
  all_goals exact bt (hr:=rfl)
 ·rw[show((n+oE 4 * (64 * 256 ^ (4 - 1)):Nat):Int)=ee .or .u64 (n:Int) (IntKind.u64.wrap (2 * 2 ^ min (8 * ((4:Nat):Int) - 2).toNat IntKind.u64.bits)) from (Ao n 2 30 hc (by omega) (by omega)).symm] at hb
  refine aU ae Tryz.func272 rfl ae ?_
  (repeat' first|(refine ar (ap) (h:=?_))|(refine au (ap) (h:=?_))|(refine ar (hb) (h:=?_))|(refine au (hb) (h:=?_))|(refine sW (r:=(.int .u64 2)) ?_ (h:=?_);(focus (rfl)))|(refine ab ?_;((repeat' first|exact True.intro|refine R.mk ?_ ?_);all_goals intros))|fail "")
  all_goals exact bt (hr:=rfl)
 ·rw[show((n+oE 8 * (64 * 256 ^ (8 - 1)):Nat):Int)=ee .or .u64 (n:Int) (IntKind.u64.wrap (3 * 2 ^ min (8 * ((8:Nat):Int) - 2).toNat IntKind.u64.bits)) from (Ao n 3 62 hc (by omega) (by omega)).symm] at hb
  refine aU ae Tryz.func272 rfl ae ?_
  (repeat' first|(refine ar (ap) (h:=?_))|(refine au (ap) (h:=?_))|(refine ar (hb) (h:=?_))|(refine au (hb) (h:=?_))|(refine sW (r:=(.int .u64 3)) ?_ (h:=?_);(focus (rfl)))|(refine ab ?_;((repeat' first|exact True.intro|refine R.mk ?_ ?_);all_goals intros))|fail "")
  all_goals exact bt (hr:=rfl)
end
end Go.Proofs.YtendheafcbickaaGreat
