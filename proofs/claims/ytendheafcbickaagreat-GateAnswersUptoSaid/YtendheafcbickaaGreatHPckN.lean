
import Derived.Test.YtendheafcbickaaGreatHZip
import Derived.Test.YtendheafcbickaaGreatHGo
import Derived.Test.YtendheafcbickaaGreatHMg22
import Derived.Test.YtendheafcbickaaGreatHMg06
set_option linter.unusedVariables false
set_option linter.unusedSimpArgs false
set_option linter.unusedVariables false
namespace Go.Proofs.YtendheafcbickaaGreat
set_option maxRecDepth 100000
attribute [local irreducible] Run RunL QStep GStep Fn Less PL FnM
def cutOk (n d:Int):Prop:=0≤n∧n≤4611686018427387903 ∧ -1≤d∧d<n
instance (n d:Int):Decidable (cutOk n d):=inferInstanceAs (Decidable (_∧_))
def cutK (d:Int):Nat:=if d≤128 then 1 else if d≤32768 then 2 else if d≤8388608 then 3 else if d≤2147483648 then 4 else 0
def cutR (n d:Int):List UInt8×Int:=if ¬ cutOk n d then ([],6) else if cutK (n - d)=0 then ([],6) else (bigB n.toNat (cutK (n - d)),0)
def encCut (r:List UInt8×Int):V:=.tup [.ro (r.1.map encB),.lit (.int .i64 r.2)]
theorem shrB (n j:Nat) (hj:j≤3):[V.lit (.int .u8 (IntKind.u8.wrap ((n:Int).fdiv (2 ^ min (8 * (j:Int)).toNat IntKind.i64.bits))))]=encB (UInt8.ofNat (n / 256 ^ j)):=by
  have e:min (8 * (j:Int)).toNat IntKind.i64.bits=8 * j:=by
    have:IntKind.i64.bits=64:=rfl
    omega
  rw [e,fdiv_two_pow,show (2:Nat) ^ (8 * j)=256 ^ j by rw [Nat.pow_mul]]
  unfold encB
  rw [IntKind.wrap_u8,UInt8.toNat_ofNat']
  rfl
set_option maxHeartbeats 4000000 in
theorem pkCut_fn (n d:Int):Fn Tryz.prog 213 [.lit (.int .i64 n),.lit (.int .i64 d)] (encCut (cutR n d)):=by
  unfold cutR encCut
  by_cases c:cutOk n d
  · rw [if_neg (by simpa using c)]
    unfold cutOk at c
    obtain ⟨n,rfl⟩:=Int.eq_ofNat_of_zero_le c.1
    rw [Int.toNat_natCast]
    refine fn_of_run (by kernel_rfl) Tryz.func213 rfl (by kernel_rfl) ?_
    (repeat' first|(refine go_ ?_;((repeat' first|exact True.intro|refine Two.mk ?_ ?_);all_goals intros))|fail "")
    refine r_for (fun k:Int=>⟨[(0,.lit (.int .i64 n)),(1,.lit (.int .i64 d)),(6,.lit (.int .i64 k))],[],0,Tryz.f213.ntmps⟩)
      (fun k=>(k=1)∨(k=2∧128<n - d)∨(k=3∧32768<n - d)∨(k=4∧8388608<n - d)∨(k=5∧2147483648<n - d)) (fun k=>(5 - k).toNat) 1 (.inl rfl) less_to ?_
    rintro k (rfl | ⟨rfl,h⟩ | ⟨rfl,h⟩ | ⟨rfl,h⟩ | ⟨rfl,h⟩)
    · have ws:IntKind.i64.wrap (1 * 2 ^ min (8 * 1 - 1:Int).toNat IntKind.i64.bits)=128:=by decide
      by_cases hk:(n:Int) - d≤128
      · have e:cutK ((n:Int) - d)=1:=by unfold cutK;(repeat' split) <;> omega
        rw [e,if_neg (by omega)]
        (repeat' first|(refine go_ ?_;((repeat' first|exact True.intro|refine Two.mk ?_ ?_);all_goals intros))|fail "")
        all_goals try (exfalso;simp only [ws] at *;omega)
        refine r_for (fun x:Int×List UInt8=>⟨[(0,.lit (.int .i64 n)),(7,.own 0),(8,.lit (.int .i64 x.1))],[(0,some (.row 5 1 (x.2.map encB)))],1,Tryz.f213.ntmps⟩)
          (fun x=>x=(0,[])∨x=(-1,[UInt8.ofNat (n / 256 ^ 0)])) (fun x=>(x.1+1).toNat) (0,[]) (.inl rfl) ((less_own (n:=0) (t:=7) 5 1 rfl rfl rfl).trans less_to) ?_
        rintro x (rfl|rfl)
        all_goals dsimp only
        · (repeat' first|(refine s_app (r:=[UInt8.ofNat (n / 256 ^ 0)].map encB) ?_ ?_ ?_ ?_ (h:=?_);(exact Z28_);(exact Z47_);(exact Z12_);(exact Z22_))|(refine s_app0R (r:=[UInt8.ofNat (n / 256 ^ 0)].map encB) ?_ ?_ ?_ ?_ (h:=?_);(exact Z28_);(exact Z47_);(exact Z12_);(exact Z22_))|(refine p_app (r:=[UInt8.ofNat (n / 256 ^ 0)].map encB) ?_ ?_ ?_ ?_ (h:=?_);(exact Z28_);(exact Z47_);(exact Z12_);(exact Z22_))|(refine go_ ?_;((repeat' first|exact True.intro|refine Two.mk ?_ ?_);all_goals intros))|fail "")
          all_goals first
            | (refine ⟨(-1,[UInt8.ofNat (n / 256 ^ 0)]),?_,?_,?_⟩;rotate_left 2;(exact lessA_);(exact Z66_);(focus (exact .inr (rfl))))
            | skip
        · (repeat' first|(refine go_ ?_;((repeat' first|exact True.intro|refine Two.mk ?_ ?_);all_goals intros))|fail "")
          all_goals first
            | (exact endwA_)
            | skip
      · (repeat' first|(refine go_ ?_;((repeat' first|exact True.intro|refine Two.mk ?_ ?_);all_goals intros))|fail "")
        all_goals try (exfalso;simp only [ws] at *;omega)
        all_goals first
          | (refine ⟨(2:Int),?_,?_,?_⟩;rotate_left 2;(exact lessA_);(focus (decide));(focus (exact .inr (.inl ⟨rfl,by omega⟩))))
          | skip
    · have ws:IntKind.i64.wrap (1 * 2 ^ min (8 * 2 - 1:Int).toNat IntKind.i64.bits)=32768:=by decide
      by_cases hk:(n:Int) - d≤32768
      · have e:cutK ((n:Int) - d)=2:=by unfold cutK;(repeat' split) <;> omega
        rw [e,if_neg (by omega)]
        (repeat' first|(refine go_ ?_;((repeat' first|exact True.intro|refine Two.mk ?_ ?_);all_goals intros))|fail "")
        all_goals try (exfalso;simp only [ws] at *;omega)
        refine r_for (fun x:Int×List UInt8=>⟨[(0,.lit (.int .i64 n)),(7,.own 0),(8,.lit (.int .i64 x.1))],[(0,some (.row 5 1 (x.2.map encB)))],1,Tryz.f213.ntmps⟩)
          (fun x=>x=(1,[])∨x=(0,[UInt8.ofNat (n / 256 ^ 1)])∨x=(-1,[UInt8.ofNat (n / 256 ^ 1),UInt8.ofNat (n / 256 ^ 0)])) (fun x=>(x.1+1).toNat) (1,[]) (.inl rfl) ((less_own (n:=0) (t:=7) 5 1 rfl rfl rfl).trans less_to) ?_
        rintro x (rfl|rfl|rfl)
        all_goals dsimp only
        · (repeat' first|(refine s_app (r:=[UInt8.ofNat (n / 256 ^ 1)].map encB) ?_ ?_ ?_ ?_ (h:=?_);(exact Z29_);(exact Z47_);(exact Z12_);(exact Z22_))|(refine s_app0R (r:=[UInt8.ofNat (n / 256 ^ 1)].map encB) ?_ ?_ ?_ ?_ (h:=?_);(exact Z29_);(exact Z47_);(exact Z12_);(exact Z22_))|(refine p_app (r:=[UInt8.ofNat (n / 256 ^ 1)].map encB) ?_ ?_ ?_ ?_ (h:=?_);(exact Z29_);(exact Z47_);(exact Z12_);(exact Z22_))|(refine go_ ?_;((repeat' first|exact True.intro|refine Two.mk ?_ ?_);all_goals intros))|fail "")
          all_goals first
            | (refine ⟨(0,[UInt8.ofNat (n / 256 ^ 1)]),?_,?_,?_⟩;rotate_left 2;(exact lessA_);(exact Z66_);(focus (exact .inr (.inl rfl))))
            | skip
        · (repeat' first|(refine s_app (r:=[UInt8.ofNat (n / 256 ^ 1),UInt8.ofNat (n / 256 ^ 0)].map encB) ?_ ?_ ?_ ?_ (h:=?_);(exact Z15_);(exact Z47_);(exact Z12_);(exact Z22_))|(refine s_app0R (r:=[UInt8.ofNat (n / 256 ^ 1),UInt8.ofNat (n / 256 ^ 0)].map encB) ?_ ?_ ?_ ?_ (h:=?_);(exact Z15_);(exact Z47_);(exact Z12_);(exact Z22_))|(refine p_app (r:=[UInt8.ofNat (n / 256 ^ 1),UInt8.ofNat (n / 256 ^ 0)].map encB) ?_ ?_ ?_ ?_ (h:=?_);(exact Z15_);(exact Z47_);(exact Z12_);(exact Z22_))|(refine go_ ?_;((repeat' first|exact True.intro|refine Two.mk ?_ ?_);all_goals intros))|fail "")
          all_goals first
            | (refine ⟨(-1,[UInt8.ofNat (n / 256 ^ 1),UInt8.ofNat (n / 256 ^ 0)]),?_,?_,?_⟩;rotate_left 2;(exact lessA_);(exact Z66_);(focus (exact .inr (.inr (rfl)))))
            | skip
        · (repeat' first|(refine go_ ?_;((repeat' first|exact True.intro|refine Two.mk ?_ ?_);all_goals intros))|fail "")
          all_goals first
            | (exact endwA_)
            | skip
      · (repeat' first|(refine go_ ?_;((repeat' first|exact True.intro|refine Two.mk ?_ ?_);all_goals intros))|fail "")
        all_goals try (exfalso;simp only [ws] at *;omega)
        all_goals first
          | (refine ⟨(3:Int),?_,?_,?_⟩;rotate_left 2;(exact lessA_);(focus (decide));(focus (exact .inr (.inr (.inl ⟨rfl,by omega⟩)))))
          | skip
    · have ws:IntKind.i64.wrap (1 * 2 ^ min (8 * 3 - 1:Int).toNat IntKind.i64.bits)=8388608:=by decide
      by_cases hk:(n:Int) - d≤8388608
      · have e:cutK ((n:Int) - d)=3:=by unfold cutK;(repeat' split) <;> omega
        rw [e,if_neg (by omega)]
        (repeat' first|(refine go_ ?_;((repeat' first|exact True.intro|refine Two.mk ?_ ?_);all_goals intros))|fail "")
        all_goals try (exfalso;simp only [ws] at *;omega)
        refine r_for (fun x:Int×List UInt8=>⟨[(0,.lit (.int .i64 n)),(7,.own 0),(8,.lit (.int .i64 x.1))],[(0,some (.row 5 1 (x.2.map encB)))],1,Tryz.f213.ntmps⟩)
          (fun x=>x=(2,[])∨x=(1,[UInt8.ofNat (n / 256 ^ 2)])∨x=(0,[UInt8.ofNat (n / 256 ^ 2),UInt8.ofNat (n / 256 ^ 1)])∨x=(-1,[UInt8.ofNat (n / 256 ^ 2),UInt8.ofNat (n / 256 ^ 1),UInt8.ofNat (n / 256 ^ 0)])) (fun x=>(x.1+1).toNat) (2,[]) (.inl rfl) ((less_own (n:=0) (t:=7) 5 1 rfl rfl rfl).trans less_to) ?_
        rintro x (rfl|rfl|rfl|rfl)
        all_goals dsimp only
        · (repeat' first|(refine s_app (r:=[UInt8.ofNat (n / 256 ^ 2)].map encB) ?_ ?_ ?_ ?_ (h:=?_);(exact Z30_);(exact Z47_);(exact Z12_);(exact Z22_))|(refine s_app0R (r:=[UInt8.ofNat (n / 256 ^ 2)].map encB) ?_ ?_ ?_ ?_ (h:=?_);(exact Z30_);(exact Z47_);(exact Z12_);(exact Z22_))|(refine p_app (r:=[UInt8.ofNat (n / 256 ^ 2)].map encB) ?_ ?_ ?_ ?_ (h:=?_);(exact Z30_);(exact Z47_);(exact Z12_);(exact Z22_))|(refine go_ ?_;((repeat' first|exact True.intro|refine Two.mk ?_ ?_);all_goals intros))|fail "")
          all_goals first
            | (refine ⟨(1,[UInt8.ofNat (n / 256 ^ 2)]),?_,?_,?_⟩;rotate_left 2;(exact lessA_);(exact Z66_);(focus (exact .inr (.inl rfl))))
            | skip
        · (repeat' first|(refine s_app (r:=[UInt8.ofNat (n / 256 ^ 2),UInt8.ofNat (n / 256 ^ 1)].map encB) ?_ ?_ ?_ ?_ (h:=?_);(exact Z16_);(exact Z47_);(exact Z12_);(exact Z22_))|(refine s_app0R (r:=[UInt8.ofNat (n / 256 ^ 2),UInt8.ofNat (n / 256 ^ 1)].map encB) ?_ ?_ ?_ ?_ (h:=?_);(exact Z16_);(exact Z47_);(exact Z12_);(exact Z22_))|(refine p_app (r:=[UInt8.ofNat (n / 256 ^ 2),UInt8.ofNat (n / 256 ^ 1)].map encB) ?_ ?_ ?_ ?_ (h:=?_);(exact Z16_);(exact Z47_);(exact Z12_);(exact Z22_))|(refine go_ ?_;((repeat' first|exact True.intro|refine Two.mk ?_ ?_);all_goals intros))|fail "")
          all_goals first
            | (refine ⟨(0,[UInt8.ofNat (n / 256 ^ 2),UInt8.ofNat (n / 256 ^ 1)]),?_,?_,?_⟩;rotate_left 2;(exact lessA_);(exact Z66_);(focus (exact .inr (.inr (.inl rfl)))))
            | skip
        · (repeat' first|(refine s_app (r:=[UInt8.ofNat (n / 256 ^ 2),UInt8.ofNat (n / 256 ^ 1),UInt8.ofNat (n / 256 ^ 0)].map encB) ?_ ?_ ?_ ?_ (h:=?_);(exact Z9_);(exact Z47_);(exact Z12_);(exact Z22_))|(refine s_app0R (r:=[UInt8.ofNat (n / 256 ^ 2),UInt8.ofNat (n / 256 ^ 1),UInt8.ofNat (n / 256 ^ 0)].map encB) ?_ ?_ ?_ ?_ (h:=?_);(exact Z9_);(exact Z47_);(exact Z12_);(exact Z22_))|(refine p_app (r:=[UInt8.ofNat (n / 256 ^ 2),UInt8.ofNat (n / 256 ^ 1),UInt8.ofNat (n / 256 ^ 0)].map encB) ?_ ?_ ?_ ?_ (h:=?_);(exact Z9_);(exact Z47_);(exact Z12_);(exact Z22_))|(refine go_ ?_;((repeat' first|exact True.intro|refine Two.mk ?_ ?_);all_goals intros))|fail "")
          all_goals first
            | (refine ⟨(-1,[UInt8.ofNat (n / 256 ^ 2),UInt8.ofNat (n / 256 ^ 1),UInt8.ofNat (n / 256 ^ 0)]),?_,?_,?_⟩;rotate_left 2;(exact lessA_);(exact Z66_);(focus (exact .inr (.inr (.inr (rfl))))))
            | skip
        · (repeat' first|(refine go_ ?_;((repeat' first|exact True.intro|refine Two.mk ?_ ?_);all_goals intros))|fail "")
          all_goals first
            | (exact endwA_)
            | skip
      · (repeat' first|(refine go_ ?_;((repeat' first|exact True.intro|refine Two.mk ?_ ?_);all_goals intros))|fail "")
        all_goals try (exfalso;simp only [ws] at *;omega)
        all_goals first
          | (refine ⟨(4:Int),?_,?_,?_⟩;rotate_left 2;(exact lessA_);(focus (decide));(focus (exact .inr (.inr (.inr (.inl ⟨rfl,by omega⟩))))))
          | skip
    · have ws:IntKind.i64.wrap (1 * 2 ^ min (8 * 4 - 1:Int).toNat IntKind.i64.bits)=2147483648:=by decide
      by_cases hk:(n:Int) - d≤2147483648
      · have e:cutK ((n:Int) - d)=4:=by unfold cutK;(repeat' split) <;> omega
        rw [e,if_neg (by omega)]
        (repeat' first|(refine go_ ?_;((repeat' first|exact True.intro|refine Two.mk ?_ ?_);all_goals intros))|fail "")
        all_goals try (exfalso;simp only [ws] at *;omega)
        refine r_for (fun x:Int×List UInt8=>⟨[(0,.lit (.int .i64 n)),(7,.own 0),(8,.lit (.int .i64 x.1))],[(0,some (.row 5 1 (x.2.map encB)))],1,Tryz.f213.ntmps⟩)
          (fun x=>x=(3,[])∨x=(2,[UInt8.ofNat (n / 256 ^ 3)])∨x=(1,[UInt8.ofNat (n / 256 ^ 3),UInt8.ofNat (n / 256 ^ 2)])∨x=(0,[UInt8.ofNat (n / 256 ^ 3),UInt8.ofNat (n / 256 ^ 2),UInt8.ofNat (n / 256 ^ 1)])∨x=(-1,[UInt8.ofNat (n / 256 ^ 3),UInt8.ofNat (n / 256 ^ 2),UInt8.ofNat (n / 256 ^ 1),UInt8.ofNat (n / 256 ^ 0)])) (fun x=>(x.1+1).toNat) (3,[]) (.inl rfl) ((less_own (n:=0) (t:=7) 5 1 rfl rfl rfl).trans less_to) ?_
        rintro x (rfl|rfl|rfl|rfl|rfl)
        all_goals dsimp only
        · (repeat' first|(refine s_app (r:=[UInt8.ofNat (n / 256 ^ 3)].map encB) ?_ ?_ ?_ ?_ (h:=?_);(exact Z31_);(exact Z47_);(exact Z12_);(exact Z22_))|(refine s_app0R (r:=[UInt8.ofNat (n / 256 ^ 3)].map encB) ?_ ?_ ?_ ?_ (h:=?_);(exact Z31_);(exact Z47_);(exact Z12_);(exact Z22_))|(refine p_app (r:=[UInt8.ofNat (n / 256 ^ 3)].map encB) ?_ ?_ ?_ ?_ (h:=?_);(exact Z31_);(exact Z47_);(exact Z12_);(exact Z22_))|(refine go_ ?_;((repeat' first|exact True.intro|refine Two.mk ?_ ?_);all_goals intros))|fail "")
          all_goals first
            | (refine ⟨(2,[UInt8.ofNat (n / 256 ^ 3)]),?_,?_,?_⟩;rotate_left 2;(exact lessA_);(exact Z66_);(focus (exact .inr (.inl rfl))))
            | skip
        · (repeat' first|(refine s_app (r:=[UInt8.ofNat (n / 256 ^ 3),UInt8.ofNat (n / 256 ^ 2)].map encB) ?_ ?_ ?_ ?_ (h:=?_);(exact Z17_);(exact Z47_);(exact Z12_);(exact Z22_))|(refine s_app0R (r:=[UInt8.ofNat (n / 256 ^ 3),UInt8.ofNat (n / 256 ^ 2)].map encB) ?_ ?_ ?_ ?_ (h:=?_);(exact Z17_);(exact Z47_);(exact Z12_);(exact Z22_))|(refine p_app (r:=[UInt8.ofNat (n / 256 ^ 3),UInt8.ofNat (n / 256 ^ 2)].map encB) ?_ ?_ ?_ ?_ (h:=?_);(exact Z17_);(exact Z47_);(exact Z12_);(exact Z22_))|(refine go_ ?_;((repeat' first|exact True.intro|refine Two.mk ?_ ?_);all_goals intros))|fail "")
          all_goals first
            | (refine ⟨(1,[UInt8.ofNat (n / 256 ^ 3),UInt8.ofNat (n / 256 ^ 2)]),?_,?_,?_⟩;rotate_left 2;(exact lessA_);(exact Z66_);(focus (exact .inr (.inr (.inl rfl)))))
            | skip
        · (repeat' first|(refine s_app (r:=[UInt8.ofNat (n / 256 ^ 3),UInt8.ofNat (n / 256 ^ 2),UInt8.ofNat (n / 256 ^ 1)].map encB) ?_ ?_ ?_ ?_ (h:=?_);(exact Z10_);(exact Z47_);(exact Z12_);(exact Z22_))|(refine s_app0R (r:=[UInt8.ofNat (n / 256 ^ 3),UInt8.ofNat (n / 256 ^ 2),UInt8.ofNat (n / 256 ^ 1)].map encB) ?_ ?_ ?_ ?_ (h:=?_);(exact Z10_);(exact Z47_);(exact Z12_);(exact Z22_))|(refine p_app (r:=[UInt8.ofNat (n / 256 ^ 3),UInt8.ofNat (n / 256 ^ 2),UInt8.ofNat (n / 256 ^ 1)].map encB) ?_ ?_ ?_ ?_ (h:=?_);(exact Z10_);(exact Z47_);(exact Z12_);(exact Z22_))|(refine go_ ?_;((repeat' first|exact True.intro|refine Two.mk ?_ ?_);all_goals intros))|fail "")
          all_goals first
            | (refine ⟨(0,[UInt8.ofNat (n / 256 ^ 3),UInt8.ofNat (n / 256 ^ 2),UInt8.ofNat (n / 256 ^ 1)]),?_,?_,?_⟩;rotate_left 2;(exact lessA_);(exact Z66_);(focus (exact .inr (.inr (.inr (.inl rfl))))))
            | skip
        · (repeat' first|(refine s_app (r:=[UInt8.ofNat (n / 256 ^ 3),UInt8.ofNat (n / 256 ^ 2),UInt8.ofNat (n / 256 ^ 1),UInt8.ofNat (n / 256 ^ 0)].map encB) ?_ ?_ ?_ ?_ (h:=?_);(exact Z6_);(exact Z47_);(exact Z12_);(exact Z22_))|(refine s_app0R (r:=[UInt8.ofNat (n / 256 ^ 3),UInt8.ofNat (n / 256 ^ 2),UInt8.ofNat (n / 256 ^ 1),UInt8.ofNat (n / 256 ^ 0)].map encB) ?_ ?_ ?_ ?_ (h:=?_);(exact Z6_);(exact Z47_);(exact Z12_);(exact Z22_))|(refine p_app (r:=[UInt8.ofNat (n / 256 ^ 3),UInt8.ofNat (n / 256 ^ 2),UInt8.ofNat (n / 256 ^ 1),UInt8.ofNat (n / 256 ^ 0)].map encB) ?_ ?_ ?_ ?_ (h:=?_);(exact Z6_);(exact Z47_);(exact Z12_);(exact Z22_))|(refine go_ ?_;((repeat' first|exact True.intro|refine Two.mk ?_ ?_);all_goals intros))|fail "")
          all_goals first
            | (refine ⟨(-1,[UInt8.ofNat (n / 256 ^ 3),UInt8.ofNat (n / 256 ^ 2),UInt8.ofNat (n / 256 ^ 1),UInt8.ofNat (n / 256 ^ 0)]),?_,?_,?_⟩;rotate_left 2;(exact lessA_);(exact Z66_);(focus (exact .inr (.inr (.inr (.inr (rfl)))))))
            | skip
        · (repeat' first|(refine go_ ?_;((repeat' first|exact True.intro|refine Two.mk ?_ ?_);all_goals intros))|fail "")
          all_goals first
            | (exact endwA_)
            | skip
      · (repeat' first|(refine go_ ?_;((repeat' first|exact True.intro|refine Two.mk ?_ ?_);all_goals intros))|fail "")
        all_goals try (exfalso;simp only [ws] at *;omega)
        all_goals first
          | (refine ⟨(5:Int),?_,?_,?_⟩;rotate_left 2;(exact lessA_);(focus (decide));(focus (exact .inr (.inr (.inr (.inr (⟨rfl,by omega⟩)))))))
          | skip
    · have e:cutK ((n:Int) - d)=0:=by unfold cutK;(repeat' split) <;> omega
      rw [e,if_pos rfl]
      (repeat' first|(refine go_ ?_;((repeat' first|exact True.intro|refine Two.mk ?_ ?_);all_goals intros))|fail "")
      all_goals first
        | (exact endwA_)
        | skip
  · rw [if_pos c]
    unfold cutOk at c
    refine fn_of_run (by kernel_rfl) Tryz.func213 rfl (by kernel_rfl) ?_
    (repeat' first|(refine go_ ?_;((repeat' first|exact True.intro|refine Two.mk ?_ ?_);all_goals intros))|fail "")
    all_goals first
      | (exact endwA_)
      | (exfalso;omega)
      | skip
theorem u64_of_nat (n:Nat) (h:n<18446744073709551616):IntKind.u64.wrap (n:Int)=(n:Int):=by rw [IntKind.wrap_u64];omega
set_option maxHeartbeats 4000000 in
theorem cutNumber_fn (n d:Int) (hn:I64 n) (hd:I64 d):Fn Tryz.prog 225 [.lit (.int .i64 n),.lit (.int .i64 d)] (encCut (cutR n d)):=by
  unfold I64 at hn hd
  have h1:=upTo_fn n 4611686018427387903
  unfold cutR encCut
  by_cases c:cutOk n d
  · rw [if_neg (by simpa using c)]
    unfold cutOk at c
    obtain ⟨n,rfl⟩:=Int.eq_ofNat_of_zero_le c.1
    rw [Int.toNat_natCast]
    have hb:=fun k hk=>big_fn n k hk
    refine fn_of_run (by kernel_rfl) Tryz.func225 rfl (by kernel_rfl) ?_
    (repeat' first|(refine s_dec (h1) (ht:=?_) (hff:=?_) <;> intro _ <;> try (exfalso;omega))|(refine p_dec (h1) (ht:=?_) (hff:=?_) <;> intro _ <;> try (exfalso;omega))|(refine go_ ?_;((repeat' first|exact True.intro|refine Two.mk ?_ ?_);all_goals intros))|fail "")
    refine r_for (fun k:Int=>⟨[(0,.lit (.int .i64 n)),(1,.lit (.int .i64 d)),(6,.lit (.int .i64 k))],[],0,Tryz.f225.ntmps⟩)
      (fun k=>(k=1)∨(k=2∧128<n - d)∨(k=3∧32768<n - d)∨(k=4∧8388608<n - d)∨(k=5∧2147483648<n - d)) (fun k=>(5 - k).toNat) 1 (.inl rfl) less_to ?_
    rintro k (rfl | ⟨rfl,h⟩ | ⟨rfl,h⟩ | ⟨rfl,h⟩ | ⟨rfl,h⟩)
    · have ws:IntKind.i64.wrap (1 * 2 ^ min (8 * 1 - 1:Int).toNat IntKind.i64.bits)=128:=by decide
      have hb:=big_fn n 1 (by omega)
      have hbl:=bigB_length n 1
      have hw:=u64_of_nat n (by omega)
      by_cases hk:(n:Int) - d≤128
      · have e:cutK ((n:Int) - d)=1:=by unfold cutK;(repeat' split) <;> omega
        rw [e,if_neg (by omega)]
        (repeat' first|(refine s_call (hb) (h:=?_))|(refine p_call (hb) (h:=?_))|(refine go_ ?_;((repeat' first|exact True.intro|refine Two.mk ?_ ?_);all_goals intros))|fail "")
        all_goals try (exfalso;simp only [ws] at *;omega)
        all_goals first
          | (exact endwA_)
          | skip
      · (repeat' first|(refine s_call (hb) (h:=?_))|(refine p_call (hb) (h:=?_))|(refine go_ ?_;((repeat' first|exact True.intro|refine Two.mk ?_ ?_);all_goals intros))|fail "")
        all_goals try (exfalso;simp only [ws] at *;omega)
        all_goals first
          | (refine ⟨(2:Int),?_,?_,?_⟩;rotate_left 2;(exact lessA_);(focus (decide));(focus (exact .inr (.inl ⟨rfl,by omega⟩))))
          | skip
    · have ws:IntKind.i64.wrap (1 * 2 ^ min (8 * 2 - 1:Int).toNat IntKind.i64.bits)=32768:=by decide
      have hb:=big_fn n 2 (by omega)
      have hbl:=bigB_length n 2
      have hw:=u64_of_nat n (by omega)
      by_cases hk:(n:Int) - d≤32768
      · have e:cutK ((n:Int) - d)=2:=by unfold cutK;(repeat' split) <;> omega
        rw [e,if_neg (by omega)]
        (repeat' first|(refine s_call (hb) (h:=?_))|(refine p_call (hb) (h:=?_))|(refine go_ ?_;((repeat' first|exact True.intro|refine Two.mk ?_ ?_);all_goals intros))|fail "")
        all_goals try (exfalso;simp only [ws] at *;omega)
        all_goals first
          | (exact endwA_)
          | skip
      · (repeat' first|(refine s_call (hb) (h:=?_))|(refine p_call (hb) (h:=?_))|(refine go_ ?_;((repeat' first|exact True.intro|refine Two.mk ?_ ?_);all_goals intros))|fail "")
        all_goals try (exfalso;simp only [ws] at *;omega)
        all_goals first
          | (refine ⟨(3:Int),?_,?_,?_⟩;rotate_left 2;(exact lessA_);(focus (decide));(focus (exact .inr (.inr (.inl ⟨rfl,by omega⟩)))))
          | skip
    · have ws:IntKind.i64.wrap (1 * 2 ^ min (8 * 3 - 1:Int).toNat IntKind.i64.bits)=8388608:=by decide
      have hb:=big_fn n 3 (by omega)
      have hbl:=bigB_length n 3
      have hw:=u64_of_nat n (by omega)
      by_cases hk:(n:Int) - d≤8388608
      · have e:cutK ((n:Int) - d)=3:=by unfold cutK;(repeat' split) <;> omega
        rw [e,if_neg (by omega)]
        (repeat' first|(refine s_call (hb) (h:=?_))|(refine p_call (hb) (h:=?_))|(refine go_ ?_;((repeat' first|exact True.intro|refine Two.mk ?_ ?_);all_goals intros))|fail "")
        all_goals try (exfalso;simp only [ws] at *;omega)
        all_goals first
          | (exact endwA_)
          | skip
      · (repeat' first|(refine s_call (hb) (h:=?_))|(refine p_call (hb) (h:=?_))|(refine go_ ?_;((repeat' first|exact True.intro|refine Two.mk ?_ ?_);all_goals intros))|fail "")
        all_goals try (exfalso;simp only [ws] at *;omega)
        all_goals first
          | (refine ⟨(4:Int),?_,?_,?_⟩;rotate_left 2;(exact lessA_);(focus (decide));(focus (exact .inr (.inr (.inr (.inl ⟨rfl,by omega⟩))))))
          | skip
    · have ws:IntKind.i64.wrap (1 * 2 ^ min (8 * 4 - 1:Int).toNat IntKind.i64.bits)=2147483648:=by decide
      have hb:=big_fn n 4 (by omega)
      have hbl:=bigB_length n 4
      have hw:=u64_of_nat n (by omega)
      by_cases hk:(n:Int) - d≤2147483648
      · have e:cutK ((n:Int) - d)=4:=by unfold cutK;(repeat' split) <;> omega
        rw [e,if_neg (by omega)]
        (repeat' first|(refine s_call (hb) (h:=?_))|(refine p_call (hb) (h:=?_))|(refine go_ ?_;((repeat' first|exact True.intro|refine Two.mk ?_ ?_);all_goals intros))|fail "")
        all_goals try (exfalso;simp only [ws] at *;omega)
        all_goals first
          | (exact endwA_)
          | skip
      · (repeat' first|(refine s_call (hb) (h:=?_))|(refine p_call (hb) (h:=?_))|(refine go_ ?_;((repeat' first|exact True.intro|refine Two.mk ?_ ?_);all_goals intros))|fail "")
        all_goals try (exfalso;simp only [ws] at *;omega)
        all_goals first
          | (refine ⟨(5:Int),?_,?_,?_⟩;rotate_left 2;(exact lessA_);(focus (decide));(focus (exact .inr (.inr (.inr (.inr (⟨rfl,by omega⟩)))))))
          | skip
    · have e:cutK ((n:Int) - d)=0:=by unfold cutK;(repeat' split) <;> omega
      rw [e,if_pos rfl]
      (repeat' first|(refine go_ ?_;((repeat' first|exact True.intro|refine Two.mk ?_ ?_);all_goals intros))|fail "")
      all_goals first
        | (exact endwA_)
        | skip
  · rw [if_pos c]
    unfold cutOk at c
    refine fn_of_run (by kernel_rfl) Tryz.func225 rfl (by kernel_rfl) ?_
    (repeat' first|(refine s_dec (h1) (ht:=?_) (hff:=?_) <;> intro _ <;> try (exfalso;omega))|(refine p_dec (h1) (ht:=?_) (hff:=?_) <;> intro _ <;> try (exfalso;omega))|(refine go_ ?_;((repeat' first|exact True.intro|refine Two.mk ?_ ?_);all_goals intros))|fail "")
    all_goals first
      | (exact endwA_)
      | (exfalso;omega)
      | skip
end Go.Proofs.YtendheafcbickaaGreat
