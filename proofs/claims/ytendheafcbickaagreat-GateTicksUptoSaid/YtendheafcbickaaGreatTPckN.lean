
import Derived.Test.YtendheafcbickaaGreatTZip
import Derived.Test.YtendheafcbickaaGreatTGo
import Derived.Test.YtendheafcbickaaGreatTMg23
import Derived.Test.YtendheafcbickaaGreatTMg06
set_option linter.unusedVariables false
set_option linter.unusedSimpArgs false
set_option maxHeartbeats 16000000
namespace Go.Proofs.YtendheafcbickaaGreat
set_option maxRecDepth 100000
attribute [local irreducible] cq a8 bw GStep Fn cu bk cU
def sf (n d:Int):Prop:=0<=n/\n<=4611686018427387903 /\ -1<=d/\d<n
instance (n d:Int):Decidable (sf n d):=inferInstanceAs (Decidable (_/\_))
def jm (d:Int):Nat:=if d<=128 then 1 else if d<=32768 then 2 else if d<=8388608 then 3 else if d<=2147483648 then 4 else 0
def ma (n d:Int):List UInt8×Int:=if ¬ sf n d then([],6) else if jm (n - d)=0 then([],6) else(c5 n.toNat (jm (n - d)),0)
def ul (r:List UInt8×Int):V:=.b0 [.ro (r.1.map aC),.lit (.int .i64 r.2)]
theorem pd (n j:Nat) (ah:j<=3):[V.lit (.int .u8 (IntKind.u8.wrap ((n:Int).fdiv (2 ^ min (8 * (j:Int)).toNat IntKind.i64.bits))))]=aC (UInt8.ofNat (n / 256 ^ j)):=by
 have e:min (8 * (j:Int)).toNat IntKind.i64.bits=8 * j:=by
  have:IntKind.i64.bits=64:=rfl
  omega
 rw[e,tT,show(2:Nat) ^ (8 * j)=256 ^ j by rw[Nat.pow_mul]]
 unfold aC
 rw[IntKind.wrap_u8,UInt8.toNat_ofNat']
 rfl
theorem Pd (n d:Int):Fn Tryz.prog 213 [.lit (.int .i64 n),.lit (.int .i64 d)] (ul (ma n d)):=by
 unfold ma ul
 by_cases c:sf n d
 ·rw[if_neg (by simpa using c)]
  unfold sf at c
  obtain ⟨n,rfl⟩:=Int.eq_ofNat_of_zero_le c.1
  rw[Int.toNat_natCast]
  refine aU ae Tryz.func213 rfl ae ?_
  (repeat' first|(refine ab ?_;((repeat' first|exact True.intro|refine R.mk ?_ ?_);all_goals intros))|fail "")
  refine b2 (fun k:Int=>⟨[(0,.lit (.int .i64 n)),(1,.lit (.int .i64 d)),(6,.lit (.int .i64 k))],[],0,Tryz.f213.ntmps⟩)
   (fun k=>(k=1)\/(k=2/\128<n - d)\/(k=3/\32768<n - d)\/(k=4/\8388608<n - d)\/(k=5/\2147483648<n - d)) (fun k=>(5 - k).toNat) 1 (.inl rfl) du ?_
  rintro k (rfl | ⟨rfl,h⟩ | ⟨rfl,h⟩ | ⟨rfl,h⟩ | ⟨rfl,h⟩)
  ·have ws:IntKind.i64.wrap (1 * 2 ^ min (8 * 1 - 1:Int).toNat IntKind.i64.bits)=128:=by decide
   by_cases ag:(n:Int) - d<=128
   ·have e:jm ((n:Int) - d)=1:=by unfold jm;(repeat' split) <;> omega
    rw[e,if_neg (by omega)]
    (repeat' first|(refine ab ?_;((repeat' first|exact True.intro|refine R.mk ?_ ?_);all_goals intros))|fail "")
    all_goals try (exfalso;simp only[ws] at *;omega)
    refine b2 (fun x:Int×List UInt8=>⟨[(0,.lit (.int .i64 n)),(7,.own 0),(8,.lit (.int .i64 x.1))],[(0,some (.row 5 1 (x.2.map aC)))],1,Tryz.f213.ntmps⟩)
     (fun x=>x=(0,[])\/x=(-1,[UInt8.ofNat (n / 256 ^ 0)])) (fun x=>(x.1+1).toNat) (0,[]) (.inl rfl) ((ic (n:=0) (t:=7) 5 1 rfl rfl rfl).trans du) ?_
    rintro x (rfl|rfl)
    all_goals dsimp only
    ·(repeat' first|(refine cx (r:=[UInt8.ofNat (n / 256 ^ 0)].map aC) ?_ ?_ ?_ ?_ (h:=?_);(exact zY);(exact al);(exact an);(exact ao))|(refine cD (r:=[UInt8.ofNat (n / 256 ^ 0)].map aC) ?_ ?_ ?_ ?_ (h:=?_);(exact zY);(exact al);(exact an);(exact ao))|(refine cE (r:=[UInt8.ofNat (n / 256 ^ 0)].map aC) ?_ ?_ ?_ ?_ (h:=?_);(exact zY);(exact al);(exact an);(exact ao))|(refine cF (r:=[UInt8.ofNat (n / 256 ^ 0)].map aC) ?_ ?_ ?_ ?_ (h:=?_);(exact zY);(exact al);(exact an);(exact ao))|(refine ab ?_;((repeat' first|exact True.intro|refine R.mk ?_ ?_);all_goals intros))|fail "")
     all_goals first
      | (refine ⟨(-1,[UInt8.ofNat (n / 256 ^ 0)]),?_,?_,?_⟩;rotate_left 2;(exact ax);(exact bV);(focus (exact .inr (rfl))))
      | skip
    ·(repeat' first|(refine ab ?_;((repeat' first|exact True.intro|refine R.mk ?_ ?_);all_goals intros))|fail "")
     all_goals first
      | (exact bD)
      | skip
   ·(repeat' first|(refine ab ?_;((repeat' first|exact True.intro|refine R.mk ?_ ?_);all_goals intros))|fail "")
    all_goals try (exfalso;simp only[ws] at *;omega)
    all_goals first
     | (refine ⟨(2:Int),?_,?_,?_⟩;rotate_left 2;(exact ax);(focus (decide));(focus (exact .inr (.inl ⟨rfl,by omega⟩))))
     | skip
  ·have ws:IntKind.i64.wrap (1 * 2 ^ min (8 * 2 - 1:Int).toNat IntKind.i64.bits)=32768:=by decide
   by_cases ag:(n:Int) - d<=32768
   ·have e:jm ((n:Int) - d)=2:=by unfold jm;(repeat' split) <;> omega
    rw[e,if_neg (by omega)]
    (repeat' first|(refine ab ?_;((repeat' first|exact True.intro|refine R.mk ?_ ?_);all_goals intros))|fail "")
    all_goals try (exfalso;simp only[ws] at *;omega)
    refine b2 (fun x:Int×List UInt8=>⟨[(0,.lit (.int .i64 n)),(7,.own 0),(8,.lit (.int .i64 x.1))],[(0,some (.row 5 1 (x.2.map aC)))],1,Tryz.f213.ntmps⟩)
     (fun x=>x=(1,[])\/x=(0,[UInt8.ofNat (n / 256 ^ 1)])\/x=(-1,[UInt8.ofNat (n / 256 ^ 1),UInt8.ofNat (n / 256 ^ 0)])) (fun x=>(x.1+1).toNat) (1,[]) (.inl rfl) ((ic (n:=0) (t:=7) 5 1 rfl rfl rfl).trans du) ?_
    rintro x (rfl|rfl|rfl)
    all_goals dsimp only
    ·(repeat' first|(refine cx (r:=[UInt8.ofNat (n / 256 ^ 1)].map aC) ?_ ?_ ?_ ?_ (h:=?_);(exact zZ);(exact al);(exact an);(exact ao))|(refine cD (r:=[UInt8.ofNat (n / 256 ^ 1)].map aC) ?_ ?_ ?_ ?_ (h:=?_);(exact zZ);(exact al);(exact an);(exact ao))|(refine cE (r:=[UInt8.ofNat (n / 256 ^ 1)].map aC) ?_ ?_ ?_ ?_ (h:=?_);(exact zZ);(exact al);(exact an);(exact ao))|(refine cF (r:=[UInt8.ofNat (n / 256 ^ 1)].map aC) ?_ ?_ ?_ ?_ (h:=?_);(exact zZ);(exact al);(exact an);(exact ao))|(refine ab ?_;((repeat' first|exact True.intro|refine R.mk ?_ ?_);all_goals intros))|fail "")
     all_goals first
      | (refine ⟨(0,[UInt8.ofNat (n / 256 ^ 1)]),?_,?_,?_⟩;rotate_left 2;(exact ax);(exact bV);(focus (exact .inr (.inl rfl))))
      | skip
    ·(repeat' first|(refine cx (r:=[UInt8.ofNat (n / 256 ^ 1),UInt8.ofNat (n / 256 ^ 0)].map aC) ?_ ?_ ?_ ?_ (h:=?_);(exact zV);(exact al);(exact an);(exact ao))|(refine cD (r:=[UInt8.ofNat (n / 256 ^ 1),UInt8.ofNat (n / 256 ^ 0)].map aC) ?_ ?_ ?_ ?_ (h:=?_);(exact zV);(exact al);(exact an);(exact ao))|(refine cE (r:=[UInt8.ofNat (n / 256 ^ 1),UInt8.ofNat (n / 256 ^ 0)].map aC) ?_ ?_ ?_ ?_ (h:=?_);(exact zV);(exact al);(exact an);(exact ao))|(refine cF (r:=[UInt8.ofNat (n / 256 ^ 1),UInt8.ofNat (n / 256 ^ 0)].map aC) ?_ ?_ ?_ ?_ (h:=?_);(exact zV);(exact al);(exact an);(exact ao))|(refine ab ?_;((repeat' first|exact True.intro|refine R.mk ?_ ?_);all_goals intros))|fail "")
     all_goals first
      | (refine ⟨(-1,[UInt8.ofNat (n / 256 ^ 1),UInt8.ofNat (n / 256 ^ 0)]),?_,?_,?_⟩;rotate_left 2;(exact ax);(exact bV);(focus (exact .inr (.inr (rfl)))))
      | skip
    ·(repeat' first|(refine ab ?_;((repeat' first|exact True.intro|refine R.mk ?_ ?_);all_goals intros))|fail "")
     all_goals first
      | (exact bD)
      | skip
   ·(repeat' first|(refine ab ?_;((repeat' first|exact True.intro|refine R.mk ?_ ?_);all_goals intros))|fail "")
    all_goals try (exfalso;simp only[ws] at *;omega)
    all_goals first
     | (refine ⟨(3:Int),?_,?_,?_⟩;rotate_left 2;(exact ax);(focus (decide));(focus (exact .inr (.inr (.inl ⟨rfl,by omega⟩)))))
     | skip
  ·have ws:IntKind.i64.wrap (1 * 2 ^ min (8 * 3 - 1:Int).toNat IntKind.i64.bits)=8388608:=by decide
   by_cases ag:(n:Int) - d<=8388608
   ·have e:jm ((n:Int) - d)=3:=by unfold jm;(repeat' split) <;> omega
    rw[e,if_neg (by omega)]
    (repeat' first|(refine ab ?_;((repeat' first|exact True.intro|refine R.mk ?_ ?_);all_goals intros))|fail "")
    all_goals try (exfalso;simp only[ws] at *;omega)
    refine b2 (fun x:Int×List UInt8=>⟨[(0,.lit (.int .i64 n)),(7,.own 0),(8,.lit (.int .i64 x.1))],[(0,some (.row 5 1 (x.2.map aC)))],1,Tryz.f213.ntmps⟩)
     (fun x=>x=(2,[])\/x=(1,[UInt8.ofNat (n / 256 ^ 2)])\/x=(0,[UInt8.ofNat (n / 256 ^ 2),UInt8.ofNat (n / 256 ^ 1)])\/x=(-1,[UInt8.ofNat (n / 256 ^ 2),UInt8.ofNat (n / 256 ^ 1),UInt8.ofNat (n / 256 ^ 0)])) (fun x=>(x.1+1).toNat) (2,[]) (.inl rfl) ((ic (n:=0) (t:=7) 5 1 rfl rfl rfl).trans du) ?_
    rintro x (rfl|rfl|rfl|rfl)
    all_goals dsimp only
    ·(repeat' first|(refine cx (r:=[UInt8.ofNat (n / 256 ^ 2)].map aC) ?_ ?_ ?_ ?_ (h:=?_);(exact z1);(exact al);(exact an);(exact ao))|(refine cD (r:=[UInt8.ofNat (n / 256 ^ 2)].map aC) ?_ ?_ ?_ ?_ (h:=?_);(exact z1);(exact al);(exact an);(exact ao))|(refine cE (r:=[UInt8.ofNat (n / 256 ^ 2)].map aC) ?_ ?_ ?_ ?_ (h:=?_);(exact z1);(exact al);(exact an);(exact ao))|(refine cF (r:=[UInt8.ofNat (n / 256 ^ 2)].map aC) ?_ ?_ ?_ ?_ (h:=?_);(exact z1);(exact al);(exact an);(exact ao))|(refine ab ?_;((repeat' first|exact True.intro|refine R.mk ?_ ?_);all_goals intros))|fail "")
     all_goals first
      | (refine ⟨(1,[UInt8.ofNat (n / 256 ^ 2)]),?_,?_,?_⟩;rotate_left 2;(exact ax);(exact bV);(focus (exact .inr (.inl rfl))))
      | skip
    ·(repeat' first|(refine cx (r:=[UInt8.ofNat (n / 256 ^ 2),UInt8.ofNat (n / 256 ^ 1)].map aC) ?_ ?_ ?_ ?_ (h:=?_);(exact zW);(exact al);(exact an);(exact ao))|(refine cD (r:=[UInt8.ofNat (n / 256 ^ 2),UInt8.ofNat (n / 256 ^ 1)].map aC) ?_ ?_ ?_ ?_ (h:=?_);(exact zW);(exact al);(exact an);(exact ao))|(refine cE (r:=[UInt8.ofNat (n / 256 ^ 2),UInt8.ofNat (n / 256 ^ 1)].map aC) ?_ ?_ ?_ ?_ (h:=?_);(exact zW);(exact al);(exact an);(exact ao))|(refine cF (r:=[UInt8.ofNat (n / 256 ^ 2),UInt8.ofNat (n / 256 ^ 1)].map aC) ?_ ?_ ?_ ?_ (h:=?_);(exact zW);(exact al);(exact an);(exact ao))|(refine ab ?_;((repeat' first|exact True.intro|refine R.mk ?_ ?_);all_goals intros))|fail "")
     all_goals first
      | (refine ⟨(0,[UInt8.ofNat (n / 256 ^ 2),UInt8.ofNat (n / 256 ^ 1)]),?_,?_,?_⟩;rotate_left 2;(exact ax);(exact bV);(focus (exact .inr (.inr (.inl rfl)))))
      | skip
    ·(repeat' first|(refine cx (r:=[UInt8.ofNat (n / 256 ^ 2),UInt8.ofNat (n / 256 ^ 1),UInt8.ofNat (n / 256 ^ 0)].map aC) ?_ ?_ ?_ ?_ (h:=?_);(exact zT);(exact al);(exact an);(exact ao))|(refine cD (r:=[UInt8.ofNat (n / 256 ^ 2),UInt8.ofNat (n / 256 ^ 1),UInt8.ofNat (n / 256 ^ 0)].map aC) ?_ ?_ ?_ ?_ (h:=?_);(exact zT);(exact al);(exact an);(exact ao))|(refine cE (r:=[UInt8.ofNat (n / 256 ^ 2),UInt8.ofNat (n / 256 ^ 1),UInt8.ofNat (n / 256 ^ 0)].map aC) ?_ ?_ ?_ ?_ (h:=?_);(exact zT);(exact al);(exact an);(exact ao))|(refine cF (r:=[UInt8.ofNat (n / 256 ^ 2),UInt8.ofNat (n / 256 ^ 1),UInt8.ofNat (n / 256 ^ 0)].map aC) ?_ ?_ ?_ ?_ (h:=?_);(exact zT);(exact al);(exact an);(exact ao))|(refine ab ?_;((repeat' first|exact True.intro|refine R.mk ?_ ?_);all_goals intros))|fail "")
     all_goals first
      | (refine ⟨(-1,[UInt8.ofNat (n / 256 ^ 2),UInt8.ofNat (n / 256 ^ 1),UInt8.ofNat (n / 256 ^ 0)]),?_,?_,?_⟩;rotate_left 2;(exact ax);(exact bV);(focus (exact .inr (.inr (.inr (rfl))))))
      | skip
    ·(repeat' first|(refine ab ?_;((repeat' first|exact True.intro|refine R.mk ?_ ?_);all_goals intros))|fail "")
     all_goals first
      | (exact bD)
      | skip
   ·(repeat' first|(refine ab ?_;((repeat' first|exact True.intro|refine R.mk ?_ ?_);all_goals intros))|fail "")
    all_goals try (exfalso;simp only[ws] at *;omega)
    all_goals first
     | (refine ⟨(4:Int),?_,?_,?_⟩;rotate_left 2;(exact ax);(focus (decide));(focus (exact .inr (.inr (.inr (.inl ⟨rfl,by omega⟩))))))
     | skip
  ·have ws:IntKind.i64.wrap (1 * 2 ^ min (8 * 4 - 1:Int).toNat IntKind.i64.bits)=2147483648:=by decide
   by_cases ag:(n:Int) - d<=2147483648
   ·have e:jm ((n:Int) - d)=4:=by unfold jm;(repeat' split) <;> omega
    rw[e,if_neg (by omega)]
    (repeat' first|(refine ab ?_;((repeat' first|exact True.intro|refine R.mk ?_ ?_);all_goals intros))|fail "")
    all_goals try (exfalso;simp only[ws] at *;omega)
    refine b2 (fun x:Int×List UInt8=>⟨[(0,.lit (.int .i64 n)),(7,.own 0),(8,.lit (.int .i64 x.1))],[(0,some (.row 5 1 (x.2.map aC)))],1,Tryz.f213.ntmps⟩)
     (fun x=>x=(3,[])\/x=(2,[UInt8.ofNat (n / 256 ^ 3)])\/x=(1,[UInt8.ofNat (n / 256 ^ 3),UInt8.ofNat (n / 256 ^ 2)])\/x=(0,[UInt8.ofNat (n / 256 ^ 3),UInt8.ofNat (n / 256 ^ 2),UInt8.ofNat (n / 256 ^ 1)])\/x=(-1,[UInt8.ofNat (n / 256 ^ 3),UInt8.ofNat (n / 256 ^ 2),UInt8.ofNat (n / 256 ^ 1),UInt8.ofNat (n / 256 ^ 0)])) (fun x=>(x.1+1).toNat) (3,[]) (.inl rfl) ((ic (n:=0) (t:=7) 5 1 rfl rfl rfl).trans du) ?_
    rintro x (rfl|rfl|rfl|rfl|rfl)
    all_goals dsimp only
    ·(repeat' first|(refine cx (r:=[UInt8.ofNat (n / 256 ^ 3)].map aC) ?_ ?_ ?_ ?_ (h:=?_);(exact z6);(exact al);(exact an);(exact ao))|(refine cD (r:=[UInt8.ofNat (n / 256 ^ 3)].map aC) ?_ ?_ ?_ ?_ (h:=?_);(exact z6);(exact al);(exact an);(exact ao))|(refine cE (r:=[UInt8.ofNat (n / 256 ^ 3)].map aC) ?_ ?_ ?_ ?_ (h:=?_);(exact z6);(exact al);(exact an);(exact ao))|(refine cF (r:=[UInt8.ofNat (n / 256 ^ 3)].map aC) ?_ ?_ ?_ ?_ (h:=?_);(exact z6);(exact al);(exact an);(exact ao))|(refine ab ?_;((repeat' first|exact True.intro|refine R.mk ?_ ?_);all_goals intros))|fail "")
     all_goals first
      | (refine ⟨(2,[UInt8.ofNat (n / 256 ^ 3)]),?_,?_,?_⟩;rotate_left 2;(exact ax);(exact bV);(focus (exact .inr (.inl rfl))))
      | skip
    ·(repeat' first|(refine cx (r:=[UInt8.ofNat (n / 256 ^ 3),UInt8.ofNat (n / 256 ^ 2)].map aC) ?_ ?_ ?_ ?_ (h:=?_);(exact zX);(exact al);(exact an);(exact ao))|(refine cD (r:=[UInt8.ofNat (n / 256 ^ 3),UInt8.ofNat (n / 256 ^ 2)].map aC) ?_ ?_ ?_ ?_ (h:=?_);(exact zX);(exact al);(exact an);(exact ao))|(refine cE (r:=[UInt8.ofNat (n / 256 ^ 3),UInt8.ofNat (n / 256 ^ 2)].map aC) ?_ ?_ ?_ ?_ (h:=?_);(exact zX);(exact al);(exact an);(exact ao))|(refine cF (r:=[UInt8.ofNat (n / 256 ^ 3),UInt8.ofNat (n / 256 ^ 2)].map aC) ?_ ?_ ?_ ?_ (h:=?_);(exact zX);(exact al);(exact an);(exact ao))|(refine ab ?_;((repeat' first|exact True.intro|refine R.mk ?_ ?_);all_goals intros))|fail "")
     all_goals first
      | (refine ⟨(1,[UInt8.ofNat (n / 256 ^ 3),UInt8.ofNat (n / 256 ^ 2)]),?_,?_,?_⟩;rotate_left 2;(exact ax);(exact bV);(focus (exact .inr (.inr (.inl rfl)))))
      | skip
    ·(repeat' first|(refine cx (r:=[UInt8.ofNat (n / 256 ^ 3),UInt8.ofNat (n / 256 ^ 2),UInt8.ofNat (n / 256 ^ 1)].map aC) ?_ ?_ ?_ ?_ (h:=?_);(exact zU);(exact al);(exact an);(exact ao))|(refine cD (r:=[UInt8.ofNat (n / 256 ^ 3),UInt8.ofNat (n / 256 ^ 2),UInt8.ofNat (n / 256 ^ 1)].map aC) ?_ ?_ ?_ ?_ (h:=?_);(exact zU);(exact al);(exact an);(exact ao))|(refine cE (r:=[UInt8.ofNat (n / 256 ^ 3),UInt8.ofNat (n / 256 ^ 2),UInt8.ofNat (n / 256 ^ 1)].map aC) ?_ ?_ ?_ ?_ (h:=?_);(exact zU);(exact al);(exact an);(exact ao))|(refine cF (r:=[UInt8.ofNat (n / 256 ^ 3),UInt8.ofNat (n / 256 ^ 2),UInt8.ofNat (n / 256 ^ 1)].map aC) ?_ ?_ ?_ ?_ (h:=?_);(exact zU);(exact al);(exact an);(exact ao))|(refine ab ?_;((repeat' first|exact True.intro|refine R.mk ?_ ?_);all_goals intros))|fail "")
     all_goals first
      | (refine ⟨(0,[UInt8.ofNat (n / 256 ^ 3),UInt8.ofNat (n / 256 ^ 2),UInt8.ofNat (n / 256 ^ 1)]),?_,?_,?_⟩;rotate_left 2;(exact ax);(exact bV);(focus (exact .inr (.inr (.inr (.inl rfl))))))
      | skip
    ·(repeat' first|(refine cx (r:=[UInt8.ofNat (n / 256 ^ 3),UInt8.ofNat (n / 256 ^ 2),UInt8.ofNat (n / 256 ^ 1),UInt8.ofNat (n / 256 ^ 0)].map aC) ?_ ?_ ?_ ?_ (h:=?_);(exact zR);(exact al);(exact an);(exact ao))|(refine cD (r:=[UInt8.ofNat (n / 256 ^ 3),UInt8.ofNat (n / 256 ^ 2),UInt8.ofNat (n / 256 ^ 1),UInt8.ofNat (n / 256 ^ 0)].map aC) ?_ ?_ ?_ ?_ (h:=?_);(exact zR);(exact al);(exact an);(exact ao))|(refine cE (r:=[UInt8.ofNat (n / 256 ^ 3),UInt8.ofNat (n / 256 ^ 2),UInt8.ofNat (n / 256 ^ 1),UInt8.ofNat (n / 256 ^ 0)].map aC) ?_ ?_ ?_ ?_ (h:=?_);(exact zR);(exact al);(exact an);(exact ao))|(refine cF (r:=[UInt8.ofNat (n / 256 ^ 3),UInt8.ofNat (n / 256 ^ 2),UInt8.ofNat (n / 256 ^ 1),UInt8.ofNat (n / 256 ^ 0)].map aC) ?_ ?_ ?_ ?_ (h:=?_);(exact zR);(exact al);(exact an);(exact ao))|(refine ab ?_;((repeat' first|exact True.intro|refine R.mk ?_ ?_);all_goals intros))|fail "")
     all_goals first
      | (refine ⟨(-1,[UInt8.ofNat (n / 256 ^ 3),UInt8.ofNat (n / 256 ^ 2),UInt8.ofNat (n / 256 ^ 1),UInt8.ofNat (n / 256 ^ 0)]),?_,?_,?_⟩;rotate_left 2;(exact ax);(exact bV);(focus (exact .inr (.inr (.inr (.inr (rfl)))))))
      | skip
    ·(repeat' first|(refine ab ?_;((repeat' first|exact True.intro|refine R.mk ?_ ?_);all_goals intros))|fail "")
     all_goals first
      | (exact bD)
      | skip
   ·(repeat' first|(refine ab ?_;((repeat' first|exact True.intro|refine R.mk ?_ ?_);all_goals intros))|fail "")
    all_goals try (exfalso;simp only[ws] at *;omega)
    all_goals first
     | (refine ⟨(5:Int),?_,?_,?_⟩;rotate_left 2;(exact ax);(focus (decide));(focus (exact .inr (.inr (.inr (.inr (⟨rfl,by omega⟩)))))))
     | skip
  ·have e:jm ((n:Int) - d)=0:=by unfold jm;(repeat' split) <;> omega
   rw[e,if_pos rfl]
   (repeat' first|(refine ab ?_;((repeat' first|exact True.intro|refine R.mk ?_ ?_);all_goals intros))|fail "")
   all_goals first
    | (exact bD)
    | skip
 ·rw[if_pos c]
  unfold sf at c
  refine aU ae Tryz.func213 rfl ae ?_
  (repeat' first|(refine ab ?_;((repeat' first|exact True.intro|refine R.mk ?_ ?_);all_goals intros))|fail "")
  all_goals first
   | (exact bD)
   | (exfalso;omega)
   | skip
theorem BP (n:Nat) (h:n<18446744073709551616):IntKind.u64.wrap (n:Int)=(n:Int):=by rw[IntKind.wrap_u64];omega
theorem QE (n d:Int) (hn:aF n) (hd:aF d):Fn Tryz.prog 225 [.lit (.int .i64 n),.lit (.int .i64 d)] (ul (ma n d)):=by
 unfold aF at hn hd
 have I:=cB n 4611686018427387903
 unfold ma ul
 by_cases c:sf n d
 ·rw[if_neg (by simpa using c)]
  unfold sf at c
  obtain ⟨n,rfl⟩:=Int.eq_ofNat_of_zero_le c.1
  rw[Int.toNat_natCast]
  have hb:=fun k ag=>ql n k ag
  refine aU ae Tryz.func225 rfl ae ?_
  (repeat' first|(refine dM (I) (ht:=?_) (hff:=?_) <;> intro _ <;> try (exfalso;omega))|(refine dN (I) (ht:=?_) (hff:=?_) <;> intro _ <;> try (exfalso;omega))|(refine ab ?_;((repeat' first|exact True.intro|refine R.mk ?_ ?_);all_goals intros))|fail "")
  refine b2 (fun k:Int=>⟨[(0,.lit (.int .i64 n)),(1,.lit (.int .i64 d)),(6,.lit (.int .i64 k))],[],0,Tryz.f225.ntmps⟩)
   (fun k=>(k=1)\/(k=2/\128<n - d)\/(k=3/\32768<n - d)\/(k=4/\8388608<n - d)\/(k=5/\2147483648<n - d)) (fun k=>(5 - k).toNat) 1 (.inl rfl) du ?_
  rintro k (rfl | ⟨rfl,h⟩ | ⟨rfl,h⟩ | ⟨rfl,h⟩ | ⟨rfl,h⟩)
  ·have ws:IntKind.i64.wrap (1 * 2 ^ min (8 * 1 - 1:Int).toNat IntKind.i64.bits)=128:=by decide
   have hb:=ql n 1 (by omega)
   have iP:=iL n 1
   have hw:=BP n (by omega)
   by_cases ag:(n:Int) - d<=128
   ·have e:jm ((n:Int) - d)=1:=by unfold jm;(repeat' split) <;> omega
    rw[e,if_neg (by omega)]
    (repeat' first|(refine ar (hb) (h:=?_))|(refine au (hb) (h:=?_))|(refine ab ?_;((repeat' first|exact True.intro|refine R.mk ?_ ?_);all_goals intros))|fail "")
    all_goals try (exfalso;simp only[ws] at *;omega)
    all_goals first
     | (exact bD)
     | skip
   ·(repeat' first|(refine ar (hb) (h:=?_))|(refine au (hb) (h:=?_))|(refine ab ?_;((repeat' first|exact True.intro|refine R.mk ?_ ?_);all_goals intros))|fail "")
    all_goals try (exfalso;simp only[ws] at *;omega)
    all_goals first
     | (refine ⟨(2:Int),?_,?_,?_⟩;rotate_left 2;(exact ax);(focus (decide));(focus (exact .inr (.inl ⟨rfl,by omega⟩))))
     | skip
  ·have ws:IntKind.i64.wrap (1 * 2 ^ min (8 * 2 - 1:Int).toNat IntKind.i64.bits)=32768:=by decide
   have hb:=ql n 2 (by omega)
   have iP:=iL n 2
   have hw:=BP n (by omega)
   by_cases ag:(n:Int) - d<=32768
   ·have e:jm ((n:Int) - d)=2:=by unfold jm;(repeat' split) <;> omega
    rw[e,if_neg (by omega)]
    (repeat' first|(refine ar (hb) (h:=?_))|(refine au (hb) (h:=?_))|(refine ab ?_;((repeat' first|exact True.intro|refine R.mk ?_ ?_);all_goals intros))|fail "")
    all_goals try (exfalso;simp only[ws] at *;omega)
    all_goals first
     | (exact bD)
     | skip
   ·(repeat' first|(refine ar (hb) (h:=?_))|(refine au (hb) (h:=?_))|(refine ab ?_;((repeat' first|exact True.intro|refine R.mk ?_ ?_);all_goals intros))|fail "")
    all_goals try (exfalso;simp only[ws] at *;omega)
    all_goals first
     | (refine ⟨(3:Int),?_,?_,?_⟩;rotate_left 2;(exact ax);(focus (decide));(focus (exact .inr (.inr (.inl ⟨rfl,by omega⟩)))))
     | skip
  ·have ws:IntKind.i64.wrap (1 * 2 ^ min (8 * 3 - 1:Int).toNat IntKind.i64.bits)=8388608:=by decide
   have hb:=ql n 3 (by omega)
   have iP:=iL n 3
   have hw:=BP n (by omega)
   by_cases ag:(n:Int) - d<=8388608
   ·have e:jm ((n:Int) - d)=3:=by unfold jm;(repeat' split) <;> omega
    rw[e,if_neg (by omega)]
    (repeat' first|(refine ar (hb) (h:=?_))|(refine au (hb) (h:=?_))|(refine ab ?_;((repeat' first|exact True.intro|refine R.mk ?_ ?_);all_goals intros))|fail "")
    all_goals try (exfalso;simp only[ws] at *;omega)
    all_goals first
     | (exact bD)
     | skip
   ·(repeat' first|(refine ar (hb) (h:=?_))|(refine au (hb) (h:=?_))|(refine ab ?_;((repeat' first|exact True.intro|refine R.mk ?_ ?_);all_goals intros))|fail "")
    all_goals try (exfalso;simp only[ws] at *;omega)
    all_goals first
     | (refine ⟨(4:Int),?_,?_,?_⟩;rotate_left 2;(exact ax);(focus (decide));(focus (exact .inr (.inr (.inr (.inl ⟨rfl,by omega⟩))))))
     | skip
  ·have ws:IntKind.i64.wrap (1 * 2 ^ min (8 * 4 - 1:Int).toNat IntKind.i64.bits)=2147483648:=by decide
   have hb:=ql n 4 (by omega)
   have iP:=iL n 4
   have hw:=BP n (by omega)
   by_cases ag:(n:Int) - d<=2147483648
   ·have e:jm ((n:Int) - d)=4:=by unfold jm;(repeat' split) <;> omega
    rw[e,if_neg (by omega)]
    (repeat' first|(refine ar (hb) (h:=?_))|(refine au (hb) (h:=?_))|(refine ab ?_;((repeat' first|exact True.intro|refine R.mk ?_ ?_);all_goals intros))|fail "")
    all_goals try (exfalso;simp only[ws] at *;omega)
    all_goals first
     | (exact bD)
     | skip
   ·(repeat' first|(refine ar (hb) (h:=?_))|(refine au (hb) (h:=?_))|(refine ab ?_;((repeat' first|exact True.intro|refine R.mk ?_ ?_);all_goals intros))|fail "")
    all_goals try (exfalso;simp only[ws] at *;omega)
    all_goals first
     | (refine ⟨(5:Int),?_,?_,?_⟩;rotate_left 2;(exact ax);(focus (decide));(focus (exact .inr (.inr (.inr (.inr (⟨rfl,by omega⟩)))))))
     | skip
  ·have e:jm ((n:Int) - d)=0:=by unfold jm;(repeat' split) <;> omega
   rw[e,if_pos rfl]
   (repeat' first|(refine ab ?_;((repeat' first|exact True.intro|refine R.mk ?_ ?_);all_goals intros))|fail "")
   all_goals first
    | (exact bD)
    | skip
 ·rw[if_pos c]
  unfold sf at c
  refine aU ae Tryz.func225 rfl ae ?_
  (repeat' first|(refine dM (I) (ht:=?_) (hff:=?_) <;> intro _ <;> try (exfalso;omega))|(refine dN (I) (ht:=?_) (hff:=?_) <;> intro _ <;> try (exfalso;omega))|(refine ab ?_;((repeat' first|exact True.intro|refine R.mk ?_ ?_);all_goals intros))|fail "")
  all_goals first
   | (exact bD)
   | (exfalso;omega)
   | skip
end Go.Proofs.YtendheafcbickaaGreat
