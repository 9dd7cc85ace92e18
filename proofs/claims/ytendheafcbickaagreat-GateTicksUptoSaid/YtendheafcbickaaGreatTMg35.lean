/-
  SEVERAL TEXTS IN ONE: each with its own comment.
-/
import Derived.Test.YtendheafcbickaaGreatTZip
import Derived.Test.YtendheafcbickaaGreatTGo
import Derived.Test.YtendheafcbickaaGreatTSndR
import Derived.Test.YtendheafcbickaaGreatTMg22
import Derived.Test.YtendheafcbickaaGreatTMg20
import Derived.Test.YtendheafcbickaaGreatTMg07
import Derived.Test.YtendheafcbickaaGreatTMg11
set_option linter.unusedVariables false
set_option linter.unusedSimpArgs false
set_option maxHeartbeats 16000000
namespace Go.Proofs.YtendheafcbickaaGreat
section
set_option maxRecDepth 100000
attribute [local irreducible] cq a8 bw GStep Fn cu bk cU
theorem Uo (s:dE) (room credit:Int) (hw:bR.hJ s) (hr:aF room) (hc:aF credit):Fn Tryz.prog 222 [.agg (fe s),.lit (.int .i64 room),.lit (.int .i64 credit)] (uh (jk s room credit)):=by
 have I:=CR s hw
 have av:=fun r a b=>HF s.cp r a b (by have:=hw.2.2.2.1;omega)
 clear hw
 unfold aF at hr hc
 unfold jk uh
 rcases su s with⟨af,bu⟩ | ⟨af,ra⟩
 ·rw[af] at I
  rw[if_neg (by omega)]
  clear af
  by_cases hq:0<=room/\room<=120/\0<=credit
  ·rw[if_neg (fun h=>h hq)]
   obtain ⟨⟨f1,f2,f3,f4,f5⟩,f6,f7,g1,g2,g3⟩:=zn bu hq
   clear bu
   refine aU ae Tryz.func222 rfl ae ?_
   (repeat' first|(refine ar (I) (h:=?_))|(refine au (I) (h:=?_))|(refine dM (cB _ _) (ht:=?_) (hff:=?_) <;> intro _ <;> try (exfalso;omega))|(refine dN (cB _ _) (ht:=?_) (hff:=?_) <;> intro _ <;> try (exfalso;omega))|(refine hB 6 ?_;((repeat' first|exact True.intro|refine R.mk ?_ ?_);all_goals intros))|fail "")
   generalize eG:jj s room=bJ at *
   generalize eH:iC s room credit=n at *
   refine fG (fun _:Unit=>⟨[(1,.lit (.int .i64 room)),(2,.lit (.int .i64 credit)),(3,.ptr 0 0 0 0),(6,.ptr 1 0 0 0),(7,.ptr 2 0 0 0),(11,.lit (.int .i64 s.Next)),(12,.lit (.int .i64 0))],[(0,some (.box 132 (fe s))),(1,some (.box 132 [.lit (.slice none 0 0),.lit (.bool false),.lit (.int .i64 0),.lit (.int .i64 0),.lit (.slice none 0 0),.lit (.slice none 0 0),.lit (.bool false),.lit (.bool false)])),(2,some (.box 111 [.lit (.int .i64 0),.lit (.int .i64 0),.lit (.int .i64 0),.lit (.bool false),.lit (.int .i64 0),.lit (.slice none 0 0),.lit (.slice none 0 0)]))],3,Tryz.f222.ntmps⟩) (fun _=>True) ?_ ?_
   ·(repeat' first|(refine ab ?_;((repeat' first|exact True.intro|refine R.mk ?_ ?_);all_goals intros))|fail "")
    all_goals first
     | (refine ⟨(),?_,?_⟩;rotate_left 1;(exact ax);(exact jt))
     | skip
   rintro _ _
   refine fG (fun x:Int×Int=>⟨[(3,.ptr 0 0 0 0),(6,.ptr 1 0 0 0),(7,.ptr 2 0 0 0),(11,.lit (.int .i64 x.1)),(12,.lit (.int .i64 x.2))],[(0,some (.box 132 (fe s))),(1,some (.box 132 [.lit (.slice none 0 0),.lit (.bool false),.lit (.int .i64 0),.lit (.int .i64 0),.lit (.slice none 0 0),.lit (.slice none 0 0),.lit (.bool false),.lit (.bool false)])),(2,some (.box 111 [.lit (.int .i64 0),.lit (.int .i64 0),.lit (.int .i64 0),.lit (.bool false),.lit (.int .i64 0),.lit (.slice none 0 0),.lit (.slice none 0 0)]))],3,Tryz.f222.ntmps⟩) (fun x=>x=(bJ,n)) ?_ ?_
   ·unfold jj at eG
    unfold iC at eH
    by_cases aw:0<s.cp.length
    ·by_cases p4:0<room
     ·rw[if_pos ⟨aw,p4⟩] at eG eH
      have:=f7 aw
      (repeat' first|(refine ab ?_;((repeat' first|exact True.intro|refine R.mk ?_ ?_);all_goals intros))|fail "")
      all_goals first
       | (refine ⟨((s.cp.getD 0 default).bs,min room ((s.cp.getD 0 default).br - (s.cp.getD 0 default).bs+1)),?_,?_⟩;rotate_left 1;(exact ax);(focus (exact Prod.ext eG eH)))
       | skip
     ·rw[if_neg (fun h=>p4 h.2)] at eG eH
      (repeat' first|refine bB (hq:=ui rfl rfl rfl rfl rfl) (h:=?_)|refine da (hq:=fun _=>ui rfl rfl rfl rfl rfl) (h:=?_)|(refine fc ?_;((repeat' first|exact True.intro|refine R.mk ?_ ?_);all_goals intros))|refine bB (h:=?_)|refine bB (hq:=eo rfl rfl rfl ew ey rfl rfl rfl rfl) (h:=?_)|refine da (h:=?_)|refine dJ (h:=?_)|refine ep (h:=?_)|refine ez (h:=?_)|refine eA (h:=?_)|refine eB (h:=?_)|refine eC (h:=?_)|refine eD (h:=?_)|((first|refine dS rfl ?_ (h:=?_)|refine dT rfl ?_ (h:=?_));(exact bP))|fail "")
      all_goals first
       | (refine ⟨(s.Next,min (min room credit) (min (s.Data.length - s.Next) (s.Max - s.Next))),?_,?_⟩;rotate_left 1;(exact ax);(focus (exact Prod.ext eG eH)))
       | skip
    ·rw[if_neg (fun h=>aw h.1)] at eG eH
     (repeat' first|refine bB (hq:=ui rfl rfl rfl rfl rfl) (h:=?_)|refine da (hq:=fun _=>ui rfl rfl rfl rfl rfl) (h:=?_)|(refine fc ?_;((repeat' first|exact True.intro|refine R.mk ?_ ?_);all_goals intros))|refine bB (h:=?_)|refine bB (hq:=eo rfl rfl rfl ew ey rfl rfl rfl rfl) (h:=?_)|refine da (h:=?_)|refine dJ (h:=?_)|refine ep (h:=?_)|refine ez (h:=?_)|refine eA (h:=?_)|refine eB (h:=?_)|refine eC (h:=?_)|refine eD (h:=?_)|((first|refine dS rfl ?_ (h:=?_)|refine dT rfl ?_ (h:=?_));(exact bP))|fail "")
     all_goals first
      | (refine ⟨(s.Next,min (min room credit) (min (s.Data.length - s.Next) (s.Max - s.Next))),?_,?_⟩;rotate_left 1;(exact ax);(focus (exact Prod.ext eG eH)))
      | skip
   rintro _ rfl
   dsimp only
   clear f7 eG eH I hr hc hq
   generalize iD:sD s bJ n=fin
   refine fG (fun b:Bool=>⟨[(3,.ptr 0 0 0 0),(6,.ptr 1 0 0 0),(7,.ptr 2 0 0 0),(11,.lit (.int .i64 bJ)),(12,.lit (.int .i64 n)),(13,.lit (.bool b))],[(0,some (.box 132 (fe s))),(1,some (.box 132 [.lit (.slice none 0 0),.lit (.bool false),.lit (.int .i64 0),.lit (.int .i64 0),.lit (.slice none 0 0),.lit (.slice none 0 0),.lit (.bool false),.lit (.bool false)])),(2,some (.box 111 [.lit (.int .i64 0),.lit (.int .i64 0),.lit (.int .i64 0),.lit (.bool false),.lit (.int .i64 0),.lit (.slice none 0 0),.lit (.slice none 0 0)]))],3,Tryz.f222.ntmps⟩) (fun b=>b=fin) ?_ ?_
   ·clear av
    unfold sD at iD
    obtain ⟨data,f0,next,kv,lost,dK,gg,hI⟩:=s
    dsimp only[fe] at *
    by_cases he:bJ+n=data.length
    ·rw[decide_eq_true he] at iD
     cases f0 <;> cases gg <;> cases hI <;> subst iD
     all_goals (repeat' first|(refine ab ?_;((repeat' first|exact True.intro|refine R.mk ?_ ?_);all_goals intros))|fail "")
     all_goals first
      | (refine ⟨true,?_,?_⟩;rotate_left 1;(exact ax);(focus (rfl)))
      | (refine ⟨false,?_,?_⟩;rotate_left 1;(exact ax);(focus (rfl)))
      | skip
    ·rw[decide_eq_false he] at iD
     cases f0 <;> cases gg <;> cases hI <;> subst iD
     all_goals (repeat' first|(refine ab ?_;((repeat' first|exact True.intro|refine R.mk ?_ ?_);all_goals intros))|fail "")
     all_goals first
      | (refine ⟨false,?_,?_⟩;rotate_left 1;(exact ax);(focus (rfl)))
      | skip
   rintro b rfl
   clear iD
   obtain ⟨bJ,rfl⟩:=Int.eq_ofNat_of_zero_le g1
   obtain ⟨n,rfl⟩:=Int.eq_ofNat_of_zero_le g2
   unfold vQ
   rw[Int.toNat_natCast,show((bJ:Int)+(n:Int)).toNat=bJ+n by omega]
   obtain ⟨data,f0,next,kv,lost,dK,gg,hI⟩:=s
   dsimp only[fe] at *
   by_cases hn:n=0
   ·subst hn
    clear av
    cases b
    ·rw[if_pos ⟨rfl,rfl⟩]
     (repeat' first|(refine ab ?_;((repeat' first|exact True.intro|refine R.mk ?_ ?_);all_goals intros))|fail "")
     all_goals first
      | (exact bD)
      | skip
    ·rw[if_neg (fun h=>by cases h.2),if_neg (by omega)]
     rw[show List.drop bJ (List.take (bJ+0) data)=([]:List UInt8) by simp]
     cases gg
     all_goals (repeat' first|(refine p5 (r:=([]:List UInt8)) (bJ) (bJ+0) ?_ ?_ ?_ ?_ ?_ (h:=?_);(exact cw);(exact cw);(focus omega);(focus omega);(exact e4))|(refine rb (r:=([]:List UInt8)) (bJ) (bJ+0) ?_ ?_ ?_ ?_ ?_ (h:=?_);(exact cw);(exact cw);(focus omega);(focus omega);(exact e4))|(refine rc (r:=([]:List UInt8)) (bJ) (bJ+0) ?_ ?_ ?_ ?_ ?_ (h:=?_);(exact cw);(exact cw);(focus omega);(focus omega);(exact e4))|(refine re (r:=([]:List UInt8)) (bJ) (bJ+0) ?_ ?_ ?_ ?_ ?_ (h:=?_);(exact cw);(exact cw);(focus omega);(focus omega);(exact e4))|(refine rf (r:=([]:List UInt8)) (bJ) (bJ+0) ?_ ?_ ?_ ?_ ?_ (h:=?_);(exact cw);(exact cw);(focus omega);(focus omega);(exact e4))|(refine rh (r:=([]:List UInt8)) (bJ) (bJ+0) ?_ ?_ ?_ ?_ ?_ (h:=?_);(exact cw);(exact cw);(focus omega);(focus omega);(exact e4))|(refine ab ?_;((repeat' first|exact True.intro|refine R.mk ?_ ?_);all_goals intros))|fail "")
     all_goals first
      | (exact bD)
      | skip
   ·have av:=av ⟨bJ,(bJ:Int)+n - 1⟩ f6 sN
    rw[if_neg (fun h=>hn (by omega)),if_pos (by omega)]
    generalize sF:List.drop bJ (List.take (bJ+n) data)=kz
    have zo:kz.length=n:=by rw[<- sF];simp;omega
    cases b <;> cases gg
    all_goals (repeat' first|(refine ar (av) (h:=?_))|(refine au (av) (h:=?_))|(refine p5 (r:=kz) (bJ) (bJ+n) ?_ ?_ ?_ ?_ ?_ (h:=?_);(exact cw);(exact cw);(focus omega);(focus omega);(exact e4))|(refine rb (r:=kz) (bJ) (bJ+n) ?_ ?_ ?_ ?_ ?_ (h:=?_);(exact cw);(exact cw);(focus omega);(focus omega);(exact e4))|(refine rc (r:=kz) (bJ) (bJ+n) ?_ ?_ ?_ ?_ ?_ (h:=?_);(exact cw);(exact cw);(focus omega);(focus omega);(exact e4))|(refine re (r:=kz) (bJ) (bJ+n) ?_ ?_ ?_ ?_ ?_ (h:=?_);(exact cw);(exact cw);(focus omega);(focus omega);(exact e4))|(refine rf (r:=kz) (bJ) (bJ+n) ?_ ?_ ?_ ?_ ?_ (h:=?_);(exact cw);(exact cw);(focus omega);(focus omega);(exact e4))|(refine rh (r:=kz) (bJ) (bJ+n) ?_ ?_ ?_ ?_ ?_ (h:=?_);(exact cw);(exact cw);(focus omega);(focus omega);(exact e4))|(refine ab ?_;((repeat' first|exact True.intro|refine R.mk ?_ ?_);all_goals intros))|fail "")
    all_goals first
     | (exact bD)
     | skip
  ·rw[if_pos hq]
   clear av bu
   refine aU ae Tryz.func222 rfl ae ?_
   (repeat' first|(refine ar (I) (h:=?_))|(refine au (I) (h:=?_))|(refine dM (cB _ _) (ht:=?_) (hff:=?_) <;> intro _ <;> try (exfalso;omega))|(refine dN (cB _ _) (ht:=?_) (hff:=?_) <;> intro _ <;> try (exfalso;omega))|(refine ab ?_;((repeat' first|exact True.intro|refine R.mk ?_ ?_);all_goals intros))|fail "")
   all_goals first
    | (exact bD)
    | skip
 ·rw[af] at I ⊢
  rw[if_pos (by decide)]
  clear av
  refine aU ae Tryz.func222 rfl ae ?_
  (repeat' first|(refine ar (I) (h:=?_))|(refine au (I) (h:=?_))|(refine ab ?_;((repeat' first|exact True.intro|refine R.mk ?_ ?_);all_goals intros))|fail "")
  all_goals first
   | (exact bD)
   | skip
theorem Jr {l:List aQ} (ap:ed (-2) l) {r:aQ} (hr:b9 r) {m:Nat} (h:l.length<=m):(e3 l r).length<=m+1:=by
 have:=uu hr ap
 omega
def sa:c8:=⟨0,[],0,[],[]⟩
noncomputable def XF (s:c8):c8×Int:=if hZ s≠0 then(sa,hZ s) else if s.Next=4611686018427387903 then(sa,8) else(⟨s.Next+1,s.az,s.dn,s.cg,(s.b7++[s.Next]).drop (s.b7.length+1 - 6)⟩,0)
noncomputable def jE (s:c8):c8×Int×Int:=if hZ s≠0 then(sa,0,hZ s) else if s.Next=4611686018427387903 then(sa,0,8) else(⟨s.Next+1,s.az,s.dn,s.cg,s.b7⟩,s.Next,0)
theorem IE (s:c8) (hw:eF s):Fn Tryz.prog 212 [.agg (gC s)] (.b0 [.agg (gC (jE s).1),.lit (.int .i64 (jE s).2.1),.lit (.int .i64 (jE s).2.2)]):=by
 have I:=vB s hw
 unfold jE
 rcases lF s with⟨af,aa⟩ | ⟨af,aa⟩
 ·rw[af] at I ⊢
  rw[if_neg (by omega)]
  have hh:=aa.1.1
  unfold gN at hh
  have J:=CQ s hw
  by_cases aK:s.Next=4611686018427387903
  ·rw[if_pos aK]
   refine aU ae Tryz.func212 rfl ae ?_
   (repeat' first|(refine ar (I) (h:=?_))|(refine au (I) (h:=?_))|(refine ab ?_;((repeat' first|exact True.intro|refine R.mk ?_ ?_);all_goals intros))|fail "")
   all_goals (exact bD)
  ·rw[if_neg aK]
   refine aU ae Tryz.func212 rfl ae ?_
   (repeat' first|(refine ar (I) (h:=?_))|(refine au (I) (h:=?_))|(refine eL [] (J) (h:=?_))|(refine eM [] (J) (h:=?_))|(refine kc (J) (h:=?_))|(refine ab ?_;((repeat' first|exact True.intro|refine R.mk ?_ ?_);all_goals intros))|fail "")
   all_goals (exact bD)
 ·rw[af] at I ⊢
  rw[if_pos (by omega)]
  refine aU ae Tryz.func212 rfl ae ?_
  (repeat' first|(refine ar (I) (h:=?_))|(refine au (I) (h:=?_))|(refine ab ?_;((repeat' first|exact True.intro|refine R.mk ?_ ?_);all_goals intros))|fail "")
  all_goals (exact bD)
theorem Up (s:c8) (hw:eF s):Fn Tryz.prog 281 [.agg (gC s)] (.b0 [.agg (gC (jE s).1),.lit (.int .i64 (jE s).2.1),.lit (.int .i64 (jE s).2.2)]):=by
 have I:=zi s hw
 unfold jE
 rcases lF s with⟨af,aa⟩ | ⟨af,aa⟩
 ·rw[af] at I ⊢
  rw[if_neg (by omega)]
  have hh:=aa.1.1
  unfold gN at hh
  by_cases aK:s.Next=4611686018427387903
  ·rw[if_pos aK]
   refine aU ae Tryz.func281 rfl ae ?_
   (repeat' first|(refine ar (I) (h:=?_))|(refine au (I) (h:=?_))|(refine ab ?_;((repeat' first|exact True.intro|refine R.mk ?_ ?_);all_goals intros))|fail "")
   all_goals (exact bD)
  ·rw[if_neg aK]
   refine aU ae Tryz.func281 rfl ae ?_
   (repeat' first|(refine ar (I) (h:=?_))|(refine au (I) (h:=?_))|(refine ab ?_;((repeat' first|exact True.intro|refine R.mk ?_ ?_);all_goals intros))|fail "")
   all_goals (exact bD)
 ·rw[af] at I ⊢
  rw[if_pos (by omega)]
  refine aU ae Tryz.func281 rfl ae ?_
  (repeat' first|(refine ar (I) (h:=?_))|(refine au (I) (h:=?_))|(refine ab ?_;((repeat' first|exact True.intro|refine R.mk ?_ ?_);all_goals intros))|fail "")
  all_goals (exact bD)
theorem DG (s:c8) (hw:eF s):eF (jE s).1:=by
 have bh:eF sa:=by unfold eF sa aF;simp
 unfold jE
 rcases lF s with⟨af,aa⟩ | ⟨af,aa⟩
 ·rw[af,if_neg (by omega)]
  split
  ·exact bh
  ·have hh:=aa.1.1
   unfold gN at hh
   exact⟨by unfold aF;dsimp only;omega,hw.2⟩
 ·rw[af,if_pos (by omega)];exact bh
def pG (now size:Int):Prop:=¬ (0<=now/\now<=1099511627776/\0<=size/\size<=400)
def sb (s:c8):Prop:=s.az.length=24\/s.Next=4611686018427387903
instance (now size:Int):Decidable (pG now size):=inferInstanceAs (Decidable (¬ _))
instance (s:c8):Decidable (sb s):=inferInstanceAs (Decidable (_\/_))
noncomputable def kC (s:c8) (now size:Int) (l:List bc):c8×Int×Int:=
 if hZ s≠0 then(⟨0,[],0,[],[]⟩,0,hZ s) else if pG now size then(⟨0,[],0,[],[]⟩,0,6) else if sb s then(⟨0,[],0,[],[]⟩,0,8)
 else(⟨s.Next+1,s.az++[⟨s.Next,now,size,l⟩],s.dn,s.cg,s.b7⟩,s.Next,0)
theorem Qp (s:c8) (now size:Int) (l:List bc) (hw:eF s) (aq:l.length * 88<=140737488351232) (hf:∀ y,y ∈ l->dC y):Fn Tryz.prog 211 [.agg (gC s),.lit (.int .i64 now),.lit (.int .i64 size),.ro (l.map aW)] (.b0 [.agg (gC (kC s now size l).1),.lit (.int .i64 (kC s now size l).2.1),.lit (.int .i64 (kC s now size l).2.2)]):=by
 have I:=vB s hw
 have av:=HG l hf aq
 unfold kC
 rcases lF s with⟨af,aa⟩ | ⟨af,aa⟩
 ·rw[af] at I ⊢
  rw[if_neg (by omega)]
  have hh:=aa.1.1
  unfold gN at hh
  have J:=CQ s hw
  by_cases aK:pG now size
  ·rw[if_pos aK]
   unfold pG at aK
   refine aU ae Tryz.func211 rfl ae ?_
   (repeat' first|(refine ar (I) (h:=?_))|(refine au (I) (h:=?_))|(refine ab ?_;((repeat' first|exact True.intro|refine R.mk ?_ ?_);all_goals intros))|fail "")
   all_goals (exact bD)
  ·rw[if_neg aK]
   unfold pG at aK
   by_cases aX:sb s
   ·rw[if_pos aX]
    unfold sb at aX
    refine aU ae Tryz.func211 rfl ae ?_
    (repeat' first|(refine ar (I) (h:=?_))|(refine au (I) (h:=?_))|(refine ab ?_;((repeat' first|exact True.intro|refine R.mk ?_ ?_);all_goals intros))|fail "")
    all_goals (exact bD)
   ·rw[if_neg aX]
    unfold sb at aX
    refine aU ae Tryz.func211 rfl ae ?_
    (repeat' first|(refine ar (I) (h:=?_))|(refine au (I) (h:=?_))|(refine ar (av) (h:=?_))|(refine au (av) (h:=?_))|(refine eL [] (J) (h:=?_))|(refine eM [] (J) (h:=?_))|(refine kc (J) (h:=?_))|(refine cx (r:=(s.az++[eN.mk s.Next now size l]).map bY) ?_ ?_ ?_ ?_ (h:=?_);(exact aM);(exact al);(exact an);(exact ao))|(refine cD (r:=(s.az++[eN.mk s.Next now size l]).map bY) ?_ ?_ ?_ ?_ (h:=?_);(exact aM);(exact al);(exact an);(exact ao))|(refine cE (r:=(s.az++[eN.mk s.Next now size l]).map bY) ?_ ?_ ?_ ?_ (h:=?_);(exact aM);(exact al);(exact an);(exact ao))|(refine cF (r:=(s.az++[eN.mk s.Next now size l]).map bY) ?_ ?_ ?_ ?_ (h:=?_);(exact aM);(exact al);(exact an);(exact ao))|(refine ab ?_;((repeat' first|exact True.intro|refine R.mk ?_ ?_);all_goals intros))|fail "")
    all_goals (exact bD)
 ·rw[af] at I ⊢
  rw[if_pos (by omega)]
  refine aU ae Tryz.func211 rfl ae ?_
  (repeat' first|(refine ar (I) (h:=?_))|(refine au (I) (h:=?_))|(refine ab ?_;((repeat' first|exact True.intro|refine R.mk ?_ ?_);all_goals intros))|fail "")
  all_goals (exact bD)
theorem Uq (s:c8) (now size:Int) (l:List bc) (hw:eF s):Fn Tryz.prog 224 [.agg (gC s),.lit (.int .i64 now),.lit (.int .i64 size),.ro (l.map aW)] (.b0 [.agg (gC (kC s now size l).1),.lit (.int .i64 (kC s now size l).2.1),.lit (.int .i64 (kC s now size l).2.2)]):=by
 have I:=zi s hw
 unfold kC
 rcases lF s with⟨af,aa⟩ | ⟨af,aa⟩
 ·rw[af] at I ⊢
  rw[if_neg (by omega)]
  have hh:=aa.1.1
  unfold gN at hh
  by_cases aK:pG now size
  ·rw[if_pos aK]
   unfold pG at aK
   refine aU ae Tryz.func224 rfl ae ?_
   (repeat' first|(refine ar (I) (h:=?_))|(refine au (I) (h:=?_))|(refine dM (cB _ _) (ht:=?_) (hff:=?_) <;> intro _ <;> try (exfalso;omega))|(refine dN (cB _ _) (ht:=?_) (hff:=?_) <;> intro _ <;> try (exfalso;omega))|(refine ab ?_;((repeat' first|exact True.intro|refine R.mk ?_ ?_);all_goals intros))|fail "")
   all_goals (exact bD)
  ·rw[if_neg aK]
   unfold pG at aK
   by_cases aX:sb s
   ·rw[if_pos aX]
    unfold sb at aX
    refine aU ae Tryz.func224 rfl ae ?_
    (repeat' first|(refine ar (I) (h:=?_))|(refine au (I) (h:=?_))|(refine dM (cB _ _) (ht:=?_) (hff:=?_) <;> intro _ <;> try (exfalso;omega))|(refine dN (cB _ _) (ht:=?_) (hff:=?_) <;> intro _ <;> try (exfalso;omega))|(refine ab ?_;((repeat' first|exact True.intro|refine R.mk ?_ ?_);all_goals intros))|fail "")
    all_goals (exact bD)
   ·rw[if_neg aX]
    unfold sb at aX
    refine aU ae Tryz.func224 rfl ae ?_
    (repeat' first|(refine ar (I) (h:=?_))|(refine au (I) (h:=?_))|(refine dM (cB _ _) (ht:=?_) (hff:=?_) <;> intro _ <;> try (exfalso;omega))|(refine dN (cB _ _) (ht:=?_) (hff:=?_) <;> intro _ <;> try (exfalso;omega))|(refine cx (r:=s.az.map bY) ?_ ?_ ?_ ?_ (h:=?_);(exact aM);(exact al);(exact an);(exact ao))|(refine cD (r:=s.az.map bY) ?_ ?_ ?_ ?_ (h:=?_);(exact aM);(exact al);(exact an);(exact ao))|(refine cE (r:=s.az.map bY) ?_ ?_ ?_ ?_ (h:=?_);(exact aM);(exact al);(exact an);(exact ao))|(refine cF (r:=s.az.map bY) ?_ ?_ ?_ ?_ (h:=?_);(exact aM);(exact al);(exact an);(exact ao))|(refine cx (r:=(s.az++[eN.mk s.Next now size l]).map bY) ?_ ?_ ?_ ?_ (h:=?_);(exact aM);(exact al);(exact an);(exact ao))|(refine cD (r:=(s.az++[eN.mk s.Next now size l]).map bY) ?_ ?_ ?_ ?_ (h:=?_);(exact aM);(exact al);(exact an);(exact ao))|(refine cE (r:=(s.az++[eN.mk s.Next now size l]).map bY) ?_ ?_ ?_ ?_ (h:=?_);(exact aM);(exact al);(exact an);(exact ao))|(refine cF (r:=(s.az++[eN.mk s.Next now size l]).map bY) ?_ ?_ ?_ ?_ (h:=?_);(exact aM);(exact al);(exact an);(exact ao))|(refine ab ?_;((repeat' first|exact True.intro|refine R.mk ?_ ?_);all_goals intros))|fail "")
    all_goals (exact bD)
 ·rw[af] at I ⊢
  rw[if_pos (by omega)]
  refine aU ae Tryz.func224 rfl ae ?_
  (repeat' first|(refine ar (I) (h:=?_))|(refine au (I) (h:=?_))|(refine ab ?_;((repeat' first|exact True.intro|refine R.mk ?_ ?_);all_goals intros))|fail "")
  all_goals (exact bD)
theorem Qq (s:c8) (now size:Int) (l:List bc) (hw:eF s) (aq:l.length * 88<=140737488351232) (hf:∀ y,y ∈ l->dC y):eF (kC s now size l).1:=by
 have bh:eF ⟨0,[],0,[],[]⟩:=by unfold eF aF;simp
 unfold kC
 rcases lF s with⟨af,aa⟩ | ⟨af,aa⟩
 ·rw[af,if_neg (by omega)]
  split
  ·exact bh
  ·rename_i aK
   split
   ·exact bh
   ·have hh:=aa.1.1
    unfold gN at hh
    unfold pG at aK
    refine ⟨by unfold aF;dsimp only;omega,by dsimp only;rw[List.length_append];simp;omega,fun y ai=>?_,hw.2.2.2⟩
    rcases List.mem_append.1 ai with h|h
    ·exact hw.2.2.1 y h
    ·rw[List.mem_singleton.1 h]
     exact⟨by unfold aF;dsimp only;omega,by unfold aF;dsimp only;omega,by unfold aF;dsimp only;omega,aq,hf⟩
 ·rw[af,if_pos (by omega)];exact bh
end
end Go.Proofs.YtendheafcbickaaGreat
