
import Derived.Test.YtendheafcbickaaGreatTZip
import Derived.Test.YtendheafcbickaaGreatTGo
import Derived.Test.YtendheafcbickaaGreatTMg22
import Derived.Test.YtendheafcbickaaGreatTAbsB
set_option linter.unusedVariables false
set_option linter.unusedSimpArgs false
set_option maxHeartbeats 16000000
namespace Go.Proofs.YtendheafcbickaaGreat
set_option maxRecDepth 100000
attribute [local irreducible] cq a8 bw GStep Fn cu bk cU
def CU:bc:=⟨0,0,0,false,0,[],[]⟩
def jj (s:dE) (room:Int):Int:=if 0<s.cp.length/\0<room then(s.cp.getD 0 default).bs else s.Next
def iC (s:dE) (room credit:Int):Int:=if 0<s.cp.length/\0<room then min room ((s.cp.getD 0 default).br - (s.cp.getD 0 default).bs+1) else min (min room credit) (min (s.Data.length - s.Next) (s.Max - s.Next))
def sD (s:dE) (bJ n:Int):Bool:=s.Fin && !s.lH && !s.Over && decide (bJ+n=s.Data.length)
def vQ (s:dE) (bJ n:Int) (fin:Bool):dE×bc×Bool×Int:=
 if n=0/\fin=false then(s,CU,false,0)
 else({ s with cp:=if 0<n then e3 s.cp ⟨bJ,bJ+n - 1⟩ else s.cp,Next:=max s.Next (bJ+n),lH:=s.lH || fin },⟨8,0,bJ,fin,0,[],(s.Data.take (bJ+n).toNat).drop bJ.toNat⟩,true,0)
noncomputable def jk (s:dE) (room credit:Int):dE×bc×Bool×Int:=
 if kM s≠0 then(p3,CU,false,kM s) else if ¬ (0<=room/\room<=120/\0<=credit) then(p3,CU,false,6)
 else vQ s (jj s room) (iC s room credit) (sD s (jj s room) (iC s room credit))
def uh (r:dE×bc×Bool×Int):V:=.b0 [.agg (fe r.1),.agg (aW r.2.1),.lit (.bool r.2.2.1),.lit (.int .i64 r.2.2.2)]
theorem zn {s:dE} (h:lI s) {room credit:Int} (hr:0<=room/\room<=120/\0<=credit) :
  (0<=s.Next/\s.Next<=s.Data.length/\s.Next<=s.Max/\s.Max<=4611686018427387903/\s.Data.length<=600)/\ed (-2) s.cp/\(0<s.cp.length->0<=(s.cp.getD 0 default).bs/\(s.cp.getD 0 default).bs<=(s.cp.getD 0 default).br/\(s.cp.getD 0 default).br<s.Next) /\
  0<=jj s room/\0<=iC s room credit/\jj s room+iC s room credit<=s.Data.length:=by
 have hh:=h.1.1.1
 have ap:=oy hh.2.2.2.2.2.1
 have aq:=(p1 ap).1 h.1.1.2
 have I:0<=s.Next/\s.Next<=s.Data.length/\s.Next<=s.Max/\s.Max<=4611686018427387903/\s.Data.length<=600:=by unfold nm at hh;omega
 have J:0<s.cp.length->0<=(s.cp.getD 0 default).bs/\(s.cp.getD 0 default).bs<=(s.cp.getD 0 default).br/\(s.cp.getD 0 default).br<s.Next:=fun aw=>by
  have hm:=cY aw
  have aj:=(ji ap _ hm).1
  have:=aq _ hm
  unfold b9 at aj
  omega
 refine ⟨I,ap,J,?_⟩
 unfold jj iC
 by_cases aw:0<s.cp.length/\0<room
 ·have:=J aw.1
  rw[if_pos aw,if_pos aw];omega
 ·rw[if_neg aw,if_neg aw];omega
theorem OL {l:List aQ} (ap:ed (-2) l) {bJ n:Int} (af:0<=bJ) (hn:0<n) (hm:bJ+n<=600):sE l ⟨bJ,bJ+n - 1⟩=(e3 l ⟨bJ,bJ+n - 1⟩,0):=by
 have aj:b9 ⟨bJ,bJ+n - 1⟩:=by unfold b9;dsimp only;omega
 have hf:gH l=0:=if_pos ap
 have e:ih l ⟨bJ,bJ+n - 1⟩=0:=by unfold ih;rw[hf,if_neg (by decide),if_pos aj]
 unfold sE
 rw[e,if_neg (by decide)]
theorem OM (s:dE) (room credit:Int) (hw:hJ s) (hr:aF room) (hc:aF credit):Fn Tryz.prog 276 [.agg (fe s),.lit (.int .i64 room),.lit (.int .i64 credit)] (uh (jk s room credit)):=by
 have I:=Cn s hw
 have J:=Hy s hw
 have av:=fun r=>Hz s.cp r hw.2.2.2.2.1 (by have:=hw.2.2.2.1;omega)
 clear hw
 unfold aF at hr hc
 unfold jk uh
 rcases su s with⟨af,bu⟩ | ⟨af,ra⟩
 ·rw[af] at I
  rw[if_neg (by omega)]
  clear af
  by_cases hq:0<=room/\room<=120/\0<=credit
  ·rw[if_neg (fun h=>h hq)]
   obtain ⟨⟨f1,f2,f3,f4,f5⟩,f6,f7,g1,g2,g3⟩:=zn bu hq
   clear bu
   refine aU ae Tryz.func276 rfl ae ?_
   (repeat' first|(refine ar (I) (h:=?_))|(refine au (I) (h:=?_))|(refine ar (J) (h:=?_))|(refine au (J) (h:=?_))|(refine hB 7 ?_;((repeat' first|exact True.intro|refine R.mk ?_ ?_);all_goals intros))|fail "")
   generalize eG:jj s room=bJ at *
   generalize eH:iC s room credit=n at *
   refine fG (fun x:Int×Int=>⟨[(1,.lit (.int .i64 room)),(2,.lit (.int .i64 credit)),(3,.ptr 0 0 0 0),(6,.ptr 1 0 0 0),(7,.ptr 2 0 0 0),(11,.lit (.int .i64 x.1)),(12,.lit (.int .i64 x.2))],[(0,some (.box 132 (fe s))),(1,some (.box 132 [.lit (.slice none 0 0),.lit (.bool false),.lit (.int .i64 0),.lit (.int .i64 0),.lit (.slice none 0 0),.lit (.slice none 0 0),.lit (.bool false),.lit (.bool false)])),(2,some (.box 111 [.lit (.int .i64 0),.lit (.int .i64 0),.lit (.int .i64 0),.lit (.bool false),.lit (.int .i64 0),.lit (.slice none 0 0),.lit (.slice none 0 0)]))],3,Tryz.f276.ntmps⟩) (fun x=>x=(s.Next,min (min (s.Data.length:Int) s.Max) (min (s.Next+room) (s.Next+min credit 120)))) ?_ ?_
   ·(repeat' first|refine bB (hq:=ui rfl rfl rfl rfl rfl) (h:=?_)|refine da (hq:=fun _=>ui rfl rfl rfl rfl rfl) (h:=?_)|(refine fc ?_;((repeat' first|exact True.intro|refine R.mk ?_ ?_);all_goals intros))|refine bB (h:=?_)|refine bB (hq:=eo rfl rfl rfl ew ey rfl rfl rfl rfl) (h:=?_)|refine da (h:=?_)|refine dJ (h:=?_)|refine ep (h:=?_)|refine ez (h:=?_)|refine eA (h:=?_)|refine eB (h:=?_)|refine eC (h:=?_)|refine eD (h:=?_)|((first|refine dS rfl ?_ (h:=?_)|refine dT rfl ?_ (h:=?_));(exact bP))|fail "")
    all_goals first
     | (refine ⟨(s.Next,min (min (s.Data.length:Int) s.Max) (min (s.Next+room) (s.Next+min credit 120))),?_,?_⟩;rotate_left 1;(exact ax);(focus (rfl)))
     | skip
   rintro _ rfl
   dsimp only
   refine fG (fun x:Int×Int=>⟨[(3,.ptr 0 0 0 0),(6,.ptr 1 0 0 0),(7,.ptr 2 0 0 0),(11,.lit (.int .i64 x.1)),(12,.lit (.int .i64 x.2))],[(0,some (.box 132 (fe s))),(1,some (.box 132 [.lit (.slice none 0 0),.lit (.bool false),.lit (.int .i64 0),.lit (.int .i64 0),.lit (.slice none 0 0),.lit (.slice none 0 0),.lit (.bool false),.lit (.bool false)])),(2,some (.box 111 [.lit (.int .i64 0),.lit (.int .i64 0),.lit (.int .i64 0),.lit (.bool false),.lit (.int .i64 0),.lit (.slice none 0 0),.lit (.slice none 0 0)]))],3,Tryz.f276.ntmps⟩) (fun x=>x=(bJ,bJ+n)) ?_ ?_
   ·unfold jj at eG
    unfold iC at eH
    by_cases aw:0<s.cp.length
    ·by_cases p4:0<room
     ·rw[if_pos ⟨aw,p4⟩] at eG eH
      have:=f7 aw
      (repeat' first|(refine ab ?_;((repeat' first|exact True.intro|refine R.mk ?_ ?_);all_goals intros))|fail "")
      all_goals first
       | (refine ⟨((s.cp.getD 0 default).bs,min ((s.cp.getD 0 default).br+1) ((s.cp.getD 0 default).bs+room)),?_,?_⟩;rotate_left 1;(exact ax);(focus (rw[eG];congr 1;omega)))
       | skip
     ·rw[if_neg (fun h=>p4 h.2)] at eG eH
      (repeat' first|(refine ab ?_;((repeat' first|exact True.intro|refine R.mk ?_ ?_);all_goals intros))|fail "")
      all_goals first
       | (refine ⟨(s.Next,min (min (s.Data.length:Int) s.Max) (min (s.Next+room) (s.Next+min credit 120))),?_,?_⟩;rotate_left 1;(exact ax);(focus (rw[eG];congr 1;omega)))
       | skip
    ·rw[if_neg (fun h=>aw h.1)] at eG eH
     (repeat' first|(refine ab ?_;((repeat' first|exact True.intro|refine R.mk ?_ ?_);all_goals intros))|fail "")
     all_goals first
      | (refine ⟨(s.Next,min (min (s.Data.length:Int) s.Max) (min (s.Next+room) (s.Next+min credit 120))),?_,?_⟩;rotate_left 1;(exact ax);(focus (rw[eG];congr 1;omega)))
      | skip
   rintro _ rfl
   dsimp only
   clear f7 eG eH I J hr hc hq
   generalize iD:sD s bJ n=fin
   refine fG (fun b:Bool=>⟨[(3,.ptr 0 0 0 0),(6,.ptr 1 0 0 0),(7,.ptr 2 0 0 0),(11,.lit (.int .i64 bJ)),(12,.lit (.int .i64 (bJ+n))),(13,.lit (.bool b))],[(0,some (.box 132 (fe s))),(1,some (.box 132 [.lit (.slice none 0 0),.lit (.bool false),.lit (.int .i64 0),.lit (.int .i64 0),.lit (.slice none 0 0),.lit (.slice none 0 0),.lit (.bool false),.lit (.bool false)])),(2,some (.box 111 [.lit (.int .i64 0),.lit (.int .i64 0),.lit (.int .i64 0),.lit (.bool false),.lit (.int .i64 0),.lit (.slice none 0 0),.lit (.slice none 0 0)]))],3,Tryz.f276.ntmps⟩) (fun b=>b=fin) ?_ ?_
   ·clear av
    unfold sD at iD
    obtain ⟨data,f0,next,kv,lost,dK,gg,hI⟩:=s
    dsimp only[fe] at *
    by_cases he:bJ+n=data.length
    ·rw[decide_eq_true he] at iD
     cases f0 <;> cases gg <;> cases hI <;> subst iD
     all_goals (repeat' first|(refine ab ?_;((repeat' first|exact True.intro|refine R.mk ?_ ?_);all_goals intros))|fail "")
     all_goals first
      | (refine ⟨true,?_,?_⟩;rotate_left 1;(exact ax);(focus (rfl)))
      | (refine ⟨false,?_,?_⟩;rotate_left 1;(exact ax);(focus (rfl)))
      | skip
    ·rw[decide_eq_false he] at iD
     cases f0 <;> cases gg <;> cases hI <;> subst iD
     all_goals (repeat' first|(refine ab ?_;((repeat' first|exact True.intro|refine R.mk ?_ ?_);all_goals intros))|fail "")
     all_goals first
      | (refine ⟨false,?_,?_⟩;rotate_left 1;(exact ax);(focus (rfl)))
      | skip
   rintro b rfl
   clear iD
   obtain ⟨bJ,rfl⟩:=Int.eq_ofNat_of_zero_le g1
   obtain ⟨n,rfl⟩:=Int.eq_ofNat_of_zero_le g2
   unfold vQ
   rw[Int.toNat_natCast,show((bJ:Int)+(n:Int)).toNat=bJ+n by omega]
   obtain ⟨data,f0,next,kv,lost,dK,gg,hI⟩:=s
   dsimp only[fe] at *
   by_cases hn:n=0
   ·subst hn
    clear av
    cases b
    ·rw[if_pos ⟨rfl,rfl⟩]
     (repeat' first|(refine ab ?_;((repeat' first|exact True.intro|refine R.mk ?_ ?_);all_goals intros))|fail "")
     all_goals first
      | (exact bD)
      | skip
    ·rw[if_neg (fun h=>by cases h.2),if_neg (by omega)]
     rw[show List.drop bJ (List.take (bJ+0) data)=([]:List UInt8) by simp]
     cases gg
     all_goals (repeat' first|(refine p5 (r:=([]:List UInt8)) (bJ) (bJ+0) ?_ ?_ ?_ ?_ ?_ (h:=?_);(exact cw);(exact cw);(focus omega);(focus omega);(exact e4))|(refine rb (r:=([]:List UInt8)) (bJ) (bJ+0) ?_ ?_ ?_ ?_ ?_ (h:=?_);(exact cw);(exact cw);(focus omega);(focus omega);(exact e4))|(refine rc (r:=([]:List UInt8)) (bJ) (bJ+0) ?_ ?_ ?_ ?_ ?_ (h:=?_);(exact cw);(exact cw);(focus omega);(focus omega);(exact e4))|(refine re (r:=([]:List UInt8)) (bJ) (bJ+0) ?_ ?_ ?_ ?_ ?_ (h:=?_);(exact cw);(exact cw);(focus omega);(focus omega);(exact e4))|(refine rf (r:=([]:List UInt8)) (bJ) (bJ+0) ?_ ?_ ?_ ?_ ?_ (h:=?_);(exact cw);(exact cw);(focus omega);(focus omega);(exact e4))|(refine rh (r:=([]:List UInt8)) (bJ) (bJ+0) ?_ ?_ ?_ ?_ ?_ (h:=?_);(exact cw);(exact cw);(focus omega);(focus omega);(exact e4))|(refine kO (r:=(([]:List UInt8)).map aC) ?_ ?_ ?_ ?_ (h:=?_);(exact ri);(exact al);(exact an);(exact ao))|(refine kP (r:=(([]:List UInt8)).map aC) ?_ ?_ ?_ ?_ (h:=?_);(exact ri);(exact al);(exact an);(exact ao))|(refine kQ (r:=(([]:List UInt8)).map aC) ?_ ?_ ?_ ?_ (h:=?_);(exact ri);(exact al);(exact an);(exact ao))|(refine kR (r:=(([]:List UInt8)).map aC) ?_ ?_ ?_ ?_ (h:=?_);(exact ri);(exact al);(exact an);(exact ao))|(refine ab ?_;((repeat' first|exact True.intro|refine R.mk ?_ ?_);all_goals intros))|fail "")
     all_goals first
      | (exact bD)
      | skip
   ·have av:=av ⟨bJ,(bJ:Int)+n - 1⟩
    rw[OL f6 (by omega) (by omega) (by omega)] at av
    rw[if_neg (fun h=>hn (by omega)),if_pos (by omega)]
    generalize sF:List.drop bJ (List.take (bJ+n) data)=kz
    have zo:kz.length=n:=by rw[<- sF];simp;omega
    cases b <;> cases gg
    all_goals (repeat' first|(refine ar (av) (h:=?_))|(refine au (av) (h:=?_))|(refine p5 (r:=kz) (bJ) (bJ+n) ?_ ?_ ?_ ?_ ?_ (h:=?_);(exact cw);(exact cw);(focus omega);(focus omega);(exact e4))|(refine rb (r:=kz) (bJ) (bJ+n) ?_ ?_ ?_ ?_ ?_ (h:=?_);(exact cw);(exact cw);(focus omega);(focus omega);(exact e4))|(refine rc (r:=kz) (bJ) (bJ+n) ?_ ?_ ?_ ?_ ?_ (h:=?_);(exact cw);(exact cw);(focus omega);(focus omega);(exact e4))|(refine re (r:=kz) (bJ) (bJ+n) ?_ ?_ ?_ ?_ ?_ (h:=?_);(exact cw);(exact cw);(focus omega);(focus omega);(exact e4))|(refine rf (r:=kz) (bJ) (bJ+n) ?_ ?_ ?_ ?_ ?_ (h:=?_);(exact cw);(exact cw);(focus omega);(focus omega);(exact e4))|(refine rh (r:=kz) (bJ) (bJ+n) ?_ ?_ ?_ ?_ ?_ (h:=?_);(exact cw);(exact cw);(focus omega);(focus omega);(exact e4))|(refine kO (r:=kz.map aC) ?_ ?_ ?_ ?_ (h:=?_);(exact ri);(exact al);(exact an);(exact ao))|(refine kP (r:=kz.map aC) ?_ ?_ ?_ ?_ (h:=?_);(exact ri);(exact al);(exact an);(exact ao))|(refine kQ (r:=kz.map aC) ?_ ?_ ?_ ?_ (h:=?_);(exact ri);(exact al);(exact an);(exact ao))|(refine kR (r:=kz.map aC) ?_ ?_ ?_ ?_ (h:=?_);(exact ri);(exact al);(exact an);(exact ao))|(refine ab ?_;((repeat' first|exact True.intro|refine R.mk ?_ ?_);all_goals intros))|fail "")
    all_goals first
     | (exact bD)
     | skip
  ·rw[if_pos hq]
   clear av bu
   refine aU ae Tryz.func276 rfl ae ?_
   (repeat' first|(refine ar (I) (h:=?_))|(refine au (I) (h:=?_))|(refine ab ?_;((repeat' first|exact True.intro|refine R.mk ?_ ?_);all_goals intros))|fail "")
   all_goals first
    | (exact bD)
    | skip
 ·rw[af] at I ⊢
  rw[if_pos (by decide)]
  clear av
  refine aU ae Tryz.func276 rfl ae ?_
  (repeat' first|(refine ar (I) (h:=?_))|(refine au (I) (h:=?_))|(refine ab ?_;((repeat' first|exact True.intro|refine R.mk ?_ ?_);all_goals intros))|fail "")
  all_goals first
   | (exact bD)
   | skip
end Go.Proofs.YtendheafcbickaaGreat
