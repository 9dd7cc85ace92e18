/-
  SEVERAL TEXTS IN ONE: each with its own comment.
-/
import Derived.Test.YtendheafcbickaaGreatTZip
import Derived.Test.YtendheafcbickaaGreatTGo
import Derived.Test.YtendheafcbickaaGreatTSortJ
import Derived.Test.YtendheafcbickaaGreatTAbsB
import Derived.Test.YtendheafcbickaaGreatTMg17
import Derived.Test.YtendheafcbickaaGreatTMg18
import Derived.Test.YtendheafcbickaaGreatTMg10
import Derived.Test.YtendheafcbickaaGreatTRgsCut
import Derived.Test.YtendheafcbickaaGreatTMg07
import Derived.Test.YtendheafcbickaaGreatTMg06
import Derived.Test.YtendheafcbickaaGreatProg
set_option linter.unusedVariables false
set_option linter.unusedSimpArgs false
set_option maxHeartbeats 16000000
namespace Go.Proofs.YtendheafcbickaaGreat
section
set_option maxRecDepth 100000
attribute [local irreducible] cq a8 bw GStep Fn cu bk cU
def nu (out:List aQ) (r:aQ):List aQ:=
 if out.length=0 then[r] else if r.bs<=(out.getD (out.length - 1) default).br+1 then out.set (out.length - 1) ⟨(out.getD (out.length - 1) default).bs,max (out.getD (out.length - 1) default).br r.br⟩ else out++[r]
def ki (m:List aQ):List aQ:=m.foldl nu []
theorem ON (d:List aQ) (c r:aQ):nu (d++[c]) r=if r.bs<=c.br+1 then d++[⟨c.bs,max c.br r.br⟩] else d++[c]++[r]:=by
 have I:(d++[c]).getD ((d++[c]).length - 1) default=c:=by simp[List.getD_eq_getElem?_getD]
 unfold nu
 rw[if_neg (by simp),I]
 split
 ·congr 1
  simp[List.set_append]
 ·rfl
theorem CV:∀ (m d:List aQ) (c:aQ),m.foldl nu (d++[c])=d++o5 c m
 | [],d,c=>rfl
 | r :: m,d,c=>by
  rw[List.foldl_cons,ON]
  unfold o5
  split
  ·exact CV m d _
  ·rw[CV m (d++[c]) r,List.append_assoc];rfl
theorem OO (m:List aQ):ki m=vR m:=by
 cases m with
 | nil=>rfl
 | cons x m=>
  have:=CV m [] x
  exact this
theorem OP {m:List aQ} {k:Nat} (h:k<m.length):ki (m.take (k+1))=nu (ki (m.take k)) (m.getD k default):=by
 unfold ki
 rw[hy h,List.foldl_append]
 rfl
theorem OQ {out:List aQ} {r:aQ} (aa:∀ x ∈ out,b9 x) (hr:b9 r):∀ x ∈ nu out r,b9 x:=by
 intro x U
 unfold nu at U
 split at U
 ·rw[List.mem_singleton] at U;subst U;exact hr
 ·split at U
  ·have I:(out.getD (out.length - 1) default) ∈ out:=cY (by omega)
   rcases List.mem_or_eq_of_mem_set U with h|h
   ·exact aa x h
   ·have:=aa _ I
    subst h
    unfold b9 at this hr ⊢
    dsimp only
    omega
  ·rcases List.mem_append.1 U with h|h
   ·exact aa x h
   ·rw[List.mem_singleton] at h;subst h;exact hr
theorem OR (out:List aQ) (r:aQ):(nu out r).length<=out.length+1:=by
 unfold nu
 split
 ·simp
 ·split <;> simp
theorem HA:∀ {m out:List aQ},(∀ x ∈ out,b9 x)->(∀ x ∈ m,b9 x) -> ∀ x ∈ m.foldl nu out,b9 x
 | [],out,aa,_=>aa
 | r :: m,out,aa,hm=>HA (m:=m) (OQ aa (hm r (List.mem_cons_self ..))) (fun x U=>hm x (List.mem_cons_of_mem _ U))
theorem HB:∀ (m out:List aQ),(m.foldl nu out).length<=out.length+m.length
 | [],out=>by simp
 | r :: m,out=>by
  have I:=HB m (nu out r)
  have J:=OR out r
  rw[List.foldl_cons,List.length_cons]
  omega
theorem OS {m:List aQ} (hm:∀ x ∈ m,b9 x):∀ x ∈ ki m,b9 x:=HA (fun x U=>by cases U) hm
theorem OT (m:List aQ):(ki m).length<=m.length:=by
 have:=HB m []
 simpa[ki] using this
theorem HC (out:List aQ) (i:Nat) (hi:i<out.length) (v:Int):(out.map aD).set i (setAt 1 [.lit (.int .i64 v)] (bH (out.map aD) i))=(out.set i ⟨(out.getD i default).bs,v⟩).map aD:=by
 rw[zp _ _ hi,List.map_set]
 rfl
theorem OU (l cN:List aQ) (aj:∀ x ∈ l,b9 x) (aq:l.length * 16<=140737488355328) (bn:ed (-2) cN) (eT:∀ n,gX cN n ↔ gX l n):Fn Tryz.prog 257 [.ro (l.map aD)] (.ro (cN.map aD)):=by
 have aw:∀ x ∈ l,0<=x.bs:=fun x U=>(aj x U).1
 refine aU ae Tryz.func257 rfl ae ?_
 (repeat' first|(refine cx (r:=l.map aD) ?_ ?_ ?_ ?_ (h:=?_);(exact aM);(exact al);(exact an);(exact ao))|(refine cD (r:=l.map aD) ?_ ?_ ?_ ?_ (h:=?_);(exact aM);(exact al);(exact an);(exact ao))|(refine cE (r:=l.map aD) ?_ ?_ ?_ ?_ (h:=?_);(exact aM);(exact al);(exact an);(exact ao))|(refine cF (r:=l.map aD) ?_ ?_ ?_ ?_ (h:=?_);(exact aM);(exact al);(exact an);(exact ao))|(refine ab ?_;((repeat' first|exact True.intro|refine R.mk ?_ ?_);all_goals intros))|fail "")
 refine OV l aw (by omega) (h:=?_)
 intro m hm qT ap
 have OW:ki m=cN:=by rw[OO];exact OX hm aj ap bn eT
 have HD:∀ x ∈ m,b9 x:=fun x U=>aj x ((hm x).1 U)
 clear hm ap bn eT aw aj
 (repeat' first|(refine ab ?_;((repeat' first|exact True.intro|refine R.mk ?_ ?_);all_goals intros))|fail "")
 refine b2 (fun k:Nat=>⟨[(14,.own 2),(15,.lit (.int .i64 m.length)),(16,.lit (.int .i64 k)),(3,.own 3)],[(2,some (.row 146 2 (m.map aD))),(3,some (.row 146 2 ((ki (m.take k)).map aD)))],4,Tryz.f257.ntmps⟩)
  (fun k=>k<=m.length) (fun k=>m.length - k) 0 (Nat.zero_le _) ((ic (n:=3) (t:=3) 146 2 rfl rfl rfl).trans du) ?_
 intro k ag
 by_cases aJ:k<m.length
 ·have U:=HD _ (cY aJ)
  have hT:=OS (m:=m.take k) (fun x U=>HD x (List.mem_of_mem_take U))
  have eG:=OT (m.take k)
  rw[List.length_take] at eG
  have o6:=OP aJ
  generalize ki (m.take k)=out at hT eG o6 ⊢
  unfold nu at o6
  unfold b9 at U
  by_cases aS:out.length=0
  ·rw[if_pos aS] at o6
   obtain rfl:=List.length_eq_zero_iff.1 aS
   (repeat' first|(refine cx (r:=(ki (m.take (k+1))).map aD) ?_ ?_ ?_ ?_ (h:=?_);(exact zq);(exact al);(exact an);(exact ao))|(refine cD (r:=(ki (m.take (k+1))).map aD) ?_ ?_ ?_ ?_ (h:=?_);(exact zq);(exact al);(exact an);(exact ao))|(refine cE (r:=(ki (m.take (k+1))).map aD) ?_ ?_ ?_ ?_ (h:=?_);(exact zq);(exact al);(exact an);(exact ao))|(refine cF (r:=(ki (m.take (k+1))).map aD) ?_ ?_ ?_ ?_ (h:=?_);(exact zq);(exact al);(exact an);(exact ao))|(refine ab ?_;((repeat' first|exact True.intro|refine R.mk ?_ ?_);all_goals intros))|fail "")
   all_goals (refine ⟨k+1,?_,?_,?_⟩;rotate_left 2;(exact ax);(exact bN);(exact gI))
  ·rw[if_neg aS] at o6
   have hc:=hT _ (cY (show out.length - 1<out.length by omega))
   unfold b9 at hc
   by_cases aK:(m.getD k default).bs<=(out.getD (out.length - 1) default).br+1
   ·rw[if_pos aK] at o6
    (repeat' first|(refine mG (r:=(ki (m.take (k+1))).map aD) ?_ ?_ (h:=?_);(exact hQ);(focus ((rw[o6];exact HC out (out.length - 1) (by omega) _))))|(refine mH (r:=(ki (m.take (k+1))).map aD) ?_ ?_ (h:=?_);(exact hQ);(focus ((rw[o6];exact HC out (out.length - 1) (by omega) _))))|(refine ab ?_;((repeat' first|exact True.intro|refine R.mk ?_ ?_);all_goals intros))|fail "")
    all_goals (refine ⟨k+1,?_,?_,?_⟩;rotate_left 2;(exact ax);(exact bN);(exact gI))
   ·rw[if_neg aK] at o6
    (repeat' first|(refine cx (r:=(ki (m.take (k+1))).map aD) ?_ ?_ ?_ ?_ (h:=?_);(exact zr);(exact al);(exact an);(exact ao))|(refine cD (r:=(ki (m.take (k+1))).map aD) ?_ ?_ ?_ ?_ (h:=?_);(exact zr);(exact al);(exact an);(exact ao))|(refine cE (r:=(ki (m.take (k+1))).map aD) ?_ ?_ ?_ ?_ (h:=?_);(exact zr);(exact al);(exact an);(exact ao))|(refine cF (r:=(ki (m.take (k+1))).map aD) ?_ ?_ ?_ ?_ (h:=?_);(exact zr);(exact al);(exact an);(exact ao))|(refine ab ?_;((repeat' first|exact True.intro|refine R.mk ?_ ?_);all_goals intros))|fail "")
    all_goals (refine ⟨k+1,?_,?_,?_⟩;rotate_left 2;(exact ax);(exact bN);(exact gI))
 ·(repeat' first|(refine ab ?_;((repeat' first|exact True.intro|refine R.mk ?_ ?_);all_goals intros))|fail "")
  all_goals (refine bt (hr:=?_);rw[List.take_of_length_le (by omega),OW])
def OY (s:dE) (off n:Int) (fin:Bool):dE:=
 { s with cp:=if 0<n then e3 s.cp ⟨off,off+n - 1⟩ else s.cp,dF:=if 0<n then hL s.dF ⟨off,off+n - 1⟩ else s.dF,lH:=s.lH && !fin,Over:=s.Over || fin }
noncomputable def CW (s:dE) (off n:Int) (fin:Bool):dE×Int:=if kS s off n fin≠0 then(p3,kS s off n fin) else(OY s off n fin,0)
def zs (s:dE) (off n:Int) (fin:Bool):dE:=
 { s with cp:=if 0<n then(jS s.dF ⟨off,off+n - 1⟩ s.dF.length).foldl hL s.cp else s.cp,lH:=s.lH && !fin }
noncomputable def ld (s:dE) (off n:Int) (fin:Bool):dE×Int:=if kS s off n fin≠0 then(p3,kS s off n fin) else(zs s off n fin,0)
def uj (r:dE×Int):V:=.b0 [.agg (fe r.1),.lit (.int .i64 r.2)]
theorem OZ {l:List aQ} {r:aQ} (ap:ed (-2) l) (hr:b9 r):vS l r=(hL l r,0):=by
 have h:ih l r=0:=by unfold ih gH;rw[if_pos ap,if_neg (by omega),if_pos hr]
 unfold vS;rw[h,if_neg (by omega)]
theorem O0 {l:List aQ} {r:aQ} (ap:ed (-2) l) (hr:b9 r):vT l r=(jS l r l.length,0):=by
 have h:ih l r=0:=by unfold ih gH;rw[if_pos ap,if_neg (by omega),if_pos hr]
 unfold vT;rw[h,if_neg (by omega)]
theorem vU:∀ (H:List aQ) {L:List aQ},ed (-2) L->(∀ x ∈ H,b9 x)->ed (-2) (H.foldl hL L)/\(∀ n,gX (H.foldl hL L) n ↔ gX (L++H) n)/\(H.foldl hL L).length<=L.length+H.length
 | [],L,dx,_=>⟨dx,fun n=>by rw[List.append_nil];rfl,by simp⟩
 | x :: H,L,dx,ak=>by
  have U:=ak x (List.mem_cons_self ..)
  have p6:=U
  unfold b9 at p6
  obtain ⟨I,J,av⟩:=vU H (CX dx U (by omega)) (fun y ai=>ak y (List.mem_cons_of_mem _ ai))
  have bl:=CY L x
  rw[List.foldl_cons]
  refine ⟨I,fun n=>?_,by rw[List.length_cons];omega⟩
  rw[J,HE,CZ p6.2.1 (fun y ai=>by have:=(ji dx y ai).1;unfold b9 at this;exact this.2.1),HE,mL,or_assoc]
theorem O1 {H L:List aQ} {k:Nat} (h:k<H.length):(H.take (k+1)).foldl hL L=hL ((H.take k).foldl hL L) (H.getD k default):=by
 rw[hy h,List.foldl_append];rfl
theorem C0 {s:dE} (h:lI s) {off n:Int} {fin:Bool} (aw:o7 s off n fin):ed (-2) s.cp/\ed (-2) s.dF/\(0<=off/\0<=n/\off+n<=600)/\(0<n->b9 ⟨off,off+n - 1⟩):=by
 have hh:=(ug s).1 h.1.1.1
 obtain ⟨⟨f1,f2,f3,f4,f5,f6,f7⟩,_,_⟩:=hh
 obtain ⟨⟨dD,c7,fb,iS⟩,_⟩:=aw
 exact⟨oy f6,oy f7,by omega,fun hn=>by unfold b9;dsimp only;omega⟩
theorem O2 (a:dE) (bj:a.cp.length * 16<=140737488351232) (hb:a.dF.length * 16<=140737488351232):Fn Tryz.prog 75 [.agg (fe a),.agg (fe a)] (.lit (.bool true)):=by
 have I:=zt a.cp a.cp (by omega) (by omega)
 have J:=zt a.dF a.dF (by omega) (by omega)
 have av:=uk a.Data a.Data
 rw[nh rfl] at I J av
 obtain ⟨data,f0,next,kv,lost,dK,gg,hI⟩:=a
 dsimp only[fe] at *
 cases f0 <;> cases gg <;> cases hI
 all_goals refine aU ae Tryz.func75 rfl ae ?_
 all_goals (repeat' first|(refine ar (I) (h:=?_))|(refine au (I) (h:=?_))|(refine ar (J) (h:=?_))|(refine au (J) (h:=?_))|(refine ar (av) (h:=?_))|(refine au (av) (h:=?_))|(refine ab ?_;((repeat' first|exact True.intro|refine R.mk ?_ ?_);all_goals intros))|fail "")
 all_goals first
  | exact bt (hr:=rfl)
  | skip
theorem C1 {s:dE} {off n:Int} {fin:Bool} (jl:kS s off n fin=0):lI s/\o7 s off n fin:=by
 rcases y0 s off n fin with⟨af,e⟩ | ⟨_,h,eO,_⟩ | ⟨af,bu,aw,e⟩
 ·omega
 ·exact⟨h,eO⟩
 ·omega
theorem O3 (s:dE) (off n:Int) (fin:Bool) (hw:hJ s) (hu:s.cp.length * 16<=4294967296/\s.dF.length * 16<=4294967296) (aa:aF off) (hn:aF n):Fn Tryz.prog 232 [.agg (fe s),.lit (.int .i64 off),.lit (.int .i64 n),.lit (.bool fin)] (uj (ld s off n fin)):=by
 have I:=O4 s off n fin hw aa hn
 have J:=Hy s hw
 have av:=fun r=>O5 s.dF r hw.2.2.2.2.2.2 (by omega)
 obtain ⟨cy,cR⟩:=hu
 clear hw
 unfold aF at aa hn
 unfold ld uj
 by_cases jl:kS s off n fin=0
 ·obtain ⟨bu,aw⟩:=C1 jl
  rw[jl,if_pos rfl] at I
  rw[jl,if_neg (by decide)]
  obtain ⟨aT,a1,bz,cW⟩:=C0 bu aw
  clear jl bu aw
  unfold zs
  by_cases hn0:0<n
  ·rw[if_pos hn0]
   have cW:=cW hn0
   have av:=av ⟨off,off+n - 1⟩
   rw[O0 a1 cW] at av
   obtain ⟨g1,g2⟩:=sG a1 cW s.dF.length (Nat.le_refl _)
   have g3:=fun x U=>(ji g1 x U).1
   generalize jS s.dF ⟨off,off+n - 1⟩ s.dF.length=H at *
   obtain ⟨data,f0,next,kv,lost,dK,gg,hI⟩:=s
   dsimp only[fe,aD] at *
   clear a1 cW g1
   refine aU ae Tryz.func232 rfl ae ?_
   (repeat' first|(refine ar (I) (h:=?_))|(refine au (I) (h:=?_))|(refine ar (J) (h:=?_))|(refine au (J) (h:=?_))|(refine ar (av) (h:=?_))|(refine au (av) (h:=?_))|(refine ab ?_;((repeat' first|exact True.intro|refine R.mk ?_ ?_);all_goals intros))|fail "")
   refine b2 (fun k:Nat=>⟨[(3,.lit (.bool fin)),(4,.ptr 0 0 0 0),(8,.ptr 1 0 0 0),(39,.ro (H.map aD)),(40,.lit (.int .i64 H.length)),(41,.lit (.int .i64 k))],[(0,some (.box 132 [.ro (data.map aC),.lit (.bool f0),.lit (.int .i64 next),.lit (.int .i64 kv),.ro (((H.take k).foldl hL lost).map aD),.ro (dK.map aD),.lit (.bool gg),.lit (.bool hI)])),(1,some (.box 132 [.lit (.slice none 0 0),.lit (.bool false),.lit (.int .i64 0),.lit (.int .i64 0),.lit (.slice none 0 0),.lit (.slice none 0 0),.lit (.bool false),.lit (.bool false)]))],2,Tryz.f232.ntmps⟩)
    (fun k=>k<=H.length) (fun k=>H.length - k) 0 (Nat.zero_le _) du ?_
   intro k ag
   by_cases aJ:k<H.length
   ·have U:=g3 _ (cY aJ)
    obtain ⟨aH,_,bS⟩:=vU (H.take k) aT (fun x U=>g3 x (List.mem_of_mem_take U))
    have b1:=O6 ((H.take k).foldl hL lost) (H.getD k default) (wf_set aH) (by rw[List.length_take] at bS;omega)
    rw[OZ aH U,<- O1 aJ] at b1
    dsimp only[aD] at b1
    clear I J av aH bS
    (repeat' first|(refine ar (b1) (h:=?_))|(refine au (b1) (h:=?_))|(refine ab ?_;((repeat' first|exact True.intro|refine R.mk ?_ ?_);all_goals intros))|fail "")
    all_goals first
     | (refine ⟨k+1,?_,?_,?_⟩;rotate_left 2;(exact ax);(exact bN);(exact gI))
     | skip
   ·have ct:k=H.length:=by omega
    subst ct
    rw[List.take_length]
    clear I J av
    cases fin <;> cases gg
    all_goals (repeat' first|(refine ab ?_;((repeat' first|exact True.intro|refine R.mk ?_ ?_);all_goals intros))|fail "")
    all_goals first
     | (exact bD)
     | skip
  ·rw[if_neg hn0]
   clear av cW
   obtain ⟨data,f0,next,kv,lost,dK,gg,hI⟩:=s
   dsimp only[fe,aD] at *
   clear aT a1
   cases fin <;> cases gg
   all_goals refine aU ae Tryz.func232 rfl ae ?_
   all_goals (repeat' first|(refine ar (I) (h:=?_))|(refine au (I) (h:=?_))|(refine ar (J) (h:=?_))|(refine au (J) (h:=?_))|(refine ab ?_;((repeat' first|exact True.intro|refine R.mk ?_ ?_);all_goals intros))|fail "")
   all_goals first
    | (exact bD)
    | skip
 ·rw[if_neg jl] at I
  rw[if_pos jl]
  clear J av
  generalize kS s off n fin=e at *
  refine aU ae Tryz.func232 rfl ae ?_
  (repeat' first|(refine ar (I) (h:=?_))|(refine au (I) (h:=?_))|(refine ab ?_;((repeat' first|exact True.intro|refine R.mk ?_ ?_);all_goals intros))|fail "")
  all_goals first
   | (exact bD)
   | skip
theorem O7 (s:dE) (off n:Int) (fin:Bool) (hw:bR.hJ s) (aa:aF off) (hn:aF n):Fn Tryz.prog 286 [.agg (fe s),.lit (.int .i64 off),.lit (.int .i64 n),.lit (.bool fin)] (uj (ld s off n fin)):=by
 have I:=O8 s off n fin hw aa hn
 have cy:=hw.2.2.2.1
 have cR:=hw.2.2.2.2.2.1
 clear hw
 unfold aF at aa hn
 unfold ld uj
 by_cases jl:kS s off n fin=0
 ·obtain ⟨bu,aw⟩:=C1 jl
  rw[jl] at I
  rw[jl,if_neg (by decide)]
  obtain ⟨aT,a1,bz,cW⟩:=C0 bu aw
  clear jl bu aw
  unfold zs
  by_cases hn0:0<n
  ·rw[if_pos hn0]
   have cW:=cW hn0
   obtain ⟨data,f0,next,kv,lost,dK,gg,hI⟩:=s
   dsimp only[fe] at *
   refine aU ae Tryz.func286 rfl ae ?_
   (repeat' first|(refine ar (I) (h:=?_))|(refine au (I) (h:=?_))|(refine ab ?_;((repeat' first|exact True.intro|refine R.mk ?_ ?_);all_goals intros))|fail "")
   refine b2 (fun k:Nat=>⟨[(3,.lit (.bool fin)),(4,.ptr 0 0 0 0),(8,.ptr 1 0 0 0),(11,.ro ((jS dK ⟨off,off+n - 1⟩ k).map aD)),(33,.ro (dK.map aD)),(34,.lit (.int .i64 dK.length)),(35,.lit (.int .i64 k))],[(0,some (.box 132 [.ro (data.map aC),.lit (.bool f0),.lit (.int .i64 next),.lit (.int .i64 kv),.ro (lost.map aD),.ro (dK.map aD),.lit (.bool gg),.lit (.bool hI)])),(1,some (.box 132 [.lit (.slice none 0 0),.lit (.bool false),.lit (.int .i64 0),.lit (.int .i64 0),.lit (.slice none 0 0),.lit (.slice none 0 0),.lit (.bool false),.lit (.bool false)]))],2,Tryz.f286.ntmps⟩)
    (fun k=>k<=dK.length) (fun k=>dK.length - k) 0 (Nat.zero_le _) du ?_
   intro k ag
   by_cases aJ:k<dK.length
   ·obtain ⟨U,_⟩:=ji a1 _ (cY aJ)
    obtain ⟨aH,aN⟩:=sG a1 cW k ag
    have b1:=HF (jS dK ⟨off,off+n - 1⟩ k) (dK.getD k default) aH U (by omega)
    rw[<- C2 aJ] at b1
    dsimp only[aD] at b1
    clear I aH aN
    (repeat' first|(refine ar (b1) (h:=?_))|(refine au (b1) (h:=?_))|(refine ab ?_;((repeat' first|exact True.intro|refine R.mk ?_ ?_);all_goals intros))|fail "")
    all_goals first
     | (refine ⟨k+1,?_,?_,?_⟩;rotate_left 2;(exact ax);(exact bN);(exact gI))
     | skip
   ·have ct:k=dK.length:=by omega
    subst ct
    obtain ⟨g1,g2⟩:=sG a1 cW dK.length (Nat.le_refl _)
    have g3:=fun x U=>(ji g1 x U).1
    obtain ⟨aH,aN,bS⟩:=vU (jS dK ⟨off,off+n - 1⟩ dK.length) aT g3
    have gh:=OU (lost++jS dK ⟨off,off+n - 1⟩ dK.length) _ (fun x U=>by
     rcases List.mem_append.1 U with h|h
     ·exact(ji aT x h).1
     ·exact g3 x h) (by rw[List.length_append];omega) aH aN
    generalize jS dK ⟨off,off+n - 1⟩ dK.length=H at *
    generalize H.foldl hL lost=cN at *
    clear I aH aN bS a1 cW aT g1 g3
    cases fin
    ·rw[Bool.not_false,Bool.and_true]
     (repeat' first|(refine ar (gh) (h:=?_))|(refine au (gh) (h:=?_))|(refine cx (r:=lost.map aD) ?_ ?_ ?_ ?_ (h:=?_);(exact aM);(exact al);(exact an);(exact ao))|(refine cD (r:=lost.map aD) ?_ ?_ ?_ ?_ (h:=?_);(exact aM);(exact al);(exact an);(exact ao))|(refine cE (r:=lost.map aD) ?_ ?_ ?_ ?_ (h:=?_);(exact aM);(exact al);(exact an);(exact ao))|(refine cF (r:=lost.map aD) ?_ ?_ ?_ ?_ (h:=?_);(exact aM);(exact al);(exact an);(exact ao))|(refine kO (r:=(lost++H).map aD) ?_ ?_ ?_ ?_ (h:=?_);(exact aM);(exact al);(exact an);(exact ao))|(refine kP (r:=(lost++H).map aD) ?_ ?_ ?_ ?_ (h:=?_);(exact aM);(exact al);(exact an);(exact ao))|(refine kQ (r:=(lost++H).map aD) ?_ ?_ ?_ ?_ (h:=?_);(exact aM);(exact al);(exact an);(exact ao))|(refine kR (r:=(lost++H).map aD) ?_ ?_ ?_ ?_ (h:=?_);(exact aM);(exact al);(exact an);(exact ao))|(refine ab ?_;((repeat' first|exact True.intro|refine R.mk ?_ ?_);all_goals intros))|fail "")
     all_goals first
      | (exact bD)
      | skip
    ·rw[Bool.not_true,Bool.and_false]
     (repeat' first|(refine ar (gh) (h:=?_))|(refine au (gh) (h:=?_))|(refine cx (r:=lost.map aD) ?_ ?_ ?_ ?_ (h:=?_);(exact aM);(exact al);(exact an);(exact ao))|(refine cD (r:=lost.map aD) ?_ ?_ ?_ ?_ (h:=?_);(exact aM);(exact al);(exact an);(exact ao))|(refine cE (r:=lost.map aD) ?_ ?_ ?_ ?_ (h:=?_);(exact aM);(exact al);(exact an);(exact ao))|(refine cF (r:=lost.map aD) ?_ ?_ ?_ ?_ (h:=?_);(exact aM);(exact al);(exact an);(exact ao))|(refine kO (r:=(lost++H).map aD) ?_ ?_ ?_ ?_ (h:=?_);(exact aM);(exact al);(exact an);(exact ao))|(refine kP (r:=(lost++H).map aD) ?_ ?_ ?_ ?_ (h:=?_);(exact aM);(exact al);(exact an);(exact ao))|(refine kQ (r:=(lost++H).map aD) ?_ ?_ ?_ ?_ (h:=?_);(exact aM);(exact al);(exact an);(exact ao))|(refine kR (r:=(lost++H).map aD) ?_ ?_ ?_ ?_ (h:=?_);(exact aM);(exact al);(exact an);(exact ao))|(refine ab ?_;((repeat' first|exact True.intro|refine R.mk ?_ ?_);all_goals intros))|fail "")
     all_goals first
      | (exact bD)
      | skip
  ·rw[if_neg hn0]
   clear cW
   obtain ⟨data,f0,next,kv,lost,dK,gg,hI⟩:=s
   dsimp only[fe,aD] at *
   clear aT a1
   cases fin
   ·rw[Bool.not_false,Bool.and_true]
    refine aU ae Tryz.func286 rfl ae ?_
    (repeat' first|(refine ar (I) (h:=?_))|(refine au (I) (h:=?_))|(refine ab ?_;((repeat' first|exact True.intro|refine R.mk ?_ ?_);all_goals intros))|fail "")
    all_goals first
     | (exact bD)
     | skip
   ·rw[Bool.not_true,Bool.and_false]
    refine aU ae Tryz.func286 rfl ae ?_
    (repeat' first|(refine ar (I) (h:=?_))|(refine au (I) (h:=?_))|(refine ab ?_;((repeat' first|exact True.intro|refine R.mk ?_ ?_);all_goals intros))|fail "")
    all_goals first
     | (exact bD)
     | skip
 ·rw[if_pos jl]
  generalize kS s off n fin=e at *
  refine aU ae Tryz.func286 rfl ae ?_
  (repeat' first|(refine ar (I) (h:=?_))|(refine au (I) (h:=?_))|(refine ab ?_;((repeat' first|exact True.intro|refine R.mk ?_ ?_);all_goals intros))|fail "")
  all_goals first
   | (exact bD)
   | skip
theorem HG (l:List bc) (hw:∀ y,y ∈ l->dC y) (aq:l.length * 88<=140737488351232):Fn Tryz.prog 239 [.ro (l.map aW)] (.ro (l.map aW)):=by
 refine aU ae Tryz.func239 rfl ae ?_
 (repeat' first|(refine ab ?_;((repeat' first|exact True.intro|refine R.mk ?_ ?_);all_goals intros))|fail "")
 refine b2 (fun k:Nat=>⟨[(6,.ro (l.map aW)),(7,.lit (.int .i64 l.length)),(8,.lit (.int .i64 k)),(3,.own 0)],[(0,some (.row 111 7 ((l.take k).map aW)))],1,Tryz.f239.ntmps⟩)
  (fun k=>k<=l.length) (fun k=>l.length - k) 0 (Nat.zero_le _) ((ic (n:=0) (t:=3) 111 7 rfl rfl rfl).trans du) ?_
 intro k ag
 by_cases aJ:k<l.length
 ·have hf:=hw _ (cY aJ)
  have hr:=hf.2.2.2.2.1
  have hd:=hf.2.2.2.2.2.2
  (repeat' first|(refine cx (r:=(l.take (k+1)).map aW) ?_ ?_ ?_ ?_ (h:=?_);(exact aM);(exact al);(exact an);(exact ao))|(refine cD (r:=(l.take (k+1)).map aW) ?_ ?_ ?_ ?_ (h:=?_);(exact aM);(exact al);(exact an);(exact ao))|(refine cE (r:=(l.take (k+1)).map aW) ?_ ?_ ?_ ?_ (h:=?_);(exact aM);(exact al);(exact an);(exact ao))|(refine cF (r:=(l.take (k+1)).map aW) ?_ ?_ ?_ ?_ (h:=?_);(exact aM);(exact al);(exact an);(exact ao))|(refine kO (r:=(l.getD k default).bi.map aD) ?_ ?_ ?_ ?_ (h:=?_);(exact aM);(exact al);(exact an);(exact ao))|(refine kP (r:=(l.getD k default).bi.map aD) ?_ ?_ ?_ ?_ (h:=?_);(exact aM);(exact al);(exact an);(exact ao))|(refine kQ (r:=(l.getD k default).bi.map aD) ?_ ?_ ?_ ?_ (h:=?_);(exact aM);(exact al);(exact an);(exact ao))|(refine kR (r:=(l.getD k default).bi.map aD) ?_ ?_ ?_ ?_ (h:=?_);(exact aM);(exact al);(exact an);(exact ao))|(refine kO (r:=(l.getD k default).Data.map aC) ?_ ?_ ?_ ?_ (h:=?_);(exact aM);(exact al);(exact an);(exact ao))|(refine kP (r:=(l.getD k default).Data.map aC) ?_ ?_ ?_ ?_ (h:=?_);(exact aM);(exact al);(exact an);(exact ao))|(refine kQ (r:=(l.getD k default).Data.map aC) ?_ ?_ ?_ ?_ (h:=?_);(exact aM);(exact al);(exact an);(exact ao))|(refine kR (r:=(l.getD k default).Data.map aC) ?_ ?_ ?_ ?_ (h:=?_);(exact aM);(exact al);(exact an);(exact ao))|(refine ab ?_;((repeat' first|exact True.intro|refine R.mk ?_ ?_);all_goals intros))|fail "")
  all_goals (refine ⟨k+1,?_,?_,?_⟩;rotate_left 2;(exact ax);(exact bN);(exact gI))
 ·(repeat' first|(refine ab ?_;((repeat' first|exact True.intro|refine R.mk ?_ ?_);all_goals intros))|fail "")
  all_goals (refine bt (hr:=?_);rw[List.take_of_length_le (by omega)])
theorem CQ (s:c8) (hw:eF s) :
  cU Tryz.prog 127 [.agg (gC s)] [] 0 (.agg [.lit (.int .i64 s.Next),.own 0,.lit (.int .i64 s.dn),.own 1,.own 2]) [(0,some (.row 198 4 (s.az.map bY))),(1,some (.row 146 2 (s.cg.map aD))),(2,some (.row 3 1 (s.b7.map encI)))] 3:=by
 have aq:=hw.2.1
 have kh:=hw.2.2.2.2.1
 have l8:=hw.2.2.2.2.2.2.1
 refine gG ae Tryz.func127 rfl ae (by rfl) ?_
 (repeat' first|(refine ab ?_;((repeat' first|exact True.intro|refine R.mk ?_ ?_);all_goals intros))|fail "")
 refine b2 (fun k:Nat=>⟨[(1,.ptr 0 0 0 0),(2,.ptr 1 0 0 0),(7,.ro (s.az.map bY)),(8,.lit (.int .i64 s.az.length)),(9,.lit (.int .i64 k)),(3,.own 2)],[(0,some (.box 43 (gC s))),(1,some (.box 43 [.lit (.int .i64 0),.lit (.slice none 0 0),.lit (.int .i64 0),.lit (.slice none 0 0),.lit (.slice none 0 0)])),(2,some (.row 198 4 ((s.az.take k).map bY)))],3,Tryz.f127.ntmps⟩)
  (fun k=>k<=s.az.length) (fun k=>s.az.length - k) 0 (Nat.zero_le _) ((ic (n:=2) (t:=3) 198 4 rfl rfl rfl).trans du) ?_
 intro k ag
 by_cases aJ:k<s.az.length
 ·have hf:=hw.2.2.1 _ (cY aJ)
  have I:=HG (s.az.getD k default).Frames hf.2.2.2.2 hf.2.2.2.1
  (repeat' first|(refine ar (I) (h:=?_))|(refine au (I) (h:=?_))|(refine cx (r:=(s.az.take (k+1)).map bY) ?_ ?_ ?_ ?_ (h:=?_);(exact aM);(exact al);(exact an);(exact ao))|(refine cD (r:=(s.az.take (k+1)).map bY) ?_ ?_ ?_ ?_ (h:=?_);(exact aM);(exact al);(exact an);(exact ao))|(refine cE (r:=(s.az.take (k+1)).map bY) ?_ ?_ ?_ ?_ (h:=?_);(exact aM);(exact al);(exact an);(exact ao))|(refine cF (r:=(s.az.take (k+1)).map bY) ?_ ?_ ?_ ?_ (h:=?_);(exact aM);(exact al);(exact an);(exact ao))|(refine ab ?_;((repeat' first|exact True.intro|refine R.mk ?_ ?_);all_goals intros))|fail "")
  all_goals (refine ⟨k+1,?_,?_,?_⟩;rotate_left 2;(exact ax);(exact bN);(exact gI))
 ·have ct:k=s.az.length:=by omega
  subst ct
  rw[List.take_length]
  (repeat' first|(refine cx (r:=s.cg.map aD) ?_ ?_ ?_ ?_ (h:=?_);(exact aM);(exact al);(exact an);(exact ao))|(refine cD (r:=s.cg.map aD) ?_ ?_ ?_ ?_ (h:=?_);(exact aM);(exact al);(exact an);(exact ao))|(refine cE (r:=s.cg.map aD) ?_ ?_ ?_ ?_ (h:=?_);(exact aM);(exact al);(exact an);(exact ao))|(refine cF (r:=s.cg.map aD) ?_ ?_ ?_ ?_ (h:=?_);(exact aM);(exact al);(exact an);(exact ao))|(refine cx (r:=s.b7.map encI) ?_ ?_ ?_ ?_ (h:=?_);(exact aM);(exact al);(exact an);(exact ao))|(refine cD (r:=s.b7.map encI) ?_ ?_ ?_ ?_ (h:=?_);(exact aM);(exact al);(exact an);(exact ao))|(refine cE (r:=s.b7.map encI) ?_ ?_ ?_ ?_ (h:=?_);(exact aM);(exact al);(exact an);(exact ao))|(refine cF (r:=s.b7.map encI) ?_ ?_ ?_ ?_ (h:=?_);(exact aM);(exact al);(exact an);(exact ao))|(refine ab ?_;((repeat' first|exact True.intro|refine R.mk ?_ ?_);all_goals intros))|fail "")
  all_goals (exact fg)
end
end Go.Proofs.YtendheafcbickaaGreat
