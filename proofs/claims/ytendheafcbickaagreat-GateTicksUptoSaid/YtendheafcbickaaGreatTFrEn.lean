
import Derived.Test.YtendheafcbickaaGreatTZip
import Derived.Test.YtendheafcbickaaGreatTGo
import Derived.Test.YtendheafcbickaaGreatTMg10
import Derived.Test.YtendheafcbickaaGreatTMg28
set_option linter.unusedVariables false
set_option linter.unusedSimpArgs false
set_option maxHeartbeats 16000000
namespace Go.Proofs.YtendheafcbickaaGreat
set_option maxRecDepth 100000
attribute [local irreducible] cq a8 bw GStep Fn cu bk cU
def oZ (f:bc):List UInt8:=if f.Kind=8 then(if f.Fin=true then[15] else[14]) else cM f.Kind.toNat
def pK (l:List aQ) (k:Nat):List UInt8:=
 if k=0 then cM (l.getD 0 default).br.toNat++cM ((l.length:Int) - 1).toNat++cM ((l.getD 0 default).br - (l.getD 0 default).bs).toNat
 else cM ((l.getD (k - 1) default).bs - (l.getD k default).br - 2).toNat++cM ((l.getD k default).br - (l.getD k default).bs).toNat
def hz (l:List aQ):Nat->List UInt8
 | 0=>[]
 | k+1=>hz l k++pK l k
def iM (b:Bool) (l:List UInt8):List UInt8:=if b=true then l else[]
def nN (w c:Bool) (n:Int):List UInt8:=if w=true then c5 n.toNat 8 else iM c (cM n.toNat)
def ib (f:bc):List UInt8:=oZ f++hz f.bi f.bi.length++iM (c6 (hasB f.Kind) 105) (cM f.Id.toNat)++iM (c6 (hasB f.Kind) 111) (cM f.bI.toNat)++nN (c6 (hasB f.Kind) 119) (c6 (hasB f.Kind) 99) f.Code++iM (c6 (hasB f.Kind) 100) (cM f.Data.length++f.Data)
theorem NB (l:List aQ) (k:Nat):(pK l k).length<=24:=by
 unfold pK
 split
 ·rw[List.length_append,List.length_append]
  have:=hj (l.getD 0 default).br.toNat
  have:=hj ((l.length:Int) - 1).toNat
  have:=hj ((l.getD 0 default).br - (l.getD 0 default).bs).toNat
  omega
 ·rw[List.length_append]
  have:=hj ((l.getD (k - 1) default).bs - (l.getD k default).br - 2).toNat
  have:=hj ((l.getD k default).br - (l.getD k default).bs).toNat
  omega
theorem yQ (l:List aQ):∀ k,(hz l k).length<=24 * k
 | 0=>by simp[hz]
 | k+1=>by
  have I:=yQ l k
  have J:=NB l k
  unfold hz
  rw[List.length_append];omega
theorem B8 (f:bc):(oZ f).length<=8:=by
 unfold oZ
 split
 ·split <;> decide
 ·exact hj _
theorem tW {b:Bool} {l:List UInt8} {n:Nat} (h:l.length<=n):(iM b l).length<=n:=by
 unfold iM;split
 ·exact h
 ·simp
theorem GP (w c:Bool) (n:Int):(nN w c n).length<=8:=by
 unfold nN;split
 ·rw[iL];exact Nat.le_refl _
 ·exact tW (hj _)
theorem B9 {f:bc} (h:eu f=0):mI f.Kind=true/\f.Data.length<=120/\f.bi.length<=6/\(0<=f.Id/\f.Id<=4611686018427387903)/\(0<=f.bI/\f.bI<=4611686018427387903)/\(0<=f.Code/\f.Code<=4611686018427387903)/\cV (pL f.bi) f.bi.length:=by
 unfold eu at h
 split at h
 ·cases h
 split at h
 ·cases h
 split at h
 ·cases h
 split at h
 ·cases h
 split at h
 ·cases h
 rename_i I J av bl dm
 have m1:hA (c6 (hasB f.Kind) 105) f.Id:=Classical.byContradiction fun c=>av (.inl c)
 have m2:hA (c6 (hasB f.Kind) 111) f.bI:=Classical.byContradiction fun c=>av (.inr (.inl c))
 have m3:hA (c6 (hasB f.Kind) 99 || c6 (hasB f.Kind) 119) f.Code:=Classical.byContradiction fun c=>av (.inr (.inr c))
 have m4:gH f.bi.reverse=0:=Classical.byContradiction fun c=>dm (.inr (.inr (.inr c)))
 exact⟨by simpa using I,by omega,by omega,⟨m1.1,m1.2.1⟩,⟨m2.1,m2.2.1⟩,⟨m3.1,m3.2.1⟩,(GQ _).2 m4⟩
theorem GR {k:Int} (h:mI k=true):0<=k/\k<=30:=by
 unfold mI at h
 have:=of_decide_eq_true h
 omega
theorem NC {p:List UInt8} {n j:Nat} (h:j<8):(p++(c5 n 8).take j).map aC++[[.lit (.int .u8 (IntKind.u8.wrap ((n:Int).fdiv (2 ^ min (8 * (7 - (j:Int))).toNat IntKind.i64.bits))))]]=(p++(c5 n 8).take (j+1)).map aC:=by
 rw[hy (by rw[iL];exact h),<- List.append_assoc,List.map_append (l₂:=[_]),List.map_cons,List.map_nil,yP n 8 j h,tV]
 rw[show min (8 * (7 - (j:Int))).toNat IntKind.i64.bits=8 * (8 - 1 - j) by(show min (8 * (7 - (j:Int))).toNat 64=_;omega),tT,Nat.pow_mul]
theorem GS (f:bc) (hw:dC f) (af:eu f=0):Fn Tryz.prog 215 [.agg (aW f)] (.b0 [.ro ((ib f).map aC),.lit (.int .i64 0)]):=by
 have I:=yR f hw
 rw[af] at I
 obtain ⟨bL,gT,iN,vy,vz,tX,nO⟩:=B9 af
 have sh:=GR bL
 have J:=GU f.Kind
 rw[bL] at J
 unfold Ca at J
 have vA:=B8 f
 have lx:=yQ f.bi
 unfold ib
 have GV:nN (c6 (hasB f.Kind) 119) (c6 (hasB f.Kind) 99) f.Code=nN (c6 (hasB f.Kind) 119) (c6 (hasB f.Kind) 99 || c6 (hasB f.Kind) 119) f.Code:=by
  unfold nN
  cases c6 (hasB f.Kind) 119
  ·rw[Bool.or_false]
  ·rfl
 rw[GV]
 clear GV
 generalize c6 (hasB f.Kind) 105=j7 at *
 generalize c6 (hasB f.Kind) 111=j8 at *
 generalize (c6 (hasB f.Kind) 99 || c6 (hasB f.Kind) 119)=kq at *
 generalize c6 (hasB f.Kind) 119=kJ at *
 generalize c6 (hasB f.Kind) 100=ot at *
 generalize c6 (hasB f.Kind) 102=qU at *
 have e:aW f=[.lit (.int .i64 f.Kind),.lit (.int .i64 f.Id),.lit (.int .i64 f.bI),.lit (.bool f.Fin),.lit (.int .i64 f.Code),.ro (f.bi.map aD),.ro (f.Data.map aC)]:=rfl
 rw[e] at I ⊢
 clear e hw af bL
 refine aU ae Tryz.func215 rfl ae ?_
 (repeat' first|(refine ar (I) (h:=?_))|(refine au (I) (h:=?_))|(refine ar (J) (h:=?_))|(refine au (J) (h:=?_))|(refine hB 7 ?_;((repeat' first|exact True.intro|refine R.mk ?_ ?_);all_goals intros))|fail "")
 refine fG (fun _:Unit=>⟨[(1,.ptr 0 0 0 0),(5,.ptr 1 0 0 0),(6,.ptr 2 0 0 0)],[(0,some (.box 111 [.lit (.int .i64 f.Kind),.lit (.int .i64 f.Id),.lit (.int .i64 f.bI),.lit (.bool f.Fin),.lit (.int .i64 f.Code),.ro (f.bi.map aD),.ro (f.Data.map aC)])),(1,some (.box 333 [.own 3])),(2,some (.box 200 [.lit (.bool j7),.lit (.bool j8),.lit (.bool kq),.lit (.bool ot),.lit (.bool qU),.lit (.bool kJ)])),(3,some (.row 5 1 ((oZ f).map aC)))],4,Tryz.f215.ntmps⟩)
  (fun _=>True) ?_ ?_
 ·unfold oZ
  clear vA I J
  generalize f.Fin=fin at *
  have dD:=Cb f.Kind (by omega)
  have c7:=Cb 14 (by omega)
  have fb:=Cb 15 (by omega)
  rw[show cM (14:Int).toNat=[14] from by decide] at c7
  rw[show cM (15:Int).toNat=[15] from by decide] at fb
  by_cases iO:f.Kind=8
  ·rw[if_pos iO]
   cases fin
   all_goals (repeat' first|(refine eL [1] (c7) (h:=?_))|(refine eM [1] (c7) (h:=?_))|(refine gU [1] (c7) (h:=?_))|(refine eL [1] (fb) (h:=?_))|(refine eM [1] (fb) (h:=?_))|(refine gU [1] (fb) (h:=?_))|(refine ab ?_;((repeat' first|exact True.intro|refine R.mk ?_ ?_);all_goals intros))|fail "")
   all_goals first
    | (refine ⟨(),?_,?_⟩;rotate_left 1;(exact ax);(exact jt))
    | skip
  ·rw[if_neg iO]
   (repeat' first|(refine eL [1] (dD) (h:=?_))|(refine eM [1] (dD) (h:=?_))|(refine gU [1] (dD) (h:=?_))|(refine ab ?_;((repeat' first|exact True.intro|refine R.mk ?_ ?_);all_goals intros))|fail "")
   all_goals first
    | (refine ⟨(),?_,?_⟩;rotate_left 1;(exact ax);(exact jt))
    | skip
 intro _ _
 generalize oZ f=q at *
 clear I J
 (repeat' first|(refine ab ?_;((repeat' first|exact True.intro|refine R.mk ?_ ?_);all_goals intros))|fail "")
 refine b2 (fun k:Nat=>⟨[(1,.ptr 0 0 0 0),(5,.ptr 1 0 0 0),(6,.ptr 2 0 0 0),(48,.ro (f.bi.map aD)),(49,.lit (.int .i64 f.bi.length)),(50,.lit (.int .i64 k))],[(0,some (.box 111 [.lit (.int .i64 f.Kind),.lit (.int .i64 f.Id),.lit (.int .i64 f.bI),.lit (.bool f.Fin),.lit (.int .i64 f.Code),.ro (f.bi.map aD),.ro (f.Data.map aC)])),(1,some (.box 333 [.own 3])),(2,some (.box 200 [.lit (.bool j7),.lit (.bool j8),.lit (.bool kq),.lit (.bool ot),.lit (.bool qU),.lit (.bool kJ)])),(3,some (.row 5 1 ((q++hz f.bi k).map aC)))],4,Tryz.f215.ntmps⟩)
  (fun k=>k<=f.bi.length) (fun k=>f.bi.length - k) 0 (Nat.zero_le _) (by rw[show hz f.bi 0=[] from rfl,List.append_nil];(exact ax)) ?_
 intro k ag
 by_cases aJ:k<f.bi.length
 ·have aj:=nO k aJ
  have hr:=lx k
  have pM:hz f.bi (k+1)=hz f.bi k++pK f.bi k:=rfl
  have GW:(q++hz f.bi k).length<=500:=by rw[List.length_append];omega
  have Cc:=aj.1
  unfold b9 at Cc
  by_cases ng:k=0
  ·subst ng
   have fb:=ND (f.bi.getD 0 default).br ((f.bi.length:Int) - 1) ((f.bi.getD 0 default).br - (f.bi.getD 0 default).bs) (q++hz f.bi 0) (by omega) (by omega) (by omega) (by omega)
   rw[show cM (f.bi.getD 0 default).br.toNat++cM ((f.bi.length:Int) - 1).toNat++cM ((f.bi.getD 0 default).br - (f.bi.getD 0 default).bs).toNat=pK f.bi 0 from (if_pos rfl).symm,List.append_assoc,<- pM] at fb
   clear pM hr GW nO lx
   (repeat' first|(refine eL [1,3] (fb) (h:=?_))|(refine eM [1,3] (fb) (h:=?_))|(refine gU [1,3] (fb) (h:=?_))|(refine ab ?_;((repeat' first|exact True.intro|refine R.mk ?_ ?_);all_goals intros))|fail "")
   all_goals first
    | (refine ⟨0+1,?_,?_,?_⟩;rotate_left 2;(exact ax);(exact bN);(exact bN))
    | skip
  ·have tY:(k:Int) - 1=((k - 1:Nat):Int):=by omega
   have Cd:=(nO (k - 1) (by omega)).1
   unfold b9 at Cd
   have NE:(f.bi.getD k default).br+1<(f.bi.getD (k - 1) default).bs:=by rcases aj.2 with h|h;omega;exact h
   have c7:=NF ((f.bi.getD (k - 1) default).bs - (f.bi.getD k default).br - 2) ((f.bi.getD k default).br - (f.bi.getD k default).bs) (q++hz f.bi k) (by omega) (by omega) (by omega)
   rw[show cM ((f.bi.getD (k - 1) default).bs - (f.bi.getD k default).br - 2).toNat++cM ((f.bi.getD k default).br - (f.bi.getD k default).bs).toNat=pK f.bi k from (if_neg ng).symm,List.append_assoc,<- pM] at c7
   clear pM hr GW nO lx aj
   (repeat' first|(refine eL [1,3] (c7) (h:=?_))|(refine eM [1,3] (c7) (h:=?_))|(refine gU [1,3] (c7) (h:=?_))|(refine ab ?_;((repeat' first|exact True.intro|refine R.mk ?_ ?_);all_goals intros))|fail "")
   all_goals first
    | (refine ⟨k+1,?_,?_,?_⟩;rotate_left 2;(exact ax);(exact bN);(exact bN))
    | skip
 have:k=f.bi.length:=by omega
 subst this
 have yS:(q++hz f.bi f.bi.length).length<=500:=by rw[List.length_append];have:=lx f.bi.length;omega
 generalize q++hz f.bi f.bi.length=aT at *
 clear vA lx ag aJ nO iN
 (repeat' first|(refine hB 18 ?_;((repeat' first|exact True.intro|refine R.mk ?_ ?_);all_goals intros))|fail "")
 refine fG (fun _:Unit=>⟨[(1,.ptr 0 0 0 0),(5,.ptr 1 0 0 0),(6,.ptr 2 0 0 0)],[(0,some (.box 111 [.lit (.int .i64 f.Kind),.lit (.int .i64 f.Id),.lit (.int .i64 f.bI),.lit (.bool f.Fin),.lit (.int .i64 f.Code),.ro (f.bi.map aD),.ro (f.Data.map aC)])),(1,some (.box 333 [.own 3])),(2,some (.box 200 [.lit (.bool j7),.lit (.bool j8),.lit (.bool kq),.lit (.bool ot),.lit (.bool qU),.lit (.bool kJ)])),(3,some (.row 5 1 ((aT++iM j7 (cM f.Id.toNat)).map aC)))],4,Tryz.f215.ntmps⟩) (fun _=>True) ?_ ?_
 ·have p:=yT f.Id aT vy (by omega)
  cases j7
  ·rw[show iM false (cM f.Id.toNat)=[] from rfl,List.append_nil]
   (repeat' first|(refine ab ?_;((repeat' first|exact True.intro|refine R.mk ?_ ?_);all_goals intros))|fail "")
   all_goals first
    | (refine ⟨(),?_,?_⟩;rotate_left 1;(exact ax);(exact jt))
    | skip
  ·rw[show iM true (cM f.Id.toNat)=cM f.Id.toNat from rfl]
   (repeat' first|(refine eL [1,3] (p) (h:=?_))|(refine eM [1,3] (p) (h:=?_))|(refine gU [1,3] (p) (h:=?_))|(refine ab ?_;((repeat' first|exact True.intro|refine R.mk ?_ ?_);all_goals intros))|fail "")
   all_goals first
    | (refine ⟨(),?_,?_⟩;rotate_left 1;(exact ax);(exact jt))
    | skip
 intro _ _
 have si:(aT++iM j7 (cM f.Id.toNat)).length<=510:=by rw[List.length_append];have:=tW (b:=j7) (hj f.Id.toNat);omega
 generalize aT++iM j7 (cM f.Id.toNat)=a1 at *
 clear yS
 (repeat' first|(refine hB 20 ?_;((repeat' first|exact True.intro|refine R.mk ?_ ?_);all_goals intros))|fail "")
 refine fG (fun _:Unit=>⟨[(1,.ptr 0 0 0 0),(5,.ptr 1 0 0 0),(6,.ptr 2 0 0 0)],[(0,some (.box 111 [.lit (.int .i64 f.Kind),.lit (.int .i64 f.Id),.lit (.int .i64 f.bI),.lit (.bool f.Fin),.lit (.int .i64 f.Code),.ro (f.bi.map aD),.ro (f.Data.map aC)])),(1,some (.box 333 [.own 3])),(2,some (.box 200 [.lit (.bool j7),.lit (.bool j8),.lit (.bool kq),.lit (.bool ot),.lit (.bool qU),.lit (.bool kJ)])),(3,some (.row 5 1 ((a1++iM j8 (cM f.bI.toNat)).map aC)))],4,Tryz.f215.ntmps⟩) (fun _=>True) ?_ ?_
 ·have p:=yT f.bI a1 vz (by omega)
  cases j8
  ·rw[show iM false (cM f.bI.toNat)=[] from rfl,List.append_nil]
   (repeat' first|(refine ab ?_;((repeat' first|exact True.intro|refine R.mk ?_ ?_);all_goals intros))|fail "")
   all_goals first
    | (refine ⟨(),?_,?_⟩;rotate_left 1;(exact ax);(exact jt))
    | skip
  ·rw[show iM true (cM f.bI.toNat)=cM f.bI.toNat from rfl]
   (repeat' first|(refine eL [1,3] (p) (h:=?_))|(refine eM [1,3] (p) (h:=?_))|(refine gU [1,3] (p) (h:=?_))|(refine ab ?_;((repeat' first|exact True.intro|refine R.mk ?_ ?_);all_goals intros))|fail "")
   all_goals first
    | (refine ⟨(),?_,?_⟩;rotate_left 1;(exact ax);(exact jt))
    | skip
 intro _ _
 have NG:(a1++iM j8 (cM f.bI.toNat)).length<=520:=by rw[List.length_append];have:=tW (b:=j8) (hj f.bI.toNat);omega
 generalize a1++iM j8 (cM f.bI.toNat)=bz at *
 clear si
 (repeat' first|(refine hB 22 ?_;((repeat' first|exact True.intro|refine R.mk ?_ ?_);all_goals intros))|fail "")
 refine fG (fun _:Unit=>⟨[(1,.ptr 0 0 0 0),(5,.ptr 1 0 0 0),(6,.ptr 2 0 0 0)],[(0,some (.box 111 [.lit (.int .i64 f.Kind),.lit (.int .i64 f.Id),.lit (.int .i64 f.bI),.lit (.bool f.Fin),.lit (.int .i64 f.Code),.ro (f.bi.map aD),.ro (f.Data.map aC)])),(1,some (.box 333 [.own 3])),(2,some (.box 200 [.lit (.bool j7),.lit (.bool j8),.lit (.bool kq),.lit (.bool ot),.lit (.bool qU),.lit (.bool kJ)])),(3,some (.row 5 1 ((bz++nN kJ kq f.Code).map aC)))],4,Tryz.f215.ntmps⟩) (fun _=>True) ?_ ?_
 ·have p:=yT f.Code bz tX (by omega)
  unfold nN
  cases kJ
  ·rw[if_neg (by simp)]
   cases kq
   ·rw[show iM false (cM f.Code.toNat)=[] from rfl,List.append_nil]
    (repeat' first|(refine ab ?_;((repeat' first|exact True.intro|refine R.mk ?_ ?_);all_goals intros))|fail "")
    all_goals first
     | (refine ⟨(),?_,?_⟩;rotate_left 1;(exact ax);(exact jt))
     | skip
   ·rw[show iM true (cM f.Code.toNat)=cM f.Code.toNat from rfl]
    (repeat' first|(refine eL [1,3] (p) (h:=?_))|(refine eM [1,3] (p) (h:=?_))|(refine gU [1,3] (p) (h:=?_))|(refine ab ?_;((repeat' first|exact True.intro|refine R.mk ?_ ?_);all_goals intros))|fail "")
    all_goals first
     | (refine ⟨(),?_,?_⟩;rotate_left 1;(exact ax);(exact jt))
     | skip
  ·rw[if_pos rfl]
   obtain ⟨n,hn⟩:=Int.eq_ofNat_of_zero_le tX.1
   rw[hn]
   rw[Int.toNat_natCast]
   have iP:=iL n 8
   (repeat' first|(refine ab ?_;((repeat' first|exact True.intro|refine R.mk ?_ ?_);all_goals intros))|fail "")
   refine b2 (fun j:Nat=>⟨[(1,.ptr 0 0 0 0),(5,.ptr 1 0 0 0),(6,.ptr 2 0 0 0),(10,.lit (.int .i64 (7 - (j:Int))))],[(0,some (.box 111 [.lit (.int .i64 f.Kind),.lit (.int .i64 f.Id),.lit (.int .i64 f.bI),.lit (.bool f.Fin),.lit (.int .i64 (n:Int)),.ro (f.bi.map aD),.ro (f.Data.map aC)])),(1,some (.box 333 [.own 3])),(2,some (.box 200 [.lit (.bool j7),.lit (.bool j8),.lit (.bool kq),.lit (.bool ot),.lit (.bool qU),.lit (.bool true)])),(3,some (.row 5 1 ((bz++(c5 n 8).take j).map aC)))],4,Tryz.f215.ntmps⟩)
    (fun j=>j<=8) (fun j=>8 - j) 0 (Nat.zero_le _) yU ?_
   intro j ah
   have qV:((c5 n 8).take j).length=j:=by rw[List.length_take];omega
   by_cases Ce:j<8
   ·have e:=NC (p:=bz) (n:=n) Ce
    (repeat' first|(refine cx (r:=(bz++(c5 n 8).take (j+1)).map aC) ?_ ?_ ?_ ?_ (h:=?_);(exact ly);(exact al);(exact an);(exact ao))|(refine cD (r:=(bz++(c5 n 8).take (j+1)).map aC) ?_ ?_ ?_ ?_ (h:=?_);(exact ly);(exact al);(exact an);(exact ao))|(refine cE (r:=(bz++(c5 n 8).take (j+1)).map aC) ?_ ?_ ?_ ?_ (h:=?_);(exact ly);(exact al);(exact an);(exact ao))|(refine cF (r:=(bz++(c5 n 8).take (j+1)).map aC) ?_ ?_ ?_ ?_ (h:=?_);(exact ly);(exact al);(exact an);(exact ao))|(refine ab ?_;((repeat' first|exact True.intro|refine R.mk ?_ ?_);all_goals intros))|fail "")
    all_goals first
     | (refine ⟨j+1,?_,?_,?_⟩;rotate_left 2;(exact ax);(exact bN);(exact bN))
     | skip
   ·rw[List.take_of_length_le (by omega)]
    (repeat' first|(refine ab ?_;((repeat' first|exact True.intro|refine R.mk ?_ ?_);all_goals intros))|fail "")
    all_goals first
     | (refine ⟨(),?_,?_⟩;rotate_left 1;(exact ax);(exact jt))
     | skip
 intro _ _
 have WS:(bz++nN kJ kq f.Code).length<=530:=by rw[List.length_append];have:=GP kJ kq f.Code;omega
 generalize bz++nN kJ kq f.Code=cW at *
 clear NG
 have p:=yT (f.Data.length:Int) cW (by omega) (by omega)
 rw[Int.toNat_natCast] at p
 have hv:=hj f.Data.length
 cases ot
 ·rw[show iM false (cM f.Data.length++f.Data)=[] from rfl,List.append_nil]
  (repeat' first|(refine ab ?_;((repeat' first|exact True.intro|refine R.mk ?_ ?_);all_goals intros))|fail "")
  all_goals first
   | exact bt (hr:=rfl)
   | skip
 ·rw[show iM true (cM f.Data.length++f.Data)=cM f.Data.length++f.Data from rfl]
  (repeat' first|(refine eL [1,3] (p) (h:=?_))|(refine eM [1,3] (p) (h:=?_))|(refine gU [1,3] (p) (h:=?_))|(refine cx (r:=(cW++cM f.Data.length++f.Data).map aC) ?_ ?_ ?_ ?_ (h:=?_);(exact yV);(exact al);(exact an);(exact ao))|(refine cD (r:=(cW++cM f.Data.length++f.Data).map aC) ?_ ?_ ?_ ?_ (h:=?_);(exact yV);(exact al);(exact an);(exact ao))|(refine cE (r:=(cW++cM f.Data.length++f.Data).map aC) ?_ ?_ ?_ ?_ (h:=?_);(exact yV);(exact al);(exact an);(exact ao))|(refine cF (r:=(cW++cM f.Data.length++f.Data).map aC) ?_ ?_ ?_ ?_ (h:=?_);(exact yV);(exact al);(exact an);(exact ao))|(refine ab ?_;((repeat' first|exact True.intro|refine R.mk ?_ ?_);all_goals intros))|fail "")
  all_goals first
   | (refine bt (hr:=?_);rw[List.append_assoc])
   | skip
theorem NH (f:bc) (hw:dC f) (af:¬ eu f=0):Fn Tryz.prog 215 [.agg (aW f)] (.b0 [.ro [],.lit (.int .i64 (eu f))]):=by
 have I:=yR f hw
 generalize eu f=q at *
 refine aU ae Tryz.func215 rfl ae ?_
 (repeat' first|(refine ar (I) (h:=?_))|(refine au (I) (h:=?_))|(refine ab ?_;((repeat' first|exact True.intro|refine R.mk ?_ ?_);all_goals intros))|fail "")
 all_goals (exact bD)
end Go.Proofs.YtendheafcbickaaGreat
