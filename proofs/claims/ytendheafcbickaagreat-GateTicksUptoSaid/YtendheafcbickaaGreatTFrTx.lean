
import Derived.Test.YtendheafcbickaaGreatTZip
import Derived.Test.YtendheafcbickaaGreatTGo
import Derived.Test.YtendheafcbickaaGreatTFrEn
import Derived.Test.YtendheafcbickaaGreatTMg12
set_option linter.unusedVariables false
set_option linter.unusedSimpArgs false
set_option maxHeartbeats 16000000
namespace Go.Proofs.YtendheafcbickaaGreat
set_option maxRecDepth 100000
attribute [local irreducible] cq a8 bw GStep Fn cu bk cU
def nf (f:bc) (c:UInt8):List UInt8:=
 if (c.toNat:Int)=105 then cM f.Id.toNat else if (c.toNat:Int)=111 then cM f.bI.toNat else if (c.toNat:Int)=99 then cM f.Code.toNat
 else if (c.toNat:Int)=119 then c5 f.Code.toNat 8 else if (c.toNat:Int)=100 then cM f.Data.length++f.Data else[]
def ir (f:bc) (s:List UInt8):List UInt8:=s.flatMap (nf f)
theorem Vp (f:bc) (s:List UInt8) (c:UInt8):ir f (s++[c])=ir f s++nf f c:=by unfold ir;rw[List.flatMap_append];simp
theorem Vq {f:bc} (hd:f.Data.length<=120) (c:UInt8):(nf f c).length<=128:=by
 have I:=hj f.Id.toNat
 have J:=hj f.bI.toNat
 have av:=hj f.Code.toNat
 have bl:=iL f.Code.toNat 8
 have dm:=hj f.Data.length
 unfold nf
 repeat' split
 all_goals first
  | omega
  | (rw[List.length_append];omega)
  | simp
theorem MY {f:bc} (hd:f.Data.length<=120):∀ s:List UInt8,(ir f s).length<=128 * s.length
 | []=>by simp[ir]
 | c :: s=>by
  have I:=Vq hd c
  have J:=MY hd s
  unfold ir at *
  rw[List.flatMap_cons,List.length_append,List.length_cons]
  omega
theorem Vr {f:bc} (h:mI f.Kind=true):ir f (hasB f.Kind)=iM (c6 (hasB f.Kind) 105) (cM f.Id.toNat)++iM (c6 (hasB f.Kind) 111) (cM f.bI.toNat)++nN (c6 (hasB f.Kind) 119) (c6 (hasB f.Kind) 99) f.Code++iM (c6 (hasB f.Kind) 100) (cM f.Data.length++f.Data):=by
 have e:ir f []=[]:=rfl
 have Vs:∀ c s,ir f (c :: s)=nf f c++ir f s:=fun c s=>by unfold ir;rw[List.flatMap_cons]
 have iA:nf f 105=cM f.Id.toNat:=rfl
 have iw:nf f 111=cM f.bI.toNat:=rfl
 have lC:nf f 99=cM f.Code.toNat:=rfl
 have iX:nf f 119=c5 f.Code.toNat 8:=rfl
 have nE:nf f 100=cM f.Data.length++f.Data:=rfl
 have JQ:nf f 114=[]:=rfl
 have JR:nf f 102=[]:=rfl
 generalize f.Kind=K at *
 rcases CC K with rfl|rfl|rfl|rfl|rfl|rfl|rfl|rfl|rfl|rfl|rfl|rfl|rfl|rfl|rfl|ag
 iterate 15 (simp only[show hasB 0=[] from rfl,show hasB 1=[] from rfl,show hasB 2=[114] from rfl,show hasB 4=[105,111,99] from rfl,show hasB 5=[105,99] from rfl,show hasB 6=[111,100] from rfl,show hasB 7=[100] from rfl,show hasB 8=[105,111,100,102] from rfl,show hasB 16=[111] from rfl,show hasB 17=[105,111] from rfl,show hasB 18=[111] from rfl,show hasB 26=[119] from rfl,show hasB 27=[119] from rfl,show hasB 28=[99] from rfl,show hasB 30=[] from rfl,e,Vs,iA,iw,lC,iX,nE,JQ,JR];simp[iM,nN,c6])
 rw[(y8 ag).1] at h;cases h
theorem pI (n:Int) (h:0<=n/\n<=4611686018427387903):Fn Tryz.prog 272 [.lit (.int .i64 n)] (.lit (.string (bZ (cM n.toNat)))):=by
 have:=I6 n.toNat (by omega)
 rw[Int.toNat_of_nonneg h.1] at this
 exact this
theorem C7 (f:bc) (af:eu f=0):Fn Tryz.prog 221 [.agg (aW f)] (.lit (.string (bZ (ib f)))):=by
 obtain ⟨bL,gT,iN,vy,vz,tX,nO⟩:=B9 af
 have sh:=GR bL
 have J:=Hi f.Kind
 rw[bL] at J
 have vA:=B8 f
 have lx:=yQ f.bi
 have ij:=Hu f.Kind
 have pc:ib f=oZ f++hz f.bi f.bi.length++ir f (hasB f.Kind):=by
  rw[Vr bL];unfold ib;simp only[List.append_assoc]
 rw[pc]
 clear pc
 generalize hasB f.Kind=s at *
 have e:aW f=[.lit (.int .i64 f.Kind),.lit (.int .i64 f.Id),.lit (.int .i64 f.bI),.lit (.bool f.Fin),.lit (.int .i64 f.Code),.ro (f.bi.map aD),.ro (f.Data.map aC)]:=rfl
 rw[e]
 clear e af bL
 have pr:=pI f.Kind (by omega)
 refine aU ae Tryz.func221 rfl ae ?_
 (repeat' first|(refine ar (J) (h:=?_))|(refine au (J) (h:=?_))|(refine ar (pr) (h:=?_))|(refine au (pr) (h:=?_))|(refine hB 3 ?_;((repeat' first|exact True.intro|refine R.mk ?_ ?_);all_goals intros))|fail "")
 refine fG (fun _:Unit=>⟨[(1,.ptr 0 0 0 0),(3,.lit (.string (bZ s))),(5,.lit (.string (bZ (oZ f))))],[(0,some (.box 111 [.lit (.int .i64 f.Kind),.lit (.int .i64 f.Id),.lit (.int .i64 f.bI),.lit (.bool f.Fin),.lit (.int .i64 f.Code),.ro (f.bi.map aD),.ro (f.Data.map aC)]))],1,Tryz.f221.ntmps⟩) (fun _=>True) ?_ ?_
 ·unfold oZ
  clear vA J pr
  generalize f.Fin=fin at *
  by_cases iO:f.Kind=8
  ·rw[if_pos iO]
   cases fin
   all_goals (repeat' first|(refine ab ?_;((repeat' first|exact True.intro|refine R.mk ?_ ?_);all_goals intros))|fail "")
   all_goals first
    | (refine ⟨(),?_,?_⟩;rotate_left 1;(exact ax);(exact jt))
    | skip
  ·rw[if_neg iO]
   (repeat' first|(refine ab ?_;((repeat' first|exact True.intro|refine R.mk ?_ ?_);all_goals intros))|fail "")
   all_goals first
    | (refine ⟨(),?_,?_⟩;rotate_left 1;(exact ax);(exact jt))
    | skip
 intro _ _
 clear J pr
 generalize oZ f=q at *
 (repeat' first|(refine ab ?_;((repeat' first|exact True.intro|refine R.mk ?_ ?_);all_goals intros))|fail "")
 refine b2 (fun k:Nat=>⟨[(1,.ptr 0 0 0 0),(3,.lit (.string (bZ s))),(5,.lit (.string (bZ (q++hz f.bi k)))),(24,.ro (f.bi.map aD)),(25,.lit (.int .i64 f.bi.length)),(26,.lit (.int .i64 k))],[(0,some (.box 111 [.lit (.int .i64 f.Kind),.lit (.int .i64 f.Id),.lit (.int .i64 f.bI),.lit (.bool f.Fin),.lit (.int .i64 f.Code),.ro (f.bi.map aD),.ro (f.Data.map aC)]))],1,Tryz.f221.ntmps⟩)
  (fun k=>k<=f.bi.length) (fun k=>f.bi.length - k) 0 (Nat.zero_le _) (by rw[show hz f.bi 0=[] from rfl,List.append_nil];(exact ax)) ?_
 intro k ag
 by_cases aJ:k<f.bi.length
 ·have aj:=nO k aJ
  have hr:=lx k
  have pM:hz f.bi (k+1)=hz f.bi k++pK f.bi k:=rfl
  have Cc:=aj.1
  unfold b9 at Cc
  by_cases ng:k=0
  ·subst ng
   have dD:=pI (f.bi.getD 0 default).br (by omega)
   have c7:=pI ((f.bi.length:Int) - 1) (by omega)
   have fb:=pI ((f.bi.getD 0 default).br - (f.bi.getD 0 default).bs) (by omega)
   have v1:=hj (f.bi.getD 0 default).br.toNat
   have v2:=hj ((f.bi.length:Int) - 1).toNat
   have v3:=hj ((f.bi.getD 0 default).br - (f.bi.getD 0 default).bs).toNat
   have e:q++hz f.bi 0++(cM (f.bi.getD 0 default).br.toNat++cM ((f.bi.length:Int) - 1).toNat)++cM ((f.bi.getD 0 default).br - (f.bi.getD 0 default).bs).toNat=q++hz f.bi (0+1):=by
    rw[pM,show pK f.bi 0=_ from if_pos rfl];simp only[List.append_assoc]
   clear pM nO lx
   (repeat' first|(refine ar (dD) (h:=?_))|(refine au (dD) (h:=?_))|(refine ar (c7) (h:=?_))|(refine au (c7) (h:=?_))|(refine ar (fb) (h:=?_))|(refine au (fb) (h:=?_))|(refine dS (r:=q++hz f.bi (0+1)) ?_ ?_ (h:=?_);(focus (exact e));(exact bP))|(refine dT (r:=q++hz f.bi (0+1)) ?_ ?_ (h:=?_);(focus (exact e));(exact bP))|(refine fc ?_;((repeat' first|exact True.intro|refine R.mk ?_ ?_);all_goals intros))|refine bB (h:=?_)|refine bB (hq:=eo rfl rfl rfl ew ey rfl rfl rfl rfl) (h:=?_)|refine da (h:=?_)|refine dJ (h:=?_)|refine ep (h:=?_)|refine ez (h:=?_)|refine eA (h:=?_)|refine eB (h:=?_)|refine eC (h:=?_)|refine eD (h:=?_)|(refine dS rfl ?_ (h:=?_);(exact bP))|(refine dT rfl ?_ (h:=?_);(exact bP))|fail "")
   all_goals first
    | (refine ⟨0+1,?_,?_,?_⟩;rotate_left 2;(exact ax);(exact bN);(exact bN))
    | skip
  ·have tY:(k:Int) - 1=((k - 1:Nat):Int):=by omega
   have Cd:=(nO (k - 1) (by omega)).1
   unfold b9 at Cd
   have NE:(f.bi.getD k default).br+1<(f.bi.getD (k - 1) default).bs:=by rcases aj.2 with h|h;omega;exact h
   have c7:=pI ((f.bi.getD (k - 1) default).bs - (f.bi.getD k default).br - 2) (by omega)
   have fb:=pI ((f.bi.getD k default).br - (f.bi.getD k default).bs) (by omega)
   have v2:=hj ((f.bi.getD (k - 1) default).bs - (f.bi.getD k default).br - 2).toNat
   have v3:=hj ((f.bi.getD k default).br - (f.bi.getD k default).bs).toNat
   have e:q++hz f.bi k++cM ((f.bi.getD (k - 1) default).bs - (f.bi.getD k default).br - 2).toNat++cM ((f.bi.getD k default).br - (f.bi.getD k default).bs).toNat=q++hz f.bi (k+1):=by
    rw[pM,show pK f.bi k=_ from if_neg ng];simp only[List.append_assoc]
   clear pM nO lx aj
   (repeat' first|(refine ar (c7) (h:=?_))|(refine au (c7) (h:=?_))|(refine ar (fb) (h:=?_))|(refine au (fb) (h:=?_))|(refine dS (r:=q++hz f.bi (k+1)) ?_ ?_ (h:=?_);(focus (exact e));(exact bP))|(refine dT (r:=q++hz f.bi (k+1)) ?_ ?_ (h:=?_);(focus (exact e));(exact bP))|(refine fc ?_;((repeat' first|exact True.intro|refine R.mk ?_ ?_);all_goals intros))|refine bB (h:=?_)|refine bB (hq:=eo rfl rfl rfl ew ey rfl rfl rfl rfl) (h:=?_)|refine da (h:=?_)|refine dJ (h:=?_)|refine ep (h:=?_)|refine ez (h:=?_)|refine eA (h:=?_)|refine eB (h:=?_)|refine eC (h:=?_)|refine eD (h:=?_)|(refine dS rfl ?_ (h:=?_);(exact bP))|(refine dT rfl ?_ (h:=?_);(exact bP))|fail "")
   all_goals first
    | (refine ⟨k+1,?_,?_,?_⟩;rotate_left 2;(exact ax);(exact bN);(exact bN))
    | skip
 have:k=f.bi.length:=by omega
 subst this
 have yS:(q++hz f.bi f.bi.length).length<=500:=by rw[List.length_append];have:=lx f.bi.length;omega
 generalize q++hz f.bi f.bi.length=aT at *
 clear vA lx ag aJ nO iN
 (repeat' first|(refine ab ?_;((repeat' first|exact True.intro|refine R.mk ?_ ?_);all_goals intros))|fail "")
 refine b2 (fun j:Nat=>⟨[(1,.ptr 0 0 0 0),(3,.lit (.string (bZ s))),(5,.lit (.string (bZ (aT++ir f (s.take j))))),(8,.lit (.int .i64 j))],[(0,some (.box 111 [.lit (.int .i64 f.Kind),.lit (.int .i64 f.Id),.lit (.int .i64 f.bI),.lit (.bool f.Fin),.lit (.int .i64 f.Code),.ro (f.bi.map aD),.ro (f.Data.map aC)]))],1,Tryz.f221.ntmps⟩)
  (fun j=>j<=s.length) (fun j=>s.length - j) 0 (Nat.zero_le _) (by rw[show ir f (s.take 0)=[] from rfl,List.append_nil];(exact ax)) ?_
 intro j ah
 by_cases tR:j<s.length
 ·have e:ir f (s.take (j+1))=ir f (s.take j)++nf f (s.getD j default):=by rw[hy tR,Vp]
  have qV:=MY gT (s.take j)
  rw[List.length_take] at qV
  unfold nf at e
  by_cases aK:((s.getD j default).toNat:Int)=105
  ·rw[if_pos aK] at e
   have p:=pI f.Id vy
   have v:=hj f.Id.toNat
   (repeat' first|(refine ar (p) (h:=?_))|(refine au (p) (h:=?_))|(refine dS (r:=aT++ir f (s.take (j+1))) ?_ ?_ (h:=?_);(exact pe);(exact bP))|(refine dT (r:=aT++ir f (s.take (j+1))) ?_ ?_ (h:=?_);(exact pe);(exact bP))|(refine fc ?_;((repeat' first|exact True.intro|refine R.mk ?_ ?_);all_goals intros))|refine bB (h:=?_)|refine bB (hq:=eo rfl rfl rfl ew ey rfl rfl rfl rfl) (h:=?_)|refine da (h:=?_)|refine dJ (h:=?_)|refine ep (h:=?_)|refine ez (h:=?_)|refine eA (h:=?_)|refine eB (h:=?_)|refine eC (h:=?_)|refine eD (h:=?_)|(refine dS rfl ?_ (h:=?_);(exact bP))|(refine dT rfl ?_ (h:=?_);(exact bP))|fail "")
   all_goals first
    | (refine ⟨j+1,?_,?_,?_⟩;rotate_left 2;(exact ax);(exact bN);(exact bN))
    | skip
  rw[if_neg aK] at e
  by_cases aX:((s.getD j default).toNat:Int)=111
  ·rw[if_pos aX] at e
   have p:=pI f.bI vz
   have v:=hj f.bI.toNat
   (repeat' first|(refine ar (p) (h:=?_))|(refine au (p) (h:=?_))|(refine dS (r:=aT++ir f (s.take (j+1))) ?_ ?_ (h:=?_);(exact pe);(exact bP))|(refine dT (r:=aT++ir f (s.take (j+1))) ?_ ?_ (h:=?_);(exact pe);(exact bP))|(refine fc ?_;((repeat' first|exact True.intro|refine R.mk ?_ ?_);all_goals intros))|refine bB (h:=?_)|refine bB (hq:=eo rfl rfl rfl ew ey rfl rfl rfl rfl) (h:=?_)|refine da (h:=?_)|refine dJ (h:=?_)|refine ep (h:=?_)|refine ez (h:=?_)|refine eA (h:=?_)|refine eB (h:=?_)|refine eC (h:=?_)|refine eD (h:=?_)|(refine dS rfl ?_ (h:=?_);(exact bP))|(refine dT rfl ?_ (h:=?_);(exact bP))|fail "")
   all_goals first
    | (refine ⟨j+1,?_,?_,?_⟩;rotate_left 2;(exact ax);(exact bN);(exact bN))
    | skip
  rw[if_neg aX] at e
  by_cases bo:((s.getD j default).toNat:Int)=99
  ·rw[if_pos bo] at e
   have p:=pI f.Code tX
   have v:=hj f.Code.toNat
   (repeat' first|(refine ar (p) (h:=?_))|(refine au (p) (h:=?_))|(refine dS (r:=aT++ir f (s.take (j+1))) ?_ ?_ (h:=?_);(exact pe);(exact bP))|(refine dT (r:=aT++ir f (s.take (j+1))) ?_ ?_ (h:=?_);(exact pe);(exact bP))|(refine fc ?_;((repeat' first|exact True.intro|refine R.mk ?_ ?_);all_goals intros))|refine bB (h:=?_)|refine bB (hq:=eo rfl rfl rfl ew ey rfl rfl rfl rfl) (h:=?_)|refine da (h:=?_)|refine dJ (h:=?_)|refine ep (h:=?_)|refine ez (h:=?_)|refine eA (h:=?_)|refine eB (h:=?_)|refine eC (h:=?_)|refine eD (h:=?_)|(refine dS rfl ?_ (h:=?_);(exact bP))|(refine dT rfl ?_ (h:=?_);(exact bP))|fail "")
   all_goals first
    | (refine ⟨j+1,?_,?_,?_⟩;rotate_left 2;(exact ax);(exact bN);(exact bN))
    | skip
  rw[if_neg bo] at e
  by_cases bQ:((s.getD j default).toNat:Int)=119
  ·rw[if_pos bQ] at e
   have p:=D6 f.Code.toNat
   rw[Int.toNat_of_nonneg tX.1] at p
   have v:=iL f.Code.toNat 8
   (repeat' first|(refine ar (p) (h:=?_))|(refine au (p) (h:=?_))|(refine dS (r:=aT++ir f (s.take (j+1))) ?_ ?_ (h:=?_);(exact pe);(exact bP))|(refine dT (r:=aT++ir f (s.take (j+1))) ?_ ?_ (h:=?_);(exact pe);(exact bP))|(refine fc ?_;((repeat' first|exact True.intro|refine R.mk ?_ ?_);all_goals intros))|refine bB (h:=?_)|refine bB (hq:=eo rfl rfl rfl ew ey rfl rfl rfl rfl) (h:=?_)|refine da (h:=?_)|refine dJ (h:=?_)|refine ep (h:=?_)|refine ez (h:=?_)|refine eA (h:=?_)|refine eB (h:=?_)|refine eC (h:=?_)|refine eD (h:=?_)|(refine dS rfl ?_ (h:=?_);(exact bP))|(refine dT rfl ?_ (h:=?_);(exact bP))|fail "")
   all_goals first
    | (refine ⟨j+1,?_,?_,?_⟩;rotate_left 2;(exact ax);(exact bN);(exact bN))
    | skip
  rw[if_neg bQ] at e
  by_cases b5:((s.getD j default).toNat:Int)=100
  ·rw[if_pos b5] at e
   have p:=pI (f.Data.length:Int) (by omega)
   rw[Int.toNat_natCast] at p
   have v:=hj f.Data.length
   (repeat' first|(refine ar (p) (h:=?_))|(refine au (p) (h:=?_))|(refine dS (r:=aT++ir f (s.take (j+1))) ?_ ?_ (h:=?_);(exact pe);(exact bP))|(refine dT (r:=aT++ir f (s.take (j+1))) ?_ ?_ (h:=?_);(exact pe);(exact bP))|(refine fc ?_;((repeat' first|exact True.intro|refine R.mk ?_ ?_);all_goals intros))|refine bB (h:=?_)|refine bB (hq:=eo rfl rfl rfl ew ey rfl rfl rfl rfl) (h:=?_)|refine da (h:=?_)|refine dJ (h:=?_)|refine ep (h:=?_)|refine ez (h:=?_)|refine eA (h:=?_)|refine eB (h:=?_)|refine eC (h:=?_)|refine eD (h:=?_)|(refine dS rfl ?_ (h:=?_);(exact bP))|(refine dT rfl ?_ (h:=?_);(exact bP))|fail "")
   all_goals first
    | (refine ⟨j+1,?_,?_,?_⟩;rotate_left 2;(exact ax);(exact bN);(exact bN))
    | skip
  rw[if_neg b5,List.append_nil] at e
  rw[<- e]
  (repeat' first|(refine ab ?_;((repeat' first|exact True.intro|refine R.mk ?_ ?_);all_goals intros))|fail "")
  all_goals first
   | (refine ⟨j+1,?_,?_,?_⟩;rotate_left 2;(exact ax);(exact bN);(exact bN))
   | skip
 ·rw[List.take_of_length_le (by omega)]
  (repeat' first|(refine ab ?_;((repeat' first|exact True.intro|refine R.mk ?_ ?_);all_goals intros))|fail "")
  all_goals first
   | exact bt (hr:=rfl)
   | skip
theorem sH {f:bc} (af:eu f=0):(ib f).length<=1000:=by
 obtain ⟨bL,gT,iN,vy,vz,tX,nO⟩:=B9 af
 have I:=B8 f
 have J:=yQ f.bi f.bi.length
 have av:=tW (b:=c6 (hasB f.Kind) 105) (hj f.Id.toNat)
 have bl:=tW (b:=c6 (hasB f.Kind) 111) (hj f.bI.toNat)
 have dm:=GP (c6 (hasB f.Kind) 119) (c6 (hasB f.Kind) 99) f.Code
 have gB:(cM f.Data.length++f.Data).length<=128:=by rw[List.length_append];have:=hj f.Data.length;omega
 have fr:=tW (b:=c6 (hasB f.Kind) 100) gB
 unfold ib
 simp only[List.length_append] at *
 omega
end Go.Proofs.YtendheafcbickaaGreat
