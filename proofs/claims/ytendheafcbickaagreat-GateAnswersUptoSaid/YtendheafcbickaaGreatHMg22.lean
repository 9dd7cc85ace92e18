/-
  SEVERAL TEXTS IN ONE: each with its own comment.
-/
import Derived.Test.YtendheafcbickaaGreatHGo
import Derived.Test.YtendheafcbickaaGreatHMg06
import Derived.Test.YtendheafcbickaaGreatProg
import Derived.Test.YtendheafcbickaaGreatHMg18
import Derived.Test.YtendheafcbickaaGreatHMg16
import Derived.Test.YtendheafcbickaaGreatHMg07
import Derived.Shelf.Sort.Plain
import Derived.Sort.OwnSortedInts
import Derived.Test.YtendheafcbickaaGreatHMg12
import Derived.Test.YtendheafcbickaaGreatHZip
import Derived.Test.YtendheafcbickaaGreatHMg09
import Derived.Test.YtendheafcbickaaGreatHAbsB

set_option linter.unusedVariables false
set_option linter.unusedSimpArgs false
set_option linter.unusedVariables false
namespace Go.Proofs.YtendheafcbickaaGreat
set_option maxRecDepth 100000
attribute [local irreducible] Run RunL QStep GStep Fn Less PL
def mgAdd:Option (List DPiece×DPiece)→DPiece→Option (List DPiece×DPiece)
  | none,p=>some ([],p)
  | some (L,q),p=>if q.Off+q.Data.length=p.Off then some (L,⟨q.Off,q.Data++p.Data⟩) else some (L++[q],p)
def mgAll:Option (List DPiece×DPiece)→List DPiece→Option (List DPiece×DPiece)
  | x,[]=>x
  | x,p :: l=>mgAll (mgAdd x p) l
def mgOut:Option (List DPiece×DPiece)→List DPiece
  | none=>[]
  | some (L,q)=>L++[q]
def mgL (l:List DPiece):List DPiece:=mgOut (mgAll none l)
def szP:List DPiece→Nat
  | []=>0
  | p :: l=>p.Data.length+szP l
def okP3 (p:DPiece):Prop:=0≤p.Off∧p.Off+p.Data.length≤4611686018427387903
noncomputable def mgS (l:List DPiece) (k:Nat):Option (List DPiece×DPiece)→St
  | none=>⟨[(7,.ro (l.map encPiece)),(8,.lit (.int .i64 l.length)),(9,.lit (.int .i64 k)),(3,.own 0)],[(0,some (.rox 235 2 []))],1,Tryz.f252.ntmps⟩
  | some (L,q)=>⟨[(7,.ro (l.map encPiece)),(8,.lit (.int .i64 l.length)),(9,.lit (.int .i64 k)),(3,.own 0)],[(0,some (.rox 235 2 (L.map encPiece++[[.lit (.int .i64 q.Off),.own 1]]))),(1,some (.row 5 1 (q.Data.map encB)))],2,Tryz.f252.ntmps⟩
def mgOk (l:List DPiece) (k:Nat):Option (List DPiece×DPiece)→Prop
  | none=>k=0∧szP (l.drop k)≤140737488355328
  | some (L,q)=>L.length+1≤k∧okP3 q∧q.Data.length+szP (l.drop k)≤140737488355328
end Go.Proofs.YtendheafcbickaaGreat


set_option linter.unusedVariables false
set_option linter.unusedSimpArgs false
set_option linter.unusedVariables false
namespace Go.Proofs.YtendheafcbickaaGreat
set_option maxRecDepth 100000
attribute [local irreducible] Run RunL QStep GStep Fn Less PL FnM
def pcOf (a off:Int) (data:List UInt8) (to:Int):DPiece:=⟨a,(data.take (to - off).toNat).drop (a - off).toNat⟩
def pcAdd (a off:Int) (data:List UInt8) (to:Int) (l:List DPiece):List DPiece:=if a<to then l++[pcOf a off data to] else l
end Go.Proofs.YtendheafcbickaaGreat


set_option linter.unusedVariables false
set_option linter.unusedSimpArgs false
set_option linter.unusedVariables false
namespace Go.Proofs.YtendheafcbickaaGreat
set_option maxRecDepth 100000
attribute [local irreducible] Run RunL QStep GStep Fn Less PL
def gReach (g:DGather):Int:=if 0<g.Held.length then (g.Held.getD (g.Held.length - 1) default).Off+(g.Held.getD (g.Held.length - 1) default).Data.length else g.Done
end Go.Proofs.YtendheafcbickaaGreat


set_option linter.unusedVariables false
set_option linter.unusedSimpArgs false
set_option linter.unusedVariables false
namespace Go.Proofs.YtendheafcbickaaGreat
set_option maxRecDepth 100000
def ptOne (off last:Int) (data:List UInt8) (x:Int×Bool×List DPiece) (p:DPiece):Int×Bool×List DPiece:=
  (max x.1 (p.Off+p.Data.length),x.2.1 || decide (last≤max x.1 (p.Off+p.Data.length)),(if x.2.1=false∧x.1≤p.Off then pcAdd x.1 off data (min p.Off last) x.2.2 else x.2.2)++[p])
def ptAll (off last:Int) (data:List UInt8):Int×Bool×List DPiece→List DPiece→Int×Bool×List DPiece
  | x,[]=>x
  | x,p :: l=>ptAll off last data (ptOne off last data x p) l
def ptEnd (off last:Int) (data:List UInt8) (x:Int×Bool×List DPiece):List DPiece:=pcAdd x.1 off data last x.2.2
def ptL (g:DGather) (off:Int) (data:List UInt8):List DPiece:=ptEnd off (off+data.length) data (ptAll off (off+data.length) data (max off g.Done,false,[]) g.Held)
def putR (g:DGather) (off:Int) (data:List UInt8) (fin:Bool):DGather×Int:=
  if gatherFlt g≠0 then (⟨0,[],0,0⟩,gatherFlt g)
  else if off<0∨4611686018427387903 - data.length<off then (⟨0,[],0,0⟩,6)
  else if (0≤g.Final∧(g.Final<off+data.length∨(fin=true∧off+data.length≠g.Final)))∨(fin=true∧off+data.length<gReach g) then (⟨0,[],0,0⟩,12)
  else if g.Window<off+data.length then (⟨0,[],0,0⟩,11)
  else if 4<(mgL (ptL g off data)).length then (⟨0,[],0,0⟩,8)
  else (⟨g.Done,mgL (ptL g off data),if fin=true then off+data.length else g.Final,g.Window⟩,0)
def ptOk (off:Int) (n:Nat) (x:Int×Bool×List DPiece):Prop:=
  off≤x.1∧x.1≤4611686018427387903∧x.2.2.length≤2 * n∧szP x.2.2≤33554432 * n ∧ ∀ p ∈ x.2.2,okP3 p
end Go.Proofs.YtendheafcbickaaGreat


set_option linter.unusedVariables false
set_option linter.unusedSimpArgs false
set_option linter.unusedVariables false
namespace Go.Proofs.YtendheafcbickaaGreat
set_option maxRecDepth 100000
def fl:Int→List UInt8→List (Int×UInt8)
  | _,[]=>[]
  | o,c :: d=>(o,c) :: fl (o+1) d
def flP (l:List DPiece):List (Int×UInt8):=l.flatMap (fun p=>fl p.Off p.Data)
def one (y:Int×UInt8):DPiece:=⟨y.1,[y.2]⟩
def ascP (l:List (Int×UInt8)):Prop:=l.Pairwise (fun a b=>a.1<b.1)
def okH:Int→List DPiece→Prop
  | _,[]=>True
  | e,p :: l=>p.Data≠[]∧e≤p.Off∧okH (p.Off+p.Data.length) l
def spM (h:List DPiece) (off dn:Int) (data:List UInt8) (y:Int×UInt8):Prop:=y ∈ flP h∨(y ∈ fl off data∧dn≤y.1 ∧ ∀ z ∈ flP h,z.1≠y.1)
structure PtI (h:List DPiece) (off dn:Int) (data:List UInt8) (e:Int) (x:Int×Bool×List DPiece):Prop where
  asc:ascP (flP x.2.2)
  lt:∀ y ∈ flP x.2.2,y.1<e
  at_:x.1=max (max off dn) e
  put:x.2.1=true→off+data.length≤x.1
  ne:∀ p ∈ x.2.2,p.Data≠[]
  mem:∀ y:Int×UInt8,y ∈ flP x.2.2 ↔ y.1<e∧spM h off dn data y
def bput (x:Int) (c:UInt8):List (Int×UInt8)→List (Int×UInt8)
  | []=>[(x,c)]
  | p :: r=>if x=p.1 then (x,c) :: r else p :: bput x c r
def blook (x:Int):List (Int×UInt8)→Option UInt8
  | []=>none
  | p :: r=>if x=p.1 then some p.2 else blook x r
def bAll:List (Int×UInt8)→List (Int×UInt8)→List (Int×UInt8)
  | M,[]=>M
  | M,y :: l=>bAll (bput y.1 y.2 M) l
abbrev ksB (l:List (Int×UInt8)):List Int:=l.map (·.1)
def putsOf (g:DGather) (off:Int) (data:List UInt8):List (Int×UInt8):=(fl off data).filter (fun y=>decide (g.Done≤y.1))++flP g.Held
end Go.Proofs.YtendheafcbickaaGreat


set_option linter.unusedVariables false
namespace Go.Proofs.YtendheafcbickaaGreat
open Go.Shelf
def si191_ren:Go.Shelf.Ren:=⟨fun|191=>263|189=>298|125=>312|257=>314|128=>324|129=>325|294=>334|295=>335|296=>336|297=>337|298=>338|299=>339|216=>340|300=>341|301=>342|328=>348|329=>349|330=>350|331=>351|332=>352|215=>353|343=>355|n=>n,fun|28=>41|0=>0|3=>3|46=>238|51=>368|53=>22|4=>4|183=>380|182=>379|131=>376|5=>5|9=>9|218=>391|222=>389|228=>397|229=>395|n=>n,fun|n=>n⟩
end Go.Proofs.YtendheafcbickaaGreat


set_option linter.unusedVariables false
set_option linter.unusedSimpArgs false
set_option linter.unusedVariables false
namespace Go.Proofs.YtendheafcbickaaGreat
open Go.Shelf Go.RowKit Go.Lib Go.Sort
set_option maxRecDepth 100000
attribute [local irreducible] Run RunL QStep GStep Fn Less PL FnM
noncomputable def srt (l:List Int):List Int:=l.mergeSort fun x y=>decide (x≤y)
end Go.Proofs.YtendheafcbickaaGreat


set_option linter.unusedVariables false
set_option linter.unusedSimpArgs false
set_option linter.unusedVariables false
namespace Go.Proofs.YtendheafcbickaaGreat
set_option maxRecDepth 100000
def kvB (y:Int×UInt8):Value×Value:=(.int .i64 y.1,.int .u8 (y.2.toNat:Int))
def bAt (M:List (Int×UInt8)) (x:Int):UInt8:=(blook x M).getD 0
theorem szP_le:∀ {l:List DPiece} {B:Nat},(∀ p ∈ l,p.Data.length≤B)→szP l≤B * l.length
  | [],_,_=>Nat.zero_le _
  | p :: l,B,h=>by
    have h1:=h p List.mem_cons_self
    have h2:=szP_le (fun q hq=>h q (List.mem_cons_of_mem _ hq))
    have:B * (l.length+1)=B * l.length+B:=Nat.mul_succ _ _
    unfold szP
    rw [List.length_cons];omega
def prOk (P:List Int) (k:Nat):Option (List DPiece×DPiece)→Prop
  | none=>k=0
  | some (L,q)=>1≤k∧L.length+1≤k∧q.Data.length≤k∧P.getD (k - 1) default=q.Off+q.Data.length - 1∧1≤q.Data.length
end Go.Proofs.YtendheafcbickaaGreat


set_option linter.unusedVariables false
set_option linter.unusedSimpArgs false
set_option linter.unusedVariables false
namespace Go.Proofs.YtendheafcbickaaGreat
set_option maxRecDepth 100000
theorem szP_mem:∀ {l:List DPiece} {p:DPiece},p ∈ l→p.Data.length≤szP l
  | [],p,h=>by cases h
  | q :: l,p,h=>by
    unfold szP
    rcases List.mem_cons.1 h with rfl|h
    · omega
    · have:=szP_mem h;omega
end Go.Proofs.YtendheafcbickaaGreat


set_option linter.unusedVariables false
set_option linter.unusedSimpArgs false
set_option linter.unusedVariables false
namespace Go.Proofs.YtendheafcbickaaGreat
set_option maxRecDepth 100000
attribute [local irreducible] Run RunL QStep GStep Fn Less PL
def Apart (l:List DPiece):Prop:=∀ k,k+1<l.length→(l.getD k default).Off+(l.getD k default).Data.length<(l.getD (k+1) default).Off
end Go.Proofs.YtendheafcbickaaGreat


set_option linter.unusedVariables false
set_option linter.unusedSimpArgs false
set_option linter.unusedVariables false
namespace Go.Proofs.YtendheafcbickaaGreat
set_option maxRecDepth 100000
attribute [local irreducible] Run RunL QStep GStep Fn Less PL
def gWiden (g:DGather) (n:Int):DGather×Int:=if gatherFlt g≠0 then (⟨0,[],0,0⟩,gatherFlt g) else if 4611686018427387903<n then (⟨0,[],0,0⟩,6) else (⟨g.Done,g.Held,g.Final,max g.Window n⟩,0)
def gTake (g:DGather):DGather×List UInt8×Bool×Int:=
  if gatherFlt g≠0 then (⟨0,[],0,0⟩,[],false,gatherFlt g)
  else if 0<g.Held.length∧(g.Held.getD 0 default).Off=g.Done then (⟨g.Done+(g.Held.getD 0 default).Data.length,g.Held.drop 1,g.Final,g.Window⟩,(g.Held.getD 0 default).Data,decide (g.Done+(g.Held.getD 0 default).Data.length=g.Final),0)
  else (g,[],decide (g.Done=g.Final),0)
def encTake (r:DGather×List UInt8×Bool×Int):V:=.tup [.agg (encGather r.1),.ro (r.2.1.map encB),.lit (.bool r.2.2.1),.lit (.int .i64 r.2.2.2)]
end Go.Proofs.YtendheafcbickaaGreat


set_option linter.unusedVariables false
set_option linter.unusedSimpArgs false
set_option linter.unusedVariables false
namespace Go.Proofs.YtendheafcbickaaGreat
set_option maxRecDepth 100000
def sepL:List DPiece→Prop
  | []=>True
  | [_]=>True
  | p :: q :: r=>p.Off+p.Data.length≠q.Off∧sepL (q :: r)
def mgI (x:Option (List DPiece×DPiece)):Prop:=sepL (mgOut x) ∧ ∀ p ∈ mgOut x,p.Data≠[]
theorem flt_end {g:DGather} (h:gatherFlt g=0):gHead g ∧ ∃ b,gEnd true g.Done g.Held=some b∧b≤g.Window∧(g.Final<0∨b≤g.Final):=by
  unfold gatherFlt at h
  split at h
  · rename_i hc
    refine ⟨hc.1,?_⟩
    cases he:gEnd true g.Done g.Held with
    | none=>rw [he] at hc;exact absurd hc.2 (by simp [gTail])
    | some b=>
      rw [he] at hc
      have:=hc.2
      unfold gTail at this
      simp at this
      exact ⟨b,rfl,this.1,this.2⟩
  · cases h
end Go.Proofs.YtendheafcbickaaGreat


set_option linter.unusedVariables false
set_option linter.unusedSimpArgs false
set_option linter.unusedVariables false
namespace Go.Proofs.YtendheafcbickaaGreat
set_option maxRecDepth 100000
attribute [local irreducible] Run RunL QStep GStep Fn Less PL FnM
theorem big_fn (n size:Nat) (hs:size≤100):Fn Tryz.prog 172 [.lit (.int .u64 n),.lit (.int .i64 size)] (.lit (.string (strB (bigB n size)))):=by
  refine fn_of_run (by kernel_rfl) Tryz.func172 rfl (by kernel_rfl) ?_
  (repeat' first|(refine go_ ?_;((repeat' first|exact True.intro|refine Two.mk ?_ ?_);all_goals intros))|fail "")
  refine r_for (fun k:Nat=>⟨[(0,.lit (.int .u64 ((n / 256 ^ k:Nat):Int))),(5,.lit (.string (strB (bigB n k)))),(6,.lit (.int .i64 size)),(7,.lit (.int .i64 k))],[],0,Tryz.f172.ntmps⟩)
    (fun k=>k≤size) (fun k=>size - k) 0 (by omega) (by (exact lessA_)) ?_
  intro k hk
  have hl:=bigB_length n k
  have e:=shr8 n k
  by_cases hkn:k<size
  · (repeat' first|(refine s_bstr (l:=[UInt8.ofNat (n / 256 ^ k)]) (hv:=?_) (h:=?_);(focus exact u8_big n k))|(refine s_sadd (r:=bigB n (k+1)) ?_ ?_ (h:=?_);(focus (first|rfl|(simp;done)));(exact Z11_))|(refine p_sadd (r:=bigB n (k+1)) ?_ ?_ (h:=?_);(focus (first|rfl|(simp;done)));(exact Z11_))|(refine goI_ ?_;((repeat' first|exact True.intro|refine Two.mk ?_ ?_);all_goals intros))|refine s_i (h:=?_)|refine s_i (hq:=q_index_ro rfl rfl rfl (by first|exact lit0|exact lit1|exact lit2|exact lit3|rfl) (by simp only [List.length_cons,List.length_nil];omega) rfl rfl rfl rfl) (h:=?_)|refine p_i (h:=?_)|refine p_ih (h:=?_)|refine s_lit (h:=?_)|refine p_lit (h:=?_)|refine p_lit0 (h:=?_)|refine s_lit0 (h:=?_)|refine s_ixa (h:=?_)|refine s_insert (h:=?_)|(refine s_sadd rfl ?_ (h:=?_);(exact Z11_))|(refine p_sadd rfl ?_ (h:=?_);(exact Z11_))|fail "")
    all_goals (rw [e];(refine ⟨k+1,?_,?_,?_⟩;rotate_left 2;(exact lessA_);(exact Z69_);(exact Z69_)))
  · have:k=size:=by omega
    subst this
    (repeat' first|(refine go_ ?_;((repeat' first|exact True.intro|refine Two.mk ?_ ?_);all_goals intros))|fail "")
    all_goals exact ends_ (hr:=rfl)
theorem big8_fn (n:Nat):Fn Tryz.prog 172 [.lit (.int .u64 n),.lit (.int .i64 8)] (.lit (.string (strB (bigB n 8)))):=big_fn n 8 (by omega)
end Go.Proofs.YtendheafcbickaaGreat


set_option linter.unusedVariables false
set_option linter.unusedSimpArgs false
set_option linter.unusedVariables false
namespace Go.Proofs.YtendheafcbickaaGreat
set_option maxRecDepth 100000
attribute [local irreducible] Run RunL QStep GStep Fn Less PL FnM
theorem orLow {k:IntKind} (w a b:Nat) (hb:b<2 ^ w) (hs:2 ^ w * a+b<2 ^ k.bits):(BitVec.ofInt k.bits ((2 ^ w * a:Nat):Int) ||| BitVec.ofInt k.bits (b:Int):BitVec k.bits).toNat=2 ^ w * a+b:=by
  rw [BitVec.toNat_or,BitVec.ofInt_natCast,BitVec.ofInt_natCast,BitVec.toNat_ofNat,BitVec.toNat_ofNat,Nat.mod_eq_of_lt (by omega),Nat.mod_eq_of_lt (by omega),← Nat.two_pow_add_eq_or_of_lt hb]
theorem or64b (a b:Nat) (hb:b<256) (ha:a<18014398509481984):bitsI .or .i64 ((a * 256:Nat):Int) (b:Int)=((a * 256+b:Nat):Int):=by
  have:=orLow (k:=.i64) 8 a b (by omega) (by show 2 ^ 8 * a+b<2 ^ 64;omega)
  unfold bitsI
  dsimp only
  rw [show a * 256=2 ^ 8 * a by omega,this,IntKind.wrap_i64]
  omega
theorem orU8 (w f n:Nat) (hf:f % 2 ^ w=0) (hn:n<2 ^ w) (hs:f+n<256):bitsI .or .u8 (f:Int) (n:Int)=((f+n:Nat):Int):=by
  have hd:2 ^ w * (f / 2 ^ w)=f:=by have:=Nat.div_add_mod f (2 ^ w);omega
  have:=orLow (k:=.u8) w (f / 2 ^ w) n hn (by rw [hd];show f+n<2 ^ 8;omega)
  rw [hd] at this
  show IntKind.u8.wrap _=_
  rw [this,IntKind.wrap_u8]
  omega
def numG (a:Nat) (l:List UInt8):Nat:=l.foldl (fun a c=>a * 256+c.toNat) a
theorem numG_snoc (a:Nat) (l:List UInt8) (c:UInt8):numG a (l++[c])=numG a l * 256+c.toNat:=by unfold numG;rw [List.foldl_append];rfl
theorem numG_cons (a:Nat) (l:List UInt8) (c:UInt8):numG a (c :: l)=numG (a * 256+c.toNat) l:=rfl
theorem numG_add:∀ (l:List UInt8) (a:Nat),numG a l=a * 256 ^ l.length+numB l
  | [],a=>by simp [numG,numB]
  | c :: l,a=>by
    rw [numG_cons,numG_add l,show numB (c :: l)=numG (0 * 256+c.toNat) l from rfl,numG_add l,List.length_cons,Nat.pow_succ]
    simp only [Nat.zero_mul,Nat.zero_add,Nat.add_mul,Nat.add_assoc]
    rw [Nat.mul_assoc,Nat.mul_comm 256]
theorem numG_lt (a:Nat) (l:List UInt8):numG a l<(a+1) * 256 ^ l.length:=by
  rw [numG_add,Nat.add_mul]
  have:=numB_lt l.length l rfl
  omega
theorem shl8 (n:Nat) (h:n<18014398509481984):IntKind.i64.wrap ((n:Int) * 2 ^ min (8:Int).toNat IntKind.i64.bits)=((n * 256:Nat):Int):=by
  rw [show (2:Int) ^ min (8:Int).toNat IntKind.i64.bits=256 from rfl,IntKind.wrap_i64]
  omega
end Go.Proofs.YtendheafcbickaaGreat
