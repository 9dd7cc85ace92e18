/-
  SEVERAL TEXTS IN ONE: each with its own comment.
-/
import Derived.Test.YtendheafcbickaaGreatRgsCut
import Derived.Test.YtendheafcbickaaGreatZip
import Derived.Test.YtendheafcbickaaGreatGo
import Derived.Test.YtendheafcbickaaGreatAbsB
import Derived.Test.YtendheafcbickaaGreatProg
import Derived.Shelf.SlSortFuncK.WholeK
import Derived.Shelf.GgSortFunc.Tiny
import Derived.Deep.QuietTactic
import Derived.WalkKit

set_option linter.unusedVariables false
set_option linter.unusedSimpArgs false
set_option linter.unusedVariables false
namespace Go.Proofs.YtendheafcbickaaGreat
def inL (l:List DRange) (n:Int):Prop:=∃ x ∈ l,x.Lo≤n∧n≤x.Hi
theorem inL_nil {n:Int}:¬ inL [] n:=fun ⟨_,h,_⟩=>by cases h
theorem inL_cons {x:DRange} {l:List DRange} {n:Int}:inL (x :: l) n ↔ (x.Lo≤n∧n≤x.Hi)∨inL l n:=by
  constructor
  · rintro ⟨y,hy,h⟩
    rcases List.mem_cons.1 hy with rfl|hy
    · exact .inl h
    · exact .inr ⟨y,hy,h⟩
  · rintro (h | ⟨y,hy,h⟩)
    · exact ⟨x,List.mem_cons_self ..,h⟩
    · exact ⟨y,List.mem_cons_of_mem _ hy,h⟩
theorem inL_app {l m:List DRange} {n:Int}:inL (l++m) n ↔ inL l n∨inL m n:=by
  induction l with
  | nil=>simp [inL_nil]
  | cons x l ih=>rw [List.cons_append,inL_cons,inL_cons,ih,or_assoc]
theorem inL_one {x:DRange} {n:Int}:inL [x] n ↔ x.Lo≤n∧n≤x.Hi:=by rw [inL_cons];simp [inL_nil]
theorem inL_perm {l m:List DRange} (h:∀ x,x ∈ l ↔ x ∈ m) {n:Int}:inL l n ↔ inL m n:=
  ⟨fun ⟨x,hx,q⟩=>⟨x,(h x).1 hx,q⟩,fun ⟨x,hx,q⟩=>⟨x,(h x).2 hx,q⟩⟩
theorem rSet_in {l:List DRange} {a:Int} (h:rSet a l) {n:Int} (hn:inL l n):a+2≤n:=by
  obtain ⟨x,hx,h1,h2⟩:=hn
  have:=(rSet_good h x hx).2
  omega
theorem inL_lo {l:List DRange} {a:Int} (h:rSet a l) {x:DRange} (hx:x ∈ l):inL l x.Lo∧inL l x.Hi:=by
  have hg:=(rSet_good h x hx).1
  unfold rGood at hg
  exact ⟨⟨x,hx,Int.le_refl _,hg.2.1⟩,⟨x,hx,hg.2.1,Int.le_refl _⟩⟩
theorem rSet_uniq:∀ {l m:List DRange} {a b:Int},rSet a l→rSet b m→(∀ n,inL l n ↔ inL m n)→l=m
  | [],[],_,_,_,_,_=>rfl
  | [],y :: m,_,_,_,h,e=>absurd ((e y.Lo).2 (inL_lo h (List.mem_cons_self ..)).1) inL_nil
  | x :: l,[],_,_,h,_,e=>absurd ((e x.Lo).1 (inL_lo h (List.mem_cons_self ..)).1) inL_nil
  | x :: l,y :: m,a,b,hl,hm,e=>by
    have gx:=hl.1
    have gy:=hm.1
    unfold rGood at gx gy
    have bl:∀ n,inL l n→x.Hi+2≤n:=fun n h=>rSet_in hl.2.2 h
    have bm:∀ n,inL m n→y.Hi+2≤n:=fun n h=>rSet_in hm.2.2 h
    have key:∀ n,((x.Lo≤n∧n≤x.Hi)∨inL l n) ↔ ((y.Lo≤n∧n≤y.Hi)∨inL m n):=fun n=>by rw [← inL_cons,← inL_cons];exact e n
    have hlo:x.Lo=y.Lo:=by
      have h1:=(key x.Lo).1 (.inl (by omega))
      have h2:=(key y.Lo).2 (.inl (by omega))
      rcases h1 with h1|h1
      · rcases h2 with h2|h2
        · omega
        · have:=bl _ h2;omega
      · rcases h2 with h2|h2
        · have:=bm _ h1;omega
        · have:=bl _ h2;have:=bm _ h1;omega
    have hhi:x.Hi=y.Hi:=by
      rcases Int.lt_trichotomy x.Hi y.Hi with h|h|h
      · exfalso
        rcases (key (x.Hi+1)).2 (.inl (by omega)) with h1|h1
        · omega
        · have:=bl _ h1;omega
      · exact h
      · exfalso
        rcases (key (y.Hi+1)).1 (.inl (by omega)) with h1|h1
        · omega
        · have:=bm _ h1;omega
    have hxy:x=y:=ext_Range hlo hhi
    subst hxy
    congr 1
    refine rSet_uniq hl.2.2 hm.2.2 (fun n=>⟨fun h=>?_,fun h=>?_⟩)
    · rcases (key n).1 (.inr h) with h1|h1
      · have:=bl _ h;omega
      · exact h1
    · rcases (key n).2 (.inr h) with h1|h1
      · have:=bm _ h;omega
      · exact h1
def rAdd:List DRange→DRange→List DRange
  | [],r=>[r]
  | x :: l,r=>if x.Hi+1<r.Lo then x :: rAdd l r else if r.Hi+1<x.Lo then r :: x :: l else rAdd l ⟨min r.Lo x.Lo,max r.Hi x.Hi⟩
theorem rAdd_in:∀ {l:List DRange} {r:DRange} {n:Int},r.Lo≤r.Hi→(∀ x ∈ l,x.Lo≤x.Hi)→(inL (rAdd l r) n ↔ inL l n∨(r.Lo≤n∧n≤r.Hi))
  | [],r,n,_,_=>by unfold rAdd;rw [inL_one];simp [inL_nil]
  | x :: l,r,n,hr,hx=>by
    have h1:=hx x (List.mem_cons_self ..)
    have hl:=fun y hy=>hx y (List.mem_cons_of_mem x hy)
    unfold rAdd
    split
    · rw [inL_cons,inL_cons,rAdd_in hr hl,or_assoc]
    · split
      · rw [inL_cons,or_comm]
      · rw [rAdd_in (r:=⟨min r.Lo x.Lo,max r.Hi x.Hi⟩) (show min r.Lo x.Lo≤max r.Hi x.Hi by omega) hl,inL_cons]
        dsimp only
        constructor
        · rintro (h|h)
          · exact .inl (.inr h)
          · by_cases h2:r.Lo≤n∧n≤r.Hi
            · exact .inr h2
            · exact .inl (.inl (by omega))
        · rintro ((h|h)|h)
          · exact .inr (by omega)
          · exact .inl h
          · exact .inr (by omega)
theorem rAdd_set:∀ {l:List DRange} {r:DRange} {a:Int},rSet a l→rGood r→a+2≤r.Lo→rSet a (rAdd l r)
  | [],r,a,_,hr,ha=>⟨hr,ha,trivial⟩
  | x :: l,r,a,h,hr,ha=>by
    have hx:=h.1
    have h2:=h.2.1
    unfold rAdd
    split
    · exact ⟨hx,h2,rAdd_set h.2.2 hr (by omega)⟩
    · split
      · exact ⟨hr,ha,hx,by omega,h.2.2⟩
      · unfold rGood at hx hr
        exact rAdd_set (rSet_weak h.2.2 (by omega)) (by unfold rGood;dsimp only;omega) (by dsimp only;omega)
theorem rAdd_len:∀ (l:List DRange) (r:DRange),(rAdd l r).length≤l.length+1
  | [],r=>by simp [rAdd]
  | x :: l,r=>by
    unfold rAdd
    split
    · have:=rAdd_len l r;simp;omega
    · split
      · simp
      · have:=rAdd_len l ⟨min r.Lo x.Lo,max r.Hi x.Hi⟩;simp;omega
def jn (c:DRange):List DRange→List DRange
  | []=>[c]
  | r :: m=>if r.Lo≤c.Hi+1 then jn ⟨c.Lo,max c.Hi r.Hi⟩ m else c :: jn r m
def jnd:List DRange→List DRange
  | []=>[]
  | x :: m=>jn x m
def sortL:Int→List DRange→Prop
  | _,[]=>True
  | a,x :: l=>a≤x.Lo∧sortL x.Lo l
theorem sortL_weak:∀ {l:List DRange} {a b:Int},sortL a l→b≤a→sortL b l
  | [],_,_,_,_=>trivial
  | x :: l,a,b,h,hb=>⟨by have:=h.1;omega,h.2⟩
theorem jn_in:∀ {m:List DRange} {c:DRange} {n:Int},c.Lo≤c.Hi→(∀ x ∈ m,x.Lo≤x.Hi)→sortL c.Lo m→(inL (jn c m) n ↔ (c.Lo≤n∧n≤c.Hi)∨inL m n)
  | [],c,n,_,_,_=>by unfold jn;rw [inL_one];simp [inL_nil]
  | r :: m,c,n,hc,hm,hs=>by
    have h1:=hm r (List.mem_cons_self ..)
    have hl:=fun y hy=>hm y (List.mem_cons_of_mem r hy)
    have h2:=hs.1
    unfold jn
    split
    · rw [jn_in (c:=⟨c.Lo,max c.Hi r.Hi⟩) (show c.Lo≤max c.Hi r.Hi by omega) hl (sortL_weak hs.2 h2),inL_cons]
      dsimp only
      constructor
      · rintro (h|h)
        · by_cases h3:c.Lo≤n∧n≤c.Hi
          · exact .inl h3
          · exact .inr (.inl (by omega))
        · exact .inr (.inr h)
      · rintro (h|h|h)
        · exact .inl (by omega)
        · exact .inl (by omega)
        · exact .inr h
    · rw [inL_cons,jn_in h1 hl hs.2,inL_cons]
theorem jn_set:∀ {m:List DRange} {c:DRange} {a:Int},rGood c→(∀ x ∈ m,rGood x)→sortL c.Lo m→a+2≤c.Lo→rSet a (jn c m)
  | [],c,a,hc,_,_,ha=>⟨hc,ha,trivial⟩
  | r :: m,c,a,hc,hm,hs,ha=>by
    have h1:=hm r (List.mem_cons_self ..)
    have hl:=fun y hy=>hm y (List.mem_cons_of_mem r hy)
    have h2:=hs.1
    unfold jn
    split
    · unfold rGood at hc h1
      exact jn_set (by unfold rGood;dsimp only;omega) hl (sortL_weak hs.2 h2) ha
    · exact ⟨hc,ha,jn_set h1 hl hs.2 (by omega)⟩
theorem jnd_in {m:List DRange} (hm:∀ x ∈ m,rGood x) (hs:sortL 0 m) {n:Int}:inL (jnd m) n ↔ inL m n:=by
  cases m with
  | nil=>exact Iff.rfl
  | cons x m=>
    unfold jnd
    rw [jn_in (hm x (List.mem_cons_self ..)).2.1 (fun y hy=>(hm y (List.mem_cons_of_mem _ hy)).2.1) hs.2,inL_cons]
theorem jnd_set {m:List DRange} (hm:∀ x ∈ m,rGood x) (hs:sortL 0 m):rSet (-2) (jnd m):=by
  cases m with
  | nil=>trivial
  | cons x m=>
    have h1:=hm x (List.mem_cons_self ..)
    exact jn_set h1 (fun y hy=>hm y (List.mem_cons_of_mem _ hy)) hs.2 (by unfold rGood at h1;omega)
theorem jnd_eq {l m R:List DRange} (hm:∀ x,x ∈ m ↔ x ∈ l) (hl:∀ x ∈ l,rGood x) (hs:sortL 0 m) (hR:rSet (-2) R) (hin:∀ n,inL R n ↔ inL l n):jnd m=R:=by
  have hm2:∀ x ∈ m,rGood x:=fun x hx=>hl x ((hm x).1 hx)
  exact rSet_uniq (jnd_set hm2 hs) hR (fun n=>by rw [jnd_in hm2 hs,hin,inL_perm hm])
def rAddR (l:List DRange) (r:DRange):List DRange×Int:=if rgFlt l r≠0 then ([],rgFlt l r) else (rAdd l r,0)
end Go.Proofs.YtendheafcbickaaGreat


set_option linter.unusedVariables false
set_option linter.unusedSimpArgs false
set_option linter.unusedVariables false
namespace Go.Proofs.YtendheafcbickaaGreat
set_option maxRecDepth 100000
attribute [local irreducible] Run RunL QStep GStep Fn Less PL FnM
structure AddSt where
  k:Nat
  r:DRange
  put:Bool
  out:List DRange
structure AddOk (l A:List DRange) (x:AddSt):Prop where
  k:x.k≤l.length
  r:rGood x.r
  no:x.put=false→x.out++rAdd (l.drop x.k) x.r=A∧x.out.length≤x.k
  yes:x.put=true→x.out++l.drop x.k=A∧x.out.length≤x.k+1∧rSet x.r.Hi (l.drop x.k)
theorem rSet_at:∀ {l:List DRange} {a:Int} {k:Nat},rSet a l→k<l.length→rSet (l.getD k default).Hi (l.drop (k+1))
  | [],_,_,_,h=>by simp at h
  | x :: l,a,0,h,_=>h.2.2
  | x :: l,a,k+1,h,hk=>by
    have:=rSet_at (k:=k) h.2.2 (by simpa using hk)
    simpa using this
set_option maxHeartbeats 2000000 in
theorem add_fn (l:List DRange) (r:DRange) (hw:∀ y,y ∈ l→wfRange y) (hl:l.length * 16≤140737488355312):Fn Tryz.prog 241 [.ro (l.map encRange),.agg (encRange r)] (.tup [.ro ((rAddR l r).1.map encRange),.lit (.int .i64 (rAddR l r).2)]):=by
  have h1:=rangesFaultR_fn l r hw hl
  unfold rAddR
  by_cases h0:rgFlt l r=0
  · obtain ⟨hs,hr⟩:=rgFlt_ok h0
    rw [h0] at h1 ⊢
    rw [if_neg (by omega)]
    generalize hA:rAdd l r=A
    dsimp only
    refine fn_of_run (by kernel_rfl) Tryz.func241 rfl (by kernel_rfl) ?_
    (repeat' first|(refine s_call (h1) (h:=?_))|(refine p_call (h1) (h:=?_))|(refine go_ ?_;((repeat' first|exact True.intro|refine Two.mk ?_ ?_);all_goals intros))|fail "")
    refine r_for (fun x:AddSt=>⟨[(3,.ptr 0 0 0 0),(17,.ro (l.map encRange)),(18,.lit (.int .i64 l.length)),(19,.lit (.int .i64 x.k)),(7,.own 1),(8,.lit (.bool x.put))],[(0,some (.box 146 (encRange x.r))),(1,some (.row 146 2 (x.out.map encRange)))],2,Tryz.f241.ntmps⟩)
      (AddOk l A) (fun x=>l.length - x.k) (AddSt.mk 0 r false []) ⟨Nat.zero_le _,hr,fun _=>⟨hA,Nat.zero_le _⟩,fun h=>by cases h⟩ ((less_own (n:=1) (t:=7) 146 2 rfl rfl rfl).trans less_to) ?_
    rintro ⟨k,r,b,out⟩ ⟨hk,hr,hno,hyes⟩
    dsimp only at hk hr hno hyes ⊢
    by_cases hkn:k<l.length
    · obtain ⟨hx,hx2⟩:=rSet_good hs _ (getD_mem hkn)
      rw [drop_cons hkn] at hno hyes
      have hx0:=hx
      have hr0:=hr
      have hdr:rSet (l.getD k default).Hi (l.drop (k+1)):=rSet_at hs hkn
      unfold rGood at hx hr
      cases b
      · obtain ⟨hno,hlo⟩:=hno rfl
        clear hyes h1 hA
        unfold rAdd at hno
        by_cases c1:(l.getD k default).Hi+1<r.Lo
        · rw [if_pos c1] at hno
          (repeat' first|(refine s_app (r:=(out++[l.getD k default]).map encRange) ?_ ?_ ?_ ?_ (h:=?_);(exact Z65_);(exact Z42_);(exact Z10_);(exact Z21_))|(refine s_app0R (r:=(out++[l.getD k default]).map encRange) ?_ ?_ ?_ ?_ (h:=?_);(exact Z65_);(exact Z42_);(exact Z10_);(exact Z21_))|(refine p_app (r:=(out++[l.getD k default]).map encRange) ?_ ?_ ?_ ?_ (h:=?_);(exact Z65_);(exact Z42_);(exact Z10_);(exact Z21_))|(refine go_ ?_;((repeat' first|exact True.intro|refine Two.mk ?_ ?_);all_goals intros))|fail "")
          all_goals (refine ⟨AddSt.mk (k+1) r false (out++[l.getD k default]),?_,?_,?_⟩;rotate_left 2;(exact lessA_);(focus ((dsimp only;omega)));(focus (exact ⟨hkn,hr0,fun _=>⟨by rw [← hno];simp,by simp;omega⟩,fun h=>by cases h⟩)))
        · rw [if_neg c1] at hno
          by_cases c2:r.Hi+1<(l.getD k default).Lo
          · rw [if_pos c2] at hno
            (repeat' first|(refine s_app (r:=(out++[r]).map encRange) ?_ ?_ ?_ ?_ (h:=?_);(exact Z65_);(exact Z42_);(exact Z10_);(exact Z21_))|(refine s_app0R (r:=(out++[r]).map encRange) ?_ ?_ ?_ ?_ (h:=?_);(exact Z65_);(exact Z42_);(exact Z10_);(exact Z21_))|(refine p_app (r:=(out++[r]).map encRange) ?_ ?_ ?_ ?_ (h:=?_);(exact Z65_);(exact Z42_);(exact Z10_);(exact Z21_))|(refine s_app (r:=(out++[r]++[l.getD k default]).map encRange) ?_ ?_ ?_ ?_ (h:=?_);(exact Z44_);(exact Z42_);(exact Z10_);(exact Z21_))|(refine s_app0R (r:=(out++[r]++[l.getD k default]).map encRange) ?_ ?_ ?_ ?_ (h:=?_);(exact Z44_);(exact Z42_);(exact Z10_);(exact Z21_))|(refine p_app (r:=(out++[r]++[l.getD k default]).map encRange) ?_ ?_ ?_ ?_ (h:=?_);(exact Z44_);(exact Z42_);(exact Z10_);(exact Z21_))|(refine go_ ?_;((repeat' first|exact True.intro|refine Two.mk ?_ ?_);all_goals intros))|fail "")
            all_goals (refine ⟨AddSt.mk (k+1) r true (out++[r]++[l.getD k default]),?_,?_,?_⟩;rotate_left 2;(exact lessA_);(focus ((dsimp only;omega)));(focus (exact ⟨hkn,hr0,fun h=>(by cases h),fun _=>⟨by rw [← hno];simp,by simp;omega,rSet_weak hdr (by dsimp only;omega)⟩⟩)))
          · rw [if_neg c2] at hno
            (repeat' first|(refine go_ ?_;((repeat' first|exact True.intro|refine Two.mk ?_ ?_);all_goals intros))|fail "")
            all_goals (refine ⟨AddSt.mk (k+1) ⟨min r.Lo (l.getD k default).Lo,max r.Hi (l.getD k default).Hi⟩ false out,?_,?_,?_⟩;rotate_left 2;(exact lessA_);(focus ((dsimp only;omega)));(focus (exact ⟨hkn,by unfold rGood;dsimp only;omega,fun _=>⟨hno,by dsimp only;omega⟩,fun h=>by cases h⟩)))
      · obtain ⟨hyes,hlo,hse⟩:=hyes rfl
        have hb:=hse.2.1
        clear hno h1 hA
        (repeat' first|(refine s_app (r:=(out++[l.getD k default]).map encRange) ?_ ?_ ?_ ?_ (h:=?_);(exact Z65_);(exact Z42_);(exact Z10_);(exact Z21_))|(refine s_app0R (r:=(out++[l.getD k default]).map encRange) ?_ ?_ ?_ ?_ (h:=?_);(exact Z65_);(exact Z42_);(exact Z10_);(exact Z21_))|(refine p_app (r:=(out++[l.getD k default]).map encRange) ?_ ?_ ?_ ?_ (h:=?_);(exact Z65_);(exact Z42_);(exact Z10_);(exact Z21_))|(refine go_ ?_;((repeat' first|exact True.intro|refine Two.mk ?_ ?_);all_goals intros))|fail "")
        all_goals (refine ⟨AddSt.mk (k+1) r true (out++[l.getD k default]),?_,?_,?_⟩;rotate_left 2;(exact lessA_);(focus ((dsimp only;omega)));(focus (exact ⟨hkn,hr0,fun h=>(by cases h),fun _=>⟨by rw [← hyes];simp,by simp;omega,rSet_weak hse.2.2 (by dsimp only;omega)⟩⟩)))
    · have hd:l.drop k=[]:=List.drop_eq_nil_of_le (by omega)
      rw [hd] at hno hyes
      cases b
      · obtain ⟨hno,hlo⟩:=hno rfl
        (repeat' first|(refine s_app (r:=A.map encRange) ?_ ?_ ?_ ?_ (h:=?_);(exact Z33_);(exact Z42_);(exact Z10_);(exact Z21_))|(refine s_app0R (r:=A.map encRange) ?_ ?_ ?_ ?_ (h:=?_);(exact Z33_);(exact Z42_);(exact Z10_);(exact Z21_))|(refine p_app (r:=A.map encRange) ?_ ?_ ?_ ?_ (h:=?_);(exact Z33_);(exact Z42_);(exact Z10_);(exact Z21_))|(refine go_ ?_;((repeat' first|exact True.intro|refine Two.mk ?_ ?_);all_goals intros))|fail "")
        all_goals (refine ends_ (hr:=?_);rfl)
      · obtain ⟨hyes,hlo,_⟩:=hyes rfl
        rw [List.append_nil] at hyes
        (repeat' first|(refine go_ ?_;((repeat' first|exact True.intro|refine Two.mk ?_ ?_);all_goals intros))|fail "")
        all_goals (refine ends_ (hr:=?_);rw [hyes])
  · rw [if_pos h0]
    generalize rgFlt l r=e at *
    refine fn_of_run (by kernel_rfl) Tryz.func241 rfl (by kernel_rfl) ?_
    (repeat' first|(refine s_call (h1) (h:=?_))|(refine p_call (h1) (h:=?_))|(refine go_ ?_;((repeat' first|exact True.intro|refine Two.mk ?_ ?_);all_goals intros))|fail "")
    all_goals (exact endwA_)
end Go.Proofs.YtendheafcbickaaGreat


set_option linter.unusedVariables false
namespace Go.Proofs.YtendheafcbickaaGreat
open Go.Shelf
def sl6_ren:Go.Shelf.Ren:=⟨fun|6=>295|10=>309|11=>310|12=>311|13=>312|14=>313|24=>324|25=>325|26=>326|27=>327|28=>328|29=>329|30=>330|31=>331|32=>332|33=>333|34=>343|35=>344|36=>345|37=>346|38=>347|39=>354|n=>n,fun|20=>20|26=>108|35=>355|0=>0|37=>357|3=>3|41=>238|44=>362|49=>368|51=>22|4=>4|54=>372|53=>371|58=>376|5=>5|9=>9|60=>385|64=>389|66=>394|67=>395|17=>17|32=>352|33=>353|82=>412|12=>12|75=>405|76=>406|77=>407|78=>408|79=>409|80=>410|n=>n,fun|n=>n⟩
theorem sl6:Go.Proofs.LaysGg.n6 Tryz.prog sl6_ren:={
  mixed:=by kernel_rfl,
  f6:=Tryz.func295.trans (congrArg some (by kernel_rfl)),
  f10:=Tryz.func309.trans (congrArg some (by kernel_rfl)),
  f11:=Tryz.func310.trans (congrArg some (by kernel_rfl)),
  f12:=Tryz.func311.trans (congrArg some (by kernel_rfl)),
  f13:=Tryz.func312.trans (congrArg some (by kernel_rfl)),
  f14:=Tryz.func313.trans (congrArg some (by kernel_rfl)),
  f24:=Tryz.func324.trans (congrArg some (by kernel_rfl)),
  f25:=Tryz.func325.trans (congrArg some (by kernel_rfl)),
  f26:=Tryz.func326.trans (congrArg some (by kernel_rfl)),
  f27:=Tryz.func327.trans (congrArg some (by kernel_rfl)),
  f28:=Tryz.func328.trans (congrArg some (by kernel_rfl)),
  f29:=Tryz.func329.trans (congrArg some (by kernel_rfl)),
  f30:=Tryz.func330.trans (congrArg some (by kernel_rfl)),
  f31:=Tryz.func331.trans (congrArg some (by kernel_rfl)),
  f32:=Tryz.func332.trans (congrArg some (by kernel_rfl)),
  f33:=Tryz.func333.trans (congrArg some (by kernel_rfl)),
  f34:=Tryz.func343.trans (congrArg some (by kernel_rfl)),
  f35:=Tryz.func344.trans (congrArg some (by kernel_rfl)),
  f36:=Tryz.func345.trans (congrArg some (by kernel_rfl)),
  f37:=Tryz.func346.trans (congrArg some (by kernel_rfl)),
  f38:=Tryz.func347.trans (congrArg some (by kernel_rfl)),
  f39:=Tryz.func354.trans (congrArg some (by kernel_rfl)),
  t0:=Tryz.underlying0,
  a0:=Tryz.isAgg0,
  z0:=Tryz.sizeOf0,
  v0:=Tryz.zeroValue0,
  i0:=by kernel_rfl,
  t3:=Tryz.underlying3,
  a3:=Tryz.isAgg3,
  z3:=Tryz.sizeOf3,
  v3:=Tryz.zeroValue3,
  i3:=by kernel_rfl,
  t4:=Tryz.underlying4,
  a4:=Tryz.isAgg4,
  z4:=Tryz.sizeOf4,
  v4:=Tryz.zeroValue4,
  i4:=by kernel_rfl,
  t5:=Tryz.underlying5,
  a5:=Tryz.isAgg5,
  z5:=Tryz.sizeOf5,
  v5:=Tryz.zeroValue5,
  i5:=by kernel_rfl,
  t9:=Tryz.underlying9,
  a9:=Tryz.isAgg9,
  z9:=Tryz.sizeOf9,
  v9:=Tryz.zeroValue9,
  i9:=by kernel_rfl,
  t12:=Tryz.underlying12,
  a12:=Tryz.isAgg12,
  z12:=Tryz.sizeOf12,
  v12:=Tryz.zeroValue12,
  i12:=by kernel_rfl,
  t17:=Tryz.underlying17,
  a17:=Tryz.isAgg17,
  z17:=Tryz.sizeOf17,
  v17:=Tryz.zeroValue17,
  i17:=by kernel_rfl,
  t20:=Tryz.underlying20,
  a20:=Tryz.isAgg20,
  z20:=Tryz.sizeOf20,
  v20:=Tryz.zeroValue20,
  i20:=by kernel_rfl,
  t26:=Tryz.underlying108,
  a26:=Tryz.isAgg108,
  z26:=Tryz.sizeOf108,
  v26:=Tryz.zeroValue108,
  i26:=by kernel_rfl,
  t32:=Tryz.underlying352,
  a32:=Tryz.isAgg352,
  z32:=Tryz.sizeOf352,
  v32:=Tryz.zeroValue352,
  i32:=by kernel_rfl,
  t33:=Tryz.underlying353,
  a33:=Tryz.isAgg353,
  z33:=Tryz.sizeOf353,
  v33:=Tryz.zeroValue353,
  i33:=by kernel_rfl,
  t35:=Tryz.underlying355,
  a35:=Tryz.isAgg355,
  z35:=Tryz.sizeOf355,
  v35:=Tryz.zeroValue355,
  i35:=by kernel_rfl,
  t37:=Tryz.underlying357,
  a37:=Tryz.isAgg357,
  z37:=Tryz.sizeOf357,
  v37:=Tryz.zeroValue357,
  i37:=by kernel_rfl,
  t41:=Tryz.underlying238,
  a41:=Tryz.isAgg238,
  z41:=Tryz.sizeOf238,
  v41:=Tryz.zeroValue238,
  i41:=by kernel_rfl,
  t44:=Tryz.underlying362,
  a44:=Tryz.isAgg362,
  z44:=Tryz.sizeOf362,
  v44:=Tryz.zeroValue362,
  i44:=by kernel_rfl,
  t49:=Tryz.underlying368,
  a49:=Tryz.isAgg368,
  z49:=Tryz.sizeOf368,
  v49:=Tryz.zeroValue368,
  i49:=by kernel_rfl,
  t51:=Tryz.underlying22,
  a51:=Tryz.isAgg22,
  z51:=Tryz.sizeOf22,
  v51:=Tryz.zeroValue22,
  i51:=by kernel_rfl,
  t53:=Tryz.underlying371,
  a53:=Tryz.isAgg371,
  z53:=Tryz.sizeOf371,
  v53:=Tryz.zeroValue371,
  i53:=by kernel_rfl,
  t54:=Tryz.underlying372,
  a54:=Tryz.isAgg372,
  z54:=Tryz.sizeOf372,
  v54:=Tryz.zeroValue372,
  i54:=by kernel_rfl,
  t58:=Tryz.underlying376,
  a58:=Tryz.isAgg376,
  z58:=Tryz.sizeOf376,
  v58:=Tryz.zeroValue376,
  i58:=by kernel_rfl,
  t60:=Tryz.underlying385,
  a60:=Tryz.isAgg385,
  z60:=Tryz.sizeOf385,
  v60:=Tryz.zeroValue385,
  i60:=by kernel_rfl,
  t64:=Tryz.underlying389,
  a64:=Tryz.isAgg389,
  z64:=Tryz.sizeOf389,
  v64:=Tryz.zeroValue389,
  i64:=by kernel_rfl,
  t66:=Tryz.underlying394,
  a66:=Tryz.isAgg394,
  z66:=Tryz.sizeOf394,
  v66:=Tryz.zeroValue394,
  i66:=by kernel_rfl,
  t67:=Tryz.underlying395,
  a67:=Tryz.isAgg395,
  z67:=Tryz.sizeOf395,
  v67:=Tryz.zeroValue395,
  i67:=by kernel_rfl,
  t75:=Tryz.underlying405,
  a75:=Tryz.isAgg405,
  z75:=Tryz.sizeOf405,
  v75:=Tryz.zeroValue405,
  i75:=by kernel_rfl,
  t76:=Tryz.underlying406,
  a76:=Tryz.isAgg406,
  z76:=Tryz.sizeOf406,
  v76:=Tryz.zeroValue406,
  i76:=by kernel_rfl,
  t77:=Tryz.underlying407,
  a77:=Tryz.isAgg407,
  z77:=Tryz.sizeOf407,
  v77:=Tryz.zeroValue407,
  i77:=by kernel_rfl,
  t78:=Tryz.underlying408,
  a78:=Tryz.isAgg408,
  z78:=Tryz.sizeOf408,
  v78:=Tryz.zeroValue408,
  i78:=by kernel_rfl,
  t79:=Tryz.underlying409,
  a79:=Tryz.isAgg409,
  z79:=Tryz.sizeOf409,
  v79:=Tryz.zeroValue409,
  i79:=by kernel_rfl,
  t80:=Tryz.underlying410,
  a80:=Tryz.isAgg410,
  z80:=Tryz.sizeOf410,
  v80:=Tryz.zeroValue410,
  i80:=by kernel_rfl,
  t82:=Tryz.underlying412,
  a82:=Tryz.isAgg412,
  z82:=Tryz.sizeOf412,
  v82:=Tryz.zeroValue412,
  i82:=by kernel_rfl }
end Go.Proofs.YtendheafcbickaaGreat


set_option linter.unusedVariables false
set_option linter.unusedSimpArgs false
set_option linter.unusedVariables false
namespace Go.Proofs.YtendheafcbickaaGreat
open Go.Shelf Go.RowKit Go.Lib Go.Sort
set_option maxRecDepth 100000
def eR (r:DRange):List Value:=[.int .i64 r.Lo,.int .i64 r.Hi]
def ltR (a b:DRange):Bool:=decide (a.Lo<b.Lo)
theorem swo_ltR:SWO ltR where
  irrefl:=fun x=>by simp [ltR]
  trans:=fun x y z h1 h2=>by simp [ltR] at *;omega
  ntrans:=fun x y z h1 h2=>by simp [ltR] at *;omega
noncomputable def srT:TypeInfo:=(Tryz.prog.info? 40).get (by kernel_rfl)
noncomputable def srE:TypeInfo:=(Tryz.prog.info? 146).get (by kernel_rfl)
theorem srK (n:Nat) (h2:2≤n):Lib.swapperK n srE 25=9:=by
  have a:srE.hasPointers=false:=by kernel_rfl
  have b:srE.bytes=16:=by kernel_rfl
  have c:(n == 0)=false:=by simp;omega
  have d:(n == 1)=false:=by simp;omega
  simp [Lib.swapperK,a,b,c,d]
set_option maxHeartbeats 2000000 in
theorem lessR (blk off c Bs size:Nat) (W:World) (G:Nat→Int) (hs:W.cell? ⟨Bs,0,none⟩=some (.slice (some ⟨blk,off,none⟩) size c))
    (hc:∀ t,t<size→W.cell? ⟨blk,off+t * 2,none⟩=some (.int .i64 (G t))) (i j:Nat) (hi:i<size) (hj:j<size) (_hsz:size<4611686018427387904) :
    Calls Tryz.prog 296 #[.int .i64 i,.int .i64 j,.pointer (some ⟨Bs,0,none⟩)] W fun e w'=>e = .returned (.bool (decide (G i<G j))) ∧ ∃ q,w' = W.drewN q:=by
  have ci:=hc i hi
  have cj:=hc j hj
  go_enter Tryz.func296,Tryz.ntmps296
  go_wp2
  go_quiet (fail)
  go_wp2
  go_ret
  exact ⟨rfl,nq,rfl⟩
theorem sortR2 (blk off c Bs:Nat) (d:Array DRange) (h2:2≤d.size) (hsz:d.size<4611686018427387904) (w:World) (hH:HoldsK eR 2 w blk off d) (hblk:blk<w.heap.size)
    (hBs:w.cell? ⟨Bs,0,none⟩=some (.slice (some ⟨blk,off,none⟩) d.size c)) (hB1:Bs<w.heap.size) (hB2:Bs≠blk) :
    Calls Tryz.prog 295 #[.iface 40 (.slice (some ⟨blk,off,none⟩) d.size c),.func (.func 296) #[] #[.pointer (some ⟨Bs,0,none⟩)]] w fun e w'=>
      e = .returned (.tuple #[]) ∧ ∃ d' n os,PermIn 0 d.size d d' ∧ SortedIn ltR 0 d.size d' ∧ w' = grow (putRowK eR 2 (Sort.ahead w n) blk off d') os:=by
  have hless:LessReadsK Tryz.prog 296 #[.pointer (some ⟨Bs,0,none⟩)] eR 2 ltR blk off d.size w:=by
    intro m os dk hs i j hi hj
    have e:sortWorldK eR 2 w blk off m dk os=putRowK eR 2 (grow (Sort.ahead w m) os) blk off dk:=by
      unfold sortWorldK;rw [putRowK_grow _ _ (Sort.ahead w m) _ blk off _ hblk]
    have hHg:HoldsK eR 2 (grow (Sort.ahead w m) os) blk off d:=holdsK_grow _ _ _ _ blk off d hblk (holdsK_ahead _ _ _ _ _ _ _ hH)
    refine lessR blk off c Bs d.size _ (fun t=>dk[t]!.Lo) ?_ (fun t ht=>?_) i j hi hj (by omega)
    · rw [e,cell?_putRowK_other _ _ _ blk off dk _ (by exact hB2),cell?_grow _ _ _ (by exact hB1)];exact hBs
    · rw [e];exact ((holdsK_putRowK _ _ _ blk off d dk hHg hs).cell (i:=t) (c:=0) (by omega) (by omega)).1
  exact Any.sort_Slice_cells_sorted sl6 40 146 srT srE (by kernel_rfl) (by kernel_rfl) (by kernel_rfl) (by kernel_rfl) 25 (fun _=>by kernel_rfl) eR 2 (fun _=>rfl) (by kernel_rfl) (fun _=>by kernel_rfl)
    (fun x v hv=>by simp [eR] at hv;rcases hv with rfl|rfl <;> rfl) ltR swo_ltR 296 _
    (enters_of Tryz.func296 (by kernel_rfl) rfl) blk off c d h2 hsz 323 (by rw [srK _ h2];kernel_rfl) false
    (fun args W=>run_callFunc_extern Tryz.func323 (by kernel_rfl) (by kernel_rfl) (by kernel_rfl) (e:=Extern.ReflectliteSwapper.swap false) (by kernel_rfl) args W) w hless hH hblk
end Go.Proofs.YtendheafcbickaaGreat
