/- An evaluator over the program text, proved sound once: what a function computes on data, out of its code. No condition. -/
import Derived.MapKept
import Derived.WideMake
import Derived.Test.YtbjgiioppmkpiaaMK1
set_option linter.unusedVariables false
set_option linter.unusedSimpArgs false
namespace Go.Proofs.Ytbjgiioppmkpiaa.Rx
open Go Go.RowKit
section
variable{P:Program}{cx:Cx}{I:In}{FF:Nat→List Nat}{ob:Ob}{w:World}
theorem zvy(h:RelH cx I FF ob w){st:Bool}{s:SV}{v:Value}{r:LS×List Nat}{lg:List Nat}(hs:RelS cx I ob s v)(he:(zvz st s ob).ev=some (r,lg)){Z:Nat→Prop}(hz:∀ k,cx.Z k→Z k)(hr:∀ o∈r.2,∀ k∈FF o,Z k) :
  RelCL w Z r.1 v∧(st=true→r.2=[]):=by
 cases s with
 |int k n=>have:=M.ev_pure (ob:=ob) he;subst this;exact⟨hs,fun _=>rfl⟩
 |bool b=>have:=M.ev_pure (ob:=ob) he;subst this;exact⟨hs,fun _=>rfl⟩
 |str b=>have:=M.ev_pure (ob:=ob) he;subst this;exact⟨hs,fun _=>rfl⟩
 |nil=>have:=M.ev_pure (ob:=ob) he;subst this;exact⟨hs,fun _=>rfl⟩
 |con q =>
  have:=M.ev_pure (ob:=ob) he;subst this;exact⟨CnR.imp (fun k hk=>⟨hz k hk,h.kp.block k (h.zone k hk).1 (h.zone k hk).2⟩) hs,fun _=>rfl⟩
 |ref o ver p vw =>
  cases st with
  |true=>exact(M.ev_fail (ob:=ob) he).elim
  |false =>
   simp only[zvz]at he;obtain⟨en,l1,l2,he1,he2,rfl⟩:=M.ev_bind he;have hob:=M.ev_get he1
   cases en with
   |box cs=>exact(M.ev_fail (ob:=ob) he2).elim
   |dead vv=>exact(M.ev_fail (ob:=ob) he2).elim
   |iter _ _=>exact(M.ev_fail (ob:=ob) he2).elim
   |map _=>exact(M.ev_fail (ob:=ob) he2).elim
   |grp _ _ _=>exact(M.ev_fail (ob:=ob) he2).elim
   |lit _ _=>exact(M.ev_fail (ob:=ob) he2).elim
   |mit _ _ _=>exact(M.ev_fail (ob:=ob) he2).elim
   |gh _=>exact(M.ev_fail (ob:=ob) he2).elim
   |half _ _ _=>exact(M.ev_fail (ob:=ob) he2).elim
   |mid _ _ _=>exact(M.ev_fail (ob:=ob) he2).elim
   |rv _ _=>exact(M.ev_fail (ob:=ob) he2).elim
   |ro q =>
    simp only at he2
    cases hpe:p.isEmpty with
    |false=>simp only[hpe]at he2;exact(M.ev_fail (ob:=ob) he2).elim
    |true =>
     cases vw with
     |some _=>simp only[hpe]at he2;exact(M.ev_fail (ob:=ob) he2).elim
     |none =>
      simp only[hpe]at he2;have:=M.ev_pure (ob:=ob) he2;subst this;refine⟨?_,fun h=>by cases h⟩;have hp0:p=[]:=by simpa using hpe
      subst hp0;obtain⟨⟨e0,he0,hle0⟩,_,off,len,hvw,hol,A,c,rfl,hlc,hcm,hex,_⟩:=hs;have hv0:ver=0:=by rw[hob]at he0;injection he0 with he0;subst he0;exact Nat.le_zero.1 hle0
      subst hv0;obtain⟨v0,⟨hcn,_⟩,hv0,_⟩:=h.rel o _ hob;obtain⟨eA,ec⟩:=hex rfl;simp only[Option.getD_none,Prod.mk.injEq]at hvw;have e:v0=Value.slice A len c:=hv0.trans (by rw[eA,ec,hvw.2]);show CnR w Z q.t q.xs (Value.slice A len c);rw[← e];exact CnR.imp (fun k hk=>⟨hr o (by simp) k hk,rfl⟩) hcn
   |row r0 cur hole =>
    cases hole with
    |some q=>exact(M.ev_fail (ob:=ob) he2).elim
    |none =>
     simp only at he2
     cases hok:zln p ver cur none with
     |false=>simp only[hok]at he2;exact(M.ev_fail (ob:=ob) he2).elim
     |true =>
      cases hr':zbe p r0 with
      |none=>simp only[hok,hr']at he2;exact(M.ev_fail (ob:=ob) he2).elim
      |some r' =>
       simp only[hok,hr']at he2;have:=M.ev_pure (ob:=ob) he2;subst this;refine⟨?_,fun h=>by cases h⟩;obtain⟨⟨v0,ho⟩,hroot,hhole,_⟩:=h.rel o _ hob
       have hnoh:∀ q,(I o cur q).hole=false:=by
        intro q
        cases hq:(I o cur q).hole with
        |false=>rfl
        |true=>exact absurd (hhole q hq) (by simp)
       obtain⟨hk,hpv,off,len,hvw,hol,A,c,rfl,hlc,hcm,hex,hcc⟩:=hs
       have hle:ver≤cur:=by
        obtain⟨e,he,hle⟩:=hk;rw[hob]at he;injection he with he;subst he;exact hle
       have key:I o ver p=I o cur p∧pv (I o cur) p:=by
        simp only[zln,Bool.or_eq_true,Bool.and_eq_true]at hok;rcases hok with hok|hok
        ·have:p=[]:=by simpa using hok
         subst this;exact⟨hroot ver hle,trivial⟩
        ·have:ver=cur:=by simpa using hok.1
         subst this;exact⟨rfl,hpv⟩
       rw[key.1]at hvw hol hcc;obtain⟨v',Fa,F',Fb,hF,ho',_⟩:=ho.focus p (h.nd o) (zbz key.2 (fun q _=>hnoh q)) hr';have e0:p++[]=p:=List.append_nil _
       have hlen:r'.xs.length=(I o cur p).len:=by
        unfold OwR OwRow at ho';simp only[e0]at ho';rw[if_neg (by simp[hnoh])]at ho';exact ho'.2.1
       have hcnd:c=0∧len=0∨(c+off=(I o cur p).cap∧∃ g b,(I o cur p).A=some ⟨g,b,none⟩∧A=some ⟨g,b+off*r'.t.sz,none⟩):=by
        rcases hcc with hcc|⟨hcc,g,b,hA,hA'⟩
        ·exact .inl ⟨hcc,by omega⟩
        ·by_cases hzz:c=0
         ·exact .inl ⟨hzz,by omega⟩
         ·refine .inr ⟨hcc,g,b,hA,?_⟩;rw[hA'];unfold OwR OwRow at ho';simp only[e0]at ho';rw[if_neg (by simp[hnoh])]at ho';rw[if_neg (by omega)]at ho';rw[ho'.2.2.2.2.1]
       obtain⟨F2,hsub,hview⟩:=ho'.view (H':=fun q=>match q with | []=>⟨A,c,len,r'.t.sz,false⟩|(i,c')::p'=>I o cur (p++((i+off,c')::p'))) (by simp only[e0];exact hnoh _) (by simp only[e0];exact hol) (by simp only[e0];exact hcnd) hlc rfl (fun i c p=>rfl)
       have hxs:(r'.xs.drop off).take len=zfd r'.xs vw:=by
        cases vw with
        |none =>
         simp only[Option.getD_none,Prod.mk.injEq]at hvw;obtain⟨rfl,rfl⟩:=hvw;simp[zfd,← hlen]
        |some ol =>
         simp only[Option.getD_some]at hvw;subst hvw;rfl
       rw[hxs]at hview;refine OwR.toCn (e:=r'.e) (fun q=>?_) (fun k hk'=>hr o (by simp) k (by rw[hF];have:=hsub.subset hk';simp;grind)) hview
       cases q with
       |nil=>rfl
       |cons a q=>exact hnoh _
 |_=>exact(M.ev_fail (ob:=ob) he).elim
theorem zbq(h:RelH cx I FF ob w){st:Bool}{Z:Nat→Prop}(hz:∀ k,cx.Z k→Z k):∀ {ss:List SV} {vs:List Value} {r:LS×List Nat→LS×List Nat} {q:List LS×List Nat} {lg:List Nat},F2 (RelS cx I ob) ss vs →
  (resC st ss ob).ev=some (q,lg)→(∀ o∈q.2,∀ k∈FF o,Z k)→F2 (RelCL w Z) q.1 vs∧(st=true→q.2=[])
 | [],[],_,q,lg,_,he,_=>by
  have:=M.ev_pure (ob:=ob) he;subst this;exact⟨trivial,fun _=>rfl⟩
 |s::ss,v::vs,r,q,lg,hs,he,hr=>by
  obtain⟨a,l1,l2,he1,he2,rfl⟩:=M.ev_bind he;obtain⟨b,l3,l4,he3,he4,rfl⟩:=M.ev_bind he2;have:=M.ev_pure (ob:=ob) he4;subst this;obtain⟨h1,h2⟩:=zvy h hs.1 he1 hz (fun o ho=>hr o (List.mem_append_left _ ho));obtain⟨h3,h4⟩:=zbq h hz (r:=r) hs.2 he3 (fun o ho=>hr o (List.mem_append_right _ ho));exact⟨⟨h1,h3⟩,fun e=>by simp[h2 e,h4 e]⟩
 | [],_::_,_,_,_,h,_,_=>h.elim
 |_::_,[],_,_,_,h,_,_=>h.elim
theorem zdi{agg:Bool}{a:AV}{cs:List SV}{v:Value}(h:avC agg a=some cs)(hr:RelA cx I ob a v):∃ us,F2 (RelS cx I ob) cs us∧∀ R:List Value→Prop,R us→VR agg R v:=by
 cases a with
 |one s =>
  cases agg with
  |true=>cases h
  |false =>
   injection h with h;subst h
   exact⟨[v],⟨hr,trivial⟩,fun R hR=>⟨RelS.one hr,hR⟩⟩
 |agg cs' =>
  cases agg with
  |false=>cases h
  |true =>
   injection h with h;subst h
   obtain⟨arr,rfl,hr⟩:=hr;exact⟨arr.toList,hr,fun R hR=>⟨arr,rfl,hR⟩⟩
 |_=>cases h
theorem vr_eq{agg:Bool}{us:List Value}{v:Value}{R:List Value→Prop}(h:VR agg (fun l=>l=us) v)(hr:VR agg R v):R us:=by
 cases agg with
 |true =>
  obtain⟨arr,rfl,h⟩:=h;obtain⟨arr',e,hr⟩:=hr;injection e with e
  subst e;subst h;exact hr
 |false =>
  obtain⟨_,h⟩:=h;subst h;exact hr.2
def IoL(I:In)(ob:Ob):(t:Ty)→List SV→List Value→Prop
 | .row e t,cs,us=>(cs=[.nil]∧us=[.slice none 0 0])∨∃ o ver r cur v,cs=[.ref o ver [] none]∧us=[v]∧ob o=some (.row r cur none)∧r.e=e∧r.t=t∧v = .slice (I o cur []).A (I o cur []).len (I o cur []).cap∧((I o cur []).cap≠0→(I o cur []).sz=t.sz)∧(I o cur []).hole=false∧∀ u,u≤cur→I o u []=I o cur []
 | .pair a b,cs,us=>IoL I ob a (cs.take a.sz) (us.take a.sz)∧IoL I ob b (cs.drop a.sz) (us.drop a.sz)
 |_,cs,us=>za8 cs=[]
def IoF(I:In)(ob:Ob):(k:PK)→AV→Value→Prop
 | .io t agg,a,v=>∃ cs us,avC agg a=some cs∧VR agg (fun l=>l=us) v∧IoL I ob t cs us
 | .bo _,a,v=>∃ o g cs,a = .one (.bptr o 0)∧ob o=some (.box cs)∧(I o 0 []).A=some ⟨g,0,none⟩∧v = .pointer (some ⟨g,0,none⟩)
 | .bx t,a,v=>∃ o g cs,a = .one (.bptr o 0)∧ob o=some (.box cs)∧(I o 0 []).A=some ⟨g,0,none⟩∧v = .pointer (some ⟨g,0,none⟩)
 |_,_,_=>True
def ioId:PK→AV→List Nat
 | .io _ agg,a=>(match avC agg a with|some cs=>za8 cs|none=>[])
 | .bx _,.one (.bptr o _)=>[o]
 | .bo _,.one (.bptr o _)=>[o]
 |_,_=>[]
theorem zaz:∀ (cs:List SV) (n:Nat),za8 cs=za8 (cs.take n)++za8 (cs.drop n)
 | [],n=>by simp[za8]
 |s::cs,0=>by simp[za8]
 |s::cs,n+1=>by
  have ih:=zaz cs n;cases s <;> simp only[za8,List.take_succ_cons,List.drop_succ_cons,List.cons_append] <;> rw[ih]
theorem zq0{FF0:Nat→List Nat}(h0:RelH cx I FF0 ob w):∀ (t:Ty) {cs:List SV} {us:List Value} {FF:Nat→List Nat} {cons:List (Nat×Ent)} (c:Nat),RelH cx I FF (ob.puts cons) w→(∀ o k,k∈FF o→k∈FF0 o)→F2 (RelS cx I ob) cs us→Ext I ob I (ob.puts cons) →
  ∀ {x:t.den×List (Nat×Ent)} {lg:List Nat},(ioA t cs cons ob).ev=some (x,lg) →
  ∃ FF' H F,RelH cx I FF' (ob.puts x.2) w∧Ext I ob I (ob.puts x.2)∧Ow w t H c x.1 us F∧zd5 H∧F.Nodup∧(∀ j∈F,(¬ cx.Z j∧(cx.D0 j∨cx.w0.heap.size≤j)∧j<w.heap.size)∧(∀ o,j∉FF' o)∧∃ o,j∈FF o)∧(∀ o j,j∈FF' o→j∈FF o) ∧
   (∀ o,(∀ u∈x.2,u.1≠o)→FF' o=FF o)∧(∀ u∈cons,u∈x.2)∧IoL I ob t cs us∧(za8 cs).Nodup∧(∀ o∈za8 cs,(∀ u∈cons,u.1≠o)∧(∃ u∈x.2,u.1=o)∧FF' o=[])
 | .int k,cs,us,FF,cons,c,h,hsub0,hr,x,y,lg,he=>by
  simp only[ioA]at he;split at he
  ·split at he
   ·rename_i k' n hk;have:=M.ev_pure (ob:=ob) he;subst this;subst hk
    cases us with
    |nil=>exact hr.elim
    |cons u us =>
     cases us with
     |cons _ _=>exact hr.2.elim
     |nil=>exact⟨FF,fun _=>H0,[],h,x,⟨congrArg (fun q=>[q]) hr.1,rfl⟩,fun _ _=>rfl,List.nodup_nil,(fun j hj=>by cases hj),fun _ _ h=>h,fun _ _=>rfl,fun _ h=>h,rfl,List.nodup_nil,fun o ho=>by cases ho⟩
   ·exact(M.ev_fail (ob:=ob) he).elim
  ·exact(M.ev_fail (ob:=ob) he).elim
 | .bool,cs,us,FF,cons,c,h,hsub0,hr,x,y,lg,he=>by
  simp only[ioA]at he;split at he
  ·have:=M.ev_pure (ob:=ob) he;subst this
   cases us with
   |nil=>exact hr.elim
   |cons u us =>
    cases us with
    |cons _ _=>exact hr.2.elim
    |nil=>exact⟨FF,fun _=>H0,[],h,x,⟨congrArg (fun q=>[q]) hr.1,rfl⟩,fun _ _=>rfl,List.nodup_nil,(fun j hj=>by cases hj),fun _ _ h=>h,fun _ _=>rfl,fun _ h=>h,rfl,List.nodup_nil,fun o ho=>by cases ho⟩
  ·exact(M.ev_fail (ob:=ob) he).elim
 | .str,cs,us,FF,cons,c,h,hsub0,hr,x,y,lg,he=>by
  simp only[ioA]at he;split at he
  ·have:=M.ev_pure (ob:=ob) he;subst this
   cases us with
   |nil=>exact hr.elim
   |cons u us =>
    cases us with
    |cons _ _=>exact hr.2.elim
    |nil=>exact⟨FF,fun _=>H0,[],h,x,⟨congrArg (fun q=>[q]) hr.1,rfl⟩,fun _ _=>rfl,List.nodup_nil,(fun j hj=>by cases hj),fun _ _ h=>h,fun _ _=>rfl,fun _ h=>h,rfl,List.nodup_nil,fun o ho=>by cases ho⟩
  ·exact(M.ev_fail (ob:=ob) he).elim
 | .row e t,cs,us,FF,cons,c,h,hsub0,hr,x,y,lg,he=>by
  simp only[ioA]at he;split at he
  ·have:=M.ev_pure (ob:=ob) he;subst this
   cases us with
   |nil=>exact hr.elim
   |cons u us =>
    cases us with
    |cons _ _=>exact hr.2.elim
    |nil =>
     have hu:u = .slice none 0 0:=hr.1;subst hu;refine⟨FF,fun _ p=>match p with | []=>⟨none,0,0,t.sz,false⟩|b::q=>H0 q,[],h,x,⟨_,rfl,(OwR.empty (H:=fun p=>match p with | []=>⟨none,0,0,t.sz,false⟩|b::q=>H0 q) rfl:OwR w e t (fun p=>match p with | []=>⟨none,0,0,t.sz,false⟩|b::q=>H0 q) ([]:List t.den) (.slice none 0 0) [])⟩,(fun _ p=>by cases p <;> rfl),List.nodup_nil,(fun j hj=>by cases hj),fun _ _ h=>h,fun _ _=>rfl,fun _ h=>h,.inl ⟨rfl,rfl⟩,List.nodup_nil,fun o ho=>by cases ho⟩
  ·rename_i o ver
   cases us with
   |nil=>exact hr.elim
   |cons v us =>
   cases us with
   |cons _ _=>exact hr.2.elim
   |nil =>
   obtain⟨⟨l,cons'⟩,l1,l2,he1,he2,rfl⟩:=M.ev_bind he;have hrs:RelS cx I ob (.ref o ver [] none) v:=hr.1;obtain⟨FF',H,F,h1,x1,hl,hn,hh,hm,hsub,hoth,hmon⟩:=zi6 h hrs x he1;simp only at he2 h1 x1 hl hoth hmon
   cases l with
   |rw q =>
    simp only at he2
    cases hq:(q.e == e) with
    |false=>simp only[hq]at he2;exact(M.ev_fail (ob:=ob) he2).elim
    |true =>
     cases hc:zaq q t with
     |none=>simp only[hq,hc]at he2;exact(M.ev_fail (ob:=ob) he2).elim
     |some xs =>
      simp only[hq,hc]at he2;have:=M.ev_pure (ob:=ob) he2;subst this;have hqe:q.e=e:=by simpa using hq
      have hqq:=zay hc;rw[hqe]at hqq;simp only[res1]at he1
      cases hany:cons.any (fun c=>c.1 == o) with
      |true=>simp only[hany]at he1;exact(M.ev_fail (ob:=ob) he1).elim
      |false =>
       simp only[hany]at he1;obtain⟨en,l3,l4,he3,he4,_⟩:=M.ev_bind he1;have hob:=M.ev_get he3
       have hno:∀ u∈cons,u.1≠o:=by
        intro u hu e;have:=List.any_eq_false.1 hany u hu;simp[e]at this
       cases en with
       |box cs=>exact(M.ev_fail (ob:=ob) he4).elim
       |dead vv=>exact(M.ev_fail (ob:=ob) he4).elim
       |iter _ _=>exact(M.ev_fail (ob:=ob) he4).elim
       |map _=>exact(M.ev_fail (ob:=ob) he4).elim
       |grp _ _ _=>exact(M.ev_fail (ob:=ob) he4).elim
       |lit _ _=>exact(M.ev_fail (ob:=ob) he4).elim
       |mit _ _ _=>exact(M.ev_fail (ob:=ob) he4).elim
       |gh _=>exact(M.ev_fail (ob:=ob) he4).elim
       |half _ _ _=>exact(M.ev_fail (ob:=ob) he4).elim
       |ro _=>exact(M.ev_fail (ob:=ob) he4).elim
       |mid _ _ _=>exact(M.ev_fail (ob:=ob) he4).elim
       |rv _ _=>exact(M.ev_fail (ob:=ob) he4).elim
       |row r0 cur hole =>
        cases hole with
        |some p=>exact(M.ev_fail (ob:=ob) he4).elim
        |none =>
         have h5:=M.ev_pure (ob:=ob) he4;injection h5 with h5 h6
         injection h5 with h5
         subst h6;have hre:r0.e=e:=by rw[← h5]at hqe;exact hqe
         have hrt:r0.t=t:=by
          have:=congrArg Rw.t (h5.trans hqq);exact this
         obtain⟨⟨v0,ho⟩,hroot,hhole,_⟩:=h0.rel o _ hob
         have hnoh:∀ p,(I o cur p).hole=false:=by
          intro p
          cases hp:(I o cur p).hole with
          |false=>rfl
          |true=>exact absurd (hhole p hp) (by simp)
         obtain⟨⟨e0,he0,hle0⟩,_,off,len,hvw,hol,A,c',hv,hlc,hcm,hex,_⟩:=hrs
         have hver:ver≤cur:=by
          rw[hob]at he0;injection he0 with he0;subst he0;exact hle0
         have hI:I o ver []=I o cur []:=hroot ver hver;rw[hI]at hvw hex;simp only[Option.getD_none,Prod.mk.injEq]at hvw;obtain⟨hA,hcc⟩:=hex rfl
         have hsz:(I o cur []).cap≠0→(I o cur []).sz=t.sz:=by
          intro hcap;unfold OwR OwRow at ho;rw[if_neg (by simp[hnoh])]at ho;rw[if_neg hcap]at ho;rw[← hrt];exact ho.2.2.2.2.1
         refine⟨FF',fun _=>H,F,h1,x1,⟨v,rfl,?_⟩,fun _ p=>hh p,hn,hm,hsub,hoth,hmon,.inr ⟨o,ver,r0,cur,v,rfl,rfl,hob,hre,hrt,by rw[hv,hA,hcc,hvw.2],hsz,hnoh [],fun u hu=>hroot u hu⟩,by simp[za8],?_⟩
         ·have hl':OwR w q.e q.t H q.xs v F:=hl;rw[hqq]at hl';exact hl'
         ·intro o' ho';have:o'=o:=by simpa [za8] using ho'
          subst this;refine⟨hno,⟨(o',.dead cur),by simp,rfl⟩,?_⟩;have h7:=h1.rel o' (.dead cur) (by rw[Ob.puts_append];exact Ob.put_same _ _ _);exact h7
   |_=>simp only at he2;exact(M.ev_fail (ob:=ob) he2).elim
  ·exact(M.ev_fail (ob:=ob) he).elim
 | .pair a b,cs,us,FF,cons,c,h,hsub0,hr,x,y,lg,he=>by
  simp only[ioA]at he;obtain⟨⟨xa,c1⟩,l1,l2,he1,he2,rfl⟩:=M.ev_bind he;obtain⟨⟨xb,c2⟩,l3,l4,he3,he4,rfl⟩:=M.ev_bind he2;have:=M.ev_pure (ob:=ob) he4;subst this;obtain⟨FF1,H1,F1,h1,x1,o1,n1,nd1,m1,s1,t1,k1,i1,q1,z1⟩:=zq0 h0 a c h hsub0 hr.take x he1;obtain⟨FF2,H2,F2',h2,x2,o2,n2,nd2,m2,s2,t2,k2,i2,q2,z2⟩:=zq0 h0 b (c+a.sz) h1 (fun o k hk=>hsub0 o k (s1 o k hk)) hr.drop x1 he3;simp only at h1 h2 o1 o2 t1 t2 k1 k2 z1 z2 ⊢
  refine ⟨FF2,fun j p=>if j < c + a.sz then H1 j p else H2 j p,F1 ++ F2',h2,x2,⟨us.take a.sz,us.drop a.sz,F1,F2',(List.take_append_drop _ _).symm,rfl,Ow.hd a (fun j h3 h4 p=>by simp [h4]) o1,Ow.hd b (fun j h3 h4 p=>by rw [if_neg (by omega)]) o2⟩,(fun j p=>by
   show (if j<c+a.sz then H1 j p else H2 j p).hole=false;split
   ·exact n1 j p
   ·exact n2 j p),?_,?_,fun o j hj=>s1 o j (s2 o j hj),?_,fun u hu=>k2 u (k1 u hu),⟨i1,i2⟩,?_,?_⟩
  ·rw[List.nodup_append];refine⟨nd1,nd2,fun i hi j hj e=>?_⟩;subst e;obtain⟨_,_,o,ho⟩:=m2 i hj;exact(m1 i hi).2.1 o ho
  ·intro j hj;rcases List.mem_append.1 hj with hj|hj
   ·obtain⟨g1,g2,g3⟩:=m1 j hj;exact⟨g1,fun o ho=>g2 o (s2 o j ho),g3⟩
   ·obtain⟨g1,g2,o,g3⟩:=m2 j hj;exact⟨g1,g2,o,s1 o j g3⟩
  ·intro o ho;rw[t2 o ho];exact t1 o (fun u hu=>ho u (k2 u hu))
  ·rw[zaz cs a.sz,List.nodup_append];refine⟨q1,q2,fun i hi j hj e=>?_⟩;subst e;obtain⟨u,hu,he⟩:=(z1 i hi).2.1;exact(z2 i hj).1 u hu he
  ·intro o ho;rw[zaz cs a.sz]at ho;rcases List.mem_append.1 ho with ho|ho
   ·obtain⟨g1,⟨u,hu,he⟩,g3⟩:=z1 o ho;refine⟨g1,⟨u,k2 u hu,he⟩,?_⟩;apply List.eq_nil_iff_forall_not_mem.2;intro j hj;have:=s2 o j hj;rw[g3]at this;cases this
   ·obtain⟨g1,g2,g3⟩:=z2 o ho;exact⟨fun u hu=>g1 u (k1 u hu),g2,g3⟩
theorem zyn{FF0:Nat→List Nat}(h0:RelH cx I FF0 ob w){st:Bool}{t:Ty}{s:SV}{v:Value}(hs:RelS cx I ob s v){r:t.den×List Nat}{lg:List Nat}(he:(cpM st t s ob).ev=some (r,lg)) :
  (st=true→r.2=[])∧∀ Z:Nat→Prop,(∀ j,cx.Z j→Z j)→(∀ o∈r.2,∀ j∈FF0 o,Z j)→CpR w Z t r.1 v:=by
 unfold cpM at he;split at he
 ·rename_i o
  cases st with
  |true=>exact(M.ev_fail (ob:=ob) he).elim
  |false =>
   simp only at he;obtain⟨en,l1,l2,he1,he2,rfl⟩:=M.ev_bind he;have hob:=M.ev_get he1
   cases en with
   |row r cur hole=>exact(M.ev_fail (ob:=ob) he2).elim
   |dead vv=>exact(M.ev_fail (ob:=ob) he2).elim
   |iter _ _=>exact(M.ev_fail (ob:=ob) he2).elim
   |map _=>exact(M.ev_fail (ob:=ob) he2).elim
   |grp _ _ _=>exact(M.ev_fail (ob:=ob) he2).elim
   |lit _ _=>exact(M.ev_fail (ob:=ob) he2).elim
   |mit _ _ _=>exact(M.ev_fail (ob:=ob) he2).elim
   |gh _=>exact(M.ev_fail (ob:=ob) he2).elim
   |half _ _ _=>exact(M.ev_fail (ob:=ob) he2).elim
   |ro _=>exact(M.ev_fail (ob:=ob) he2).elim
   |mid _ _ _=>exact(M.ev_fail (ob:=ob) he2).elim
   |rv _ _=>exact(M.ev_fail (ob:=ob) he2).elim
   |box cs =>
    simp only at he2;obtain⟨⟨ls,rds⟩,l3,l4,he3,he4,rfl⟩:=M.ev_bind he2;simp only at he4
    cases hx:za0 t ls with
    |none=>simp only[hx]at he4;exact(M.ev_fail (ob:=ob) he4).elim
    |some y =>
     simp only[hx]at he4;have:=M.ev_pure (ob:=ob) he4;subst this;obtain⟨g,T,arr,hF,hA,hg,hcs⟩:=h0.rel o _ hob;obtain⟨_,g',hA',hv⟩:=(show RelS cx I ob (.bptr o 0) v from hs);rw[hA]at hA';injection hA' with hA'
     injection hA' with hA'
     subst hA';refine⟨(fun h=>by cases h),fun Z hz hr=>?_⟩;have hcn:=zbw (zbq h0 hz (r:=id) hcs he3 (fun o' ho'=>hr o' (List.mem_cons_of_mem _ ho'))).1 hx;have hl:=Cn.len t hcn;refine⟨g,0,arr,T,(0,0),hv,hr o List.mem_cons_self g (by rw[hF];simp),hg,(by simpa using Nat.le_of_eq hl.symm),?_⟩;rw[List.drop_zero,List.take_of_length_le (Nat.le_of_eq hl)];exact hcn
 ·rename_i q
  cases hq:q.one t with
  |none=>simp only[hq]at he;exact(M.ev_fail (ob:=ob) he).elim
  |some x =>
   simp only[hq]at he;have:=M.ev_pure (ob:=ob) he;subst this;refine⟨fun _=>rfl,fun Z hz hr=>?_⟩;obtain⟨_,g,b,cap,hcn,hv⟩:=(show RelS cx I ob (.cptr q 0 0) v from hs);unfold Rw.one at hq;split at hq
   ·rename_i x' hc;injection hq with hq
    subst hq;have hqq:=zay hc;have hcn':CnR w Z q.t q.xs (.slice (some ⟨g,b,none⟩) q.xs.length cap):=CnR.imp (fun k hk=>⟨hz k hk,h0.kp.block k (h0.zone k hk).1 (h0.zone k hk).2⟩) hcn;rw[hqq]at hcn' hv;have:=yp2 (x:=x') hcn';have e:v = .pointer (some ⟨g,b,none⟩):=by rw[hv];simp
    rw[e];exact this
   ·cases hq
 ·exact(M.ev_fail (ob:=ob) he).elim
theorem zpo{FF0:Nat→List Nat}(h0:RelH cx I FF0 ob w){st:Bool}:∀ {ts:List Ty} {ss:List SV} {vs:List Value},F2 (RelS cx I ob) ss vs→∀ {r:zrc ts×List Nat} {lg:List Nat},(ye0 st ts ss ob).ev=some (r,lg) →
  (st=true→r.2=[])∧∀ Z:Nat→Prop,(∀ j,cx.Z j→Z j)→(∀ o∈r.2,∀ j∈FF0 o,Z j)→yfi w Z ts r.1 vs
 | [],[],[],_,r,lg,he=>by
  have:=M.ev_pure (ob:=ob) he;subst this;exact⟨fun _=>rfl,fun _ _ _=>trivial⟩
 |t::ts,s::ss,v::vs,hs,r,lg,he=>by
  obtain⟨x,l1,l2,he1,he2,rfl⟩:=M.ev_bind he;obtain⟨y,l3,l4,he3,he4,rfl⟩:=M.ev_bind he2;have:=M.ev_pure (ob:=ob) he4;subst this;obtain⟨a1,b1⟩:=zyn h0 hs.1 he1;obtain⟨a2,b2⟩:=zpo h0 hs.2 he3;exact⟨fun e=>by simp[a1 e,a2 e],fun Z hz hr=>⟨b1 Z hz (fun o ho=>hr o (List.mem_append_left _ ho)),b2 Z hz (fun o ho=>hr o (List.mem_append_right _ ho))⟩⟩
 | [],_::_,_,_,_,_,he=>(M.ev_fail (ob:=ob) he).elim
 |_::_,[],_,_,_,_,he=>(M.ev_fail (ob:=ob) he).elim
 | [],[],_::_,hs,_,_,_=>hs.elim
 |_::_,_::_,[],hs,_,_,_=>hs.elim
theorem ye8{FF0:Nat→List Nat}(h0:RelH cx I FF0 ob w){st:Bool}{k:PK}{a:AV}{v:Value}{cons:List (Nat×Ent)}(h:RelH cx I FF (ob.puts cons) w)(hsub0:∀ o k,k∈FF o→k∈FF0 o)(ha:RelA cx I ob a v)(x:Ext I ob I (ob.puts cons))
  {r:k.den×List (Nat×Ent)×List Nat} {lg:List Nat} (he:(argM st k a cons ob).ev=some (r,lg)) :
  ∃ FF' F,RelH cx I FF' (ob.puts r.2.1) w∧Ext I ob I (ob.puts r.2.1)∧F.Nodup∧(∀ j∈F,(¬ cx.Z j∧(cx.D0 j∨cx.w0.heap.size≤j)∧j<w.heap.size)∧(∀ o,j∉FF' o)∧∃ o,j∈FF o)∧(∀ o j,j∈FF' o→j∈FF o) ∧
   (∀ o,(∀ u∈r.2.1,u.1≠o)→FF' o=FF o)∧(∀ u∈cons,u∈r.2.1)∧(st=true→r.2.2=[])∧IoF I ob k a v∧(ioId k a).Nodup ∧
   (∀ o∈ioId k a,(∀ u∈cons,u.1≠o)∧(∃ u∈r.2.1,u.1=o)∧FF' o=[]) ∧
   (∀ Z:Nat→Prop,(∀ j,cx.Z j→Z j)→(∀ o∈r.2.2,∀ j∈FF0 o,Z j)→ArgR w Z k r.1 v F):=by
 cases k with
 |val t agg =>
  simp only[argM]at he
  cases hc:avC agg a with
  |none=>simp only[hc]at he;exact(M.ev_fail (ob:=ob) he).elim
  |some cs =>
   simp only[hc]at he;obtain⟨⟨ls,rds⟩,l1,l2,he1,he2,rfl⟩:=M.ev_bind he;simp only at he2
   cases hx:za0 t ls with
   |none=>simp only[hx]at he2;exact(M.ev_fail (ob:=ob) he2).elim
   |some y =>
    simp only[hx]at he2;have:=M.ev_pure (ob:=ob) he2;subst this;obtain⟨us,hus,hvr⟩:=zdi hc ha;have hst:=(zbq h0 (Z:=fun _=>True) (fun _ _=>trivial) (r:=id) hus he1 (fun _ _ _ _=>trivial)).2;refine⟨FF,[],h,x,List.nodup_nil,(fun j hj=>by cases hj),fun _ _ h=>h,fun _ _=>rfl,fun _ h=>h,hst,trivial,(by cases a <;> exact List.nodup_nil),?_,fun Z hz hr=>⟨rfl,hvr _ ?_⟩⟩
    ·intro o ho;cases a <;> cases ho
    ·exact zbw (zbq h0 hz (r:=id) hus he1 hr).1 hx
 |own t agg =>
  simp only[argM]at he
  cases hc:avC agg a with
  |none=>simp only[hc]at he;exact(M.ev_fail (ob:=ob) he).elim
  |some cs =>
   simp only[hc]at he;obtain⟨⟨ls,cons'⟩,l1,l2,he1,he2,rfl⟩:=M.ev_bind he;simp only at he2
   cases hx:za0 t ls with
   |none=>simp only[hx]at he2;exact(M.ev_fail (ob:=ob) he2).elim
   |some y =>
    simp only[hx]at he2;have:=M.ev_pure (ob:=ob) he2;subst this;obtain⟨us,hus,hvr⟩:=zdi hc ha;obtain⟨FF1,Hs,Fs,h1,x1,hls,hnd,hhs,hm,hsub,hoth,hmon⟩:=zb6 h hus x he1;obtain⟨Hy,Fy,hoy,hny,hsy,hhy⟩:=zb_ hls hx hnd hhs;refine⟨FF1,Fy,h1,x1,hny,fun j hj=>hm j (hsy j hj),hsub,hoth,hmon,fun _=>rfl,trivial,(by cases a <;> exact List.nodup_nil),?_,fun Z _ _=>⟨Hy,hhy,hvr _ hoy⟩⟩;intro o ho;cases a <;> cases ho
 |io t agg =>
  simp only[argM]at he
  cases hc:avC agg a with
  |none=>simp only[hc]at he;exact(M.ev_fail (ob:=ob) he).elim
  |some cs =>
   simp only[hc]at he;obtain⟨⟨y,cons'⟩,l1,l2,he1,he2,rfl⟩:=M.ev_bind he;have:=M.ev_pure (ob:=ob) he2;subst this;obtain⟨us,hus,hvr⟩:=zdi hc ha;obtain⟨FF',H,F,h1,x1,o1,n1,nd1,m1,s1,t1,k1,i1,q1,z1⟩:=zq0 h0 t 0 h hsub0 hus x he1;refine⟨FF',F,h1,x1,nd1,m1,s1,t1,k1,fun _=>rfl,⟨cs,us,hc,hvr _ rfl,i1⟩,?_,?_,fun Z _ _=>⟨H,n1,hvr _ o1⟩⟩
   ·simp only[ioId,hc];exact q1
   ·simp only[ioId,hc];exact z1
 |cp t =>
  simp only[argM]at he;split at he
  ·rename_i s;obtain⟨y,l1,l2,he1,he2,rfl⟩:=M.ev_bind he;have:=M.ev_pure (ob:=ob) he2;subst this;obtain⟨a1,b1⟩:=zyn h0 (show RelS cx I ob s v from ha) he1;exact⟨FF,[],h,x,List.nodup_nil,(fun j hj=>by cases hj),fun _ _ h=>h,fun _ _=>rfl,fun _ h=>h,a1,trivial,List.nodup_nil,(fun o ho=>by cases ho),fun Z hz hr=>⟨rfl,b1 Z hz hr⟩⟩
  ·exact(M.ev_fail (ob:=ob) he).elim
 |fn f ts =>
  simp only[argM]at he;split at he
  ·rename_i g ss
   cases hgf:Nat.beq g f with
   |false=>simp only[hgf]at he;exact(M.ev_fail (ob:=ob) he).elim
   |true =>
    simp only[hgf]at he;have hgf':=Nat.eq_of_beq_eq_true hgf;subst hgf';obtain⟨y,l1,l2,he1,he2,rfl⟩:=M.ev_bind he;have:=M.ev_pure (ob:=ob) he2;subst this;obtain⟨arr,rfl,hss⟩:=(show ∃ arr:Array Value,v = .func (.func g) #[] arr∧F2 (RelS cx I ob) ss arr.toList from ha);obtain⟨a1,b1⟩:=zpo h0 hss he1;exact⟨FF,[],h,x,List.nodup_nil,(fun j hj=>by cases hj),fun _ _ h=>h,fun _ _=>rfl,fun _ h=>h,a1,trivial,List.nodup_nil,(fun o ho=>by cases ho),fun Z hz hr=>⟨rfl,arr,rfl,b1 Z hz hr⟩⟩
  ·exact(M.ev_fail (ob:=ob) he).elim
 |bx t =>
  simp only[argM]at he;split at he
  ·rename_i o
   cases hany:cons.any (fun c=>c.1 == o) with
   |true=>simp only[hany]at he;exact(M.ev_fail (ob:=ob) he).elim
   |false =>
    simp only[hany]at he;obtain⟨en,l1,l2,he1,he2,rfl⟩:=M.ev_bind he;have hob:=M.ev_get he1
    have hno:∀ u∈cons,u.1≠o:=by
     intro u hu e;have:=List.any_eq_false.1 hany u hu;simp[e]at this
    cases en with
    |row r cur hole=>exact(M.ev_fail (ob:=ob) he2).elim
    |dead vv=>exact(M.ev_fail (ob:=ob) he2).elim
    |iter _ _=>exact(M.ev_fail (ob:=ob) he2).elim
    |map _=>exact(M.ev_fail (ob:=ob) he2).elim
    |grp _ _ _=>exact(M.ev_fail (ob:=ob) he2).elim
    |lit _ _=>exact(M.ev_fail (ob:=ob) he2).elim
    |mit _ _ _=>exact(M.ev_fail (ob:=ob) he2).elim
    |gh _=>exact(M.ev_fail (ob:=ob) he2).elim
    |half _ _ _=>exact(M.ev_fail (ob:=ob) he2).elim
    |ro _=>exact(M.ev_fail (ob:=ob) he2).elim
    |mid _ _ _=>exact(M.ev_fail (ob:=ob) he2).elim
    |rv _ _=>exact(M.ev_fail (ob:=ob) he2).elim
    |box cs =>
     simp only at he2;obtain⟨⟨ls,rds⟩,l3,l4,he3,he4,rfl⟩:=M.ev_bind he2;simp only at he4
     cases hx:za0 t ls with
     |none=>simp only[hx]at he4;exact(M.ev_fail (ob:=ob) he4).elim
     |some y =>
      simp only[hx]at he4;have:=M.ev_pure (ob:=ob) he4;subst this;have hob':ob.puts cons o=some (.box cs):=by rw[Ob.puts_other hno];exact hob
      obtain⟨g,T,arr,hF,hA,hg,hcs⟩:=h.rel o _ hob'
      have hcs':F2 (RelS cx I ob) cs arr.toList:=by
       obtain⟨_,_,_,_,hA0,hg0,hcs0⟩:=h0.rel o _ hob;rw[hA]at hA0;injection hA0 with hA0
       injection hA0 with hA0
       subst hA0;rw[hg]at hg0;injection hg0 with hg0
       injection hg0 with hg0
       subst hg0;exact hcs0
      obtain⟨_,g',hA',hv⟩:=(show RelS cx I ob (.bptr o 0) v from ha);rw[hA]at hA';injection hA' with hA'
      injection hA' with hA'
      subst hA';have ht:=h.take hob';have e2:ob.puts (cons++[(o,Ent.dead 0)])=(ob.puts cons).put o (.dead (Ent.box cs).ver):=by rw[Ob.puts_append];rfl
      have hst:=(zbq h0 (st:=true) (Z:=fun _=>True) (fun _ _=>trivial) (r:=id) hcs' he3 (fun _ _ _ _=>trivial)).2 rfl;simp only at hst;refine⟨zaj FF o [],[g],by rw[e2];exact ht,?_,by simp,?_,?_,?_,fun u hu=>List.mem_append_left _ hu,fun _=>hst,⟨o,g,cs,rfl,hob,hA,hv⟩,(by simp[ioId]),?_,fun Z hz hr=>?_⟩
      ·rw[e2];exact x.trans ⟨fun _ _ _=>rfl,zak (fun e1 h1=>by rw[hob']at h1;injection h1 with h1;subst h1;exact Nat.le_refl _)⟩
      ·intro j hj;have:j=g:=by simpa using hj
       subst this;have hjF:j∈FF o:=by rw[hF];simp
       refine⟨h.mine o j hjF,fun o' ho'=>?_,o,hjF⟩;unfold zaj at ho';split at ho'
       ·cases ho'
       ·rename_i hne;exact h.dj o o' (fun e=>hne e.symm) j hjF ho'
      ·intro o' j hj;unfold zaj at hj;split at hj
       ·cases hj
       ·exact hj
      ·intro o' ho';unfold zaj;rw[if_neg];intro e;exact ho' (o,Ent.dead 0) (by simp) e.symm
      ·intro o' ho';have:o'=o:=by simpa [ioId] using ho'
       subst this;exact⟨hno,⟨(o',.dead 0),by simp,rfl⟩,by simp[zaj]⟩
      ·refine⟨g,T,arr,hv,rfl,hg,?_⟩;exact zbw (zbq h0 hz (r:=id) hcs' he3 (fun o' ho'=>by rw[hst]at ho';cases ho')).1 hx
  ·exact(M.ev_fail (ob:=ob) he).elim
 |bo t =>
  simp only[argM]at he;split at he
  ·rename_i o
   cases hany:cons.any (fun c=>c.1 == o) with
   |true=>simp only[hany]at he;exact(M.ev_fail (ob:=ob) he).elim
   |false =>
    simp only[hany]at he;obtain⟨en,l1,l2,he1,he2,rfl⟩:=M.ev_bind he;have hob:=M.ev_get he1
    have hno:∀ u∈cons,u.1≠o:=by
     intro u hu e;have:=List.any_eq_false.1 hany u hu;simp[e]at this
    cases en with
    |row r cur hole=>exact(M.ev_fail (ob:=ob) he2).elim
    |dead vv=>exact(M.ev_fail (ob:=ob) he2).elim
    |iter _ _=>exact(M.ev_fail (ob:=ob) he2).elim
    |map _=>exact(M.ev_fail (ob:=ob) he2).elim
    |grp _ _ _=>exact(M.ev_fail (ob:=ob) he2).elim
    |lit _ _=>exact(M.ev_fail (ob:=ob) he2).elim
    |mit _ _ _=>exact(M.ev_fail (ob:=ob) he2).elim
    |gh _=>exact(M.ev_fail (ob:=ob) he2).elim
    |half _ _ _=>exact(M.ev_fail (ob:=ob) he2).elim
    |ro _=>exact(M.ev_fail (ob:=ob) he2).elim
    |mid _ _ _=>exact(M.ev_fail (ob:=ob) he2).elim
    |rv _ _=>exact(M.ev_fail (ob:=ob) he2).elim
    |box cs =>
     simp only at he2;obtain⟨⟨ls,cons'⟩,l3,l4,he3,he4,rfl⟩:=M.ev_bind he2;simp only at he4
     cases hx:za0 t ls with
     |none=>simp only[hx]at he4;exact(M.ev_fail (ob:=ob) he4).elim
     |some y =>
      simp only[hx]at he4;have:=M.ev_pure (ob:=ob) he4;subst this;have hob':ob.puts cons o=some (.box cs):=by rw[Ob.puts_other hno];exact hob
      obtain⟨g,T,arr,hF,hA,hg,_⟩:=h.rel o _ hob'
      have hcs':F2 (RelS cx I ob) cs arr.toList:=by
       obtain⟨_,_,_,_,hA0,hg0,hcs0⟩:=h0.rel o _ hob;rw[hA]at hA0;injection hA0 with hA0
       injection hA0 with hA0
       subst hA0;rw[hg]at hg0;injection hg0 with hg0
       injection hg0 with hg0
       subst hg0;exact hcs0
      obtain⟨_,g',hA',hv⟩:=(show RelS cx I ob (.bptr o 0) v from ha);rw[hA]at hA';injection hA' with hA'
      injection hA' with hA'
      subst hA';have ht:=h.take hob';have e2:ob.puts (cons++[(o,Ent.dead 0)])=(ob.puts cons).put o (.dead (Ent.box cs).ver):=by rw[Ob.puts_append];rfl
      rw[← e2]at ht
      have xt:Ext I ob I (ob.puts (cons++[(o,Ent.dead 0)])):=by
       rw[e2];exact x.trans ⟨fun _ _ _=>rfl,zak (fun e1 h1=>by rw[hob']at h1;injection h1 with h1;subst h1;exact Nat.le_refl _)⟩
      obtain⟨FF1,Hs,Fs,h1,x1,hls,hnd,hhs,hm,hsub,hoth,hmon⟩:=zb6 ht hcs' xt he3;obtain⟨Hy,Fy,hoy,hny,hsy,hhy⟩:=zb_ hls hx hnd hhs;simp only at h1 x1 hm hsub hoth hmon ⊢;have hgF:g∈FF o:=by rw[hF];simp
      have hput:∀ o' j,j∈zaj FF o [] o'→j∈FF o'∧o'≠o:=by
       intro o' j hj;unfold zaj at hj;split at hj
       ·cases hj
       ·rename_i hne;exact⟨hj,hne⟩
      have hgno:∀ o',g∉FF1 o':=fun o' ho'=>by
       obtain⟨h3,h4⟩:=hput o' g (hsub o' g ho');exact h.dj o o' (fun e=>h4 e.symm) g hgF h3
      refine⟨FF1,g::Fy,h1,x1,?_,?_,fun o' j hj=>(hput o' j (hsub o' j hj)).1,fun o' ho'=>?_,fun u hu=>hmon u (List.mem_append_left _ hu),(fun _=>by first|trivial|rfl),⟨o,g,cs,rfl,hob,hA,hv⟩,(by simp[ioId]),fun o' ho'=>?_,fun Z hz hr=>⟨g,T,arr,Hy,Fy,hv,rfl,hg,hhy,hoy⟩⟩
      ·rw[List.nodup_cons];refine⟨fun hgy=>?_,hny⟩;obtain⟨_,_,o',ho'⟩:=hm g (hsy g hgy);obtain⟨h3,h4⟩:=hput o' g ho';exact h.dj o o' (fun e=>h4 e.symm) g hgF h3
      ·intro j hj;rcases List.mem_cons.1 hj with rfl|hj
       ·exact⟨h.mine o j hgF,hgno,o,hgF⟩
       ·obtain⟨h3,h4,o',h5⟩:=hm j (hsy j hj);exact⟨h3,h4,o',(hput o' j h5).1⟩
      ·rw[hoth o' ho'];unfold zaj;rw[if_neg];intro e;exact ho' (o,Ent.dead 0) (hmon _ (by simp)) e.symm
      ·have:o'=o:=by simpa [ioId] using ho'
       subst this;refine⟨hno,⟨(o',.dead 0),hmon _ (by simp),rfl⟩,?_⟩;apply List.eq_nil_iff_forall_not_mem.2;intro j hj;exact(hput o' j (hsub o' j hj)).2 rfl
  ·exact(M.ev_fail (ob:=ob) he).elim
end
end Go.Proofs.Ytbjgiioppmkpiaa.Rx

namespace Go.Proofs.Ytbjgiioppmkpiaa.Rx
open Go Go.RowKit
section
variable{P:Program}{cx:Cx}{I:In}{FF:Nat→List Nat}{ob:Ob}{w:World}
def ConsOK(ob:Ob)(cons:List (Nat×Ent)):Prop:=∀ u∈cons,∃ e,ob u.1=some e∧u.2 = .dead e.ver
theorem ConsOK.snoc{cons:List (Nat×Ent)}(h:ConsOK ob cons){o:Nat}{e:Ent}(he:ob o=some e){v:Nat}(hv:v=e.ver):ConsOK ob (cons++[(o,.dead v)]):=by
 intro u hu;rcases List.mem_append.1 hu with hu|hu
 ·exact h u hu
 ·have:u=(o,.dead v):=by simpa using hu
  subst this;exact⟨e,he,by rw[hv]⟩
theorem zon{s:SV}{cons:List (Nat×Ent)}(h:ConsOK ob cons){r:LS×List (Nat×Ent)}{lg:List Nat}(he:(res1 s cons ob).ev=some (r,lg)):ConsOK ob r.2:=by
 cases s with
 |int k n=>have:=M.ev_pure (ob:=ob) he;subst this;exact h
 |bool b=>have:=M.ev_pure (ob:=ob) he;subst this;exact h
 |str s=>have:=M.ev_pure (ob:=ob) he;subst this;exact h
 |nil=>have:=M.ev_pure (ob:=ob) he;subst this;exact h
 |ref o ver p vw =>
  cases p with
  |cons a p=>exact(M.ev_fail (ob:=ob) he).elim
  |nil =>
   simp only[res1]at he
   cases hany:cons.any (fun c=>c.1 == o) with
   |true=>simp only[hany]at he;exact(M.ev_fail (ob:=ob) he).elim
   |false =>
    simp only[hany]at he;obtain⟨en,l3,l4,he3,he4,_⟩:=M.ev_bind he;have hob:=M.ev_get he3
    cases en with
    |box cs=>exact(M.ev_fail (ob:=ob) he4).elim
    |dead vv=>exact(M.ev_fail (ob:=ob) he4).elim
    |iter _ _=>exact(M.ev_fail (ob:=ob) he4).elim
    |map _=>exact(M.ev_fail (ob:=ob) he4).elim
    |grp _ _ _=>exact(M.ev_fail (ob:=ob) he4).elim
    |lit _ _=>exact(M.ev_fail (ob:=ob) he4).elim
    |mit _ _ _=>exact(M.ev_fail (ob:=ob) he4).elim
    |gh _=>exact(M.ev_fail (ob:=ob) he4).elim
    |half _ _ _=>exact(M.ev_fail (ob:=ob) he4).elim
    |ro _=>exact(M.ev_fail (ob:=ob) he4).elim
    |mid _ _ _=>exact(M.ev_fail (ob:=ob) he4).elim
    |rv _ _=>exact(M.ev_fail (ob:=ob) he4).elim
    |row r0 cur hole =>
     cases hole with
     |some p=>exact(M.ev_fail (ob:=ob) he4).elim
     |none =>
      have:=M.ev_pure (ob:=ob) he4;subst this;exact h.snoc hob rfl
 |_=>exact(M.ev_fail (ob:=ob) he).elim
theorem zj_:∀ {ss:List SV} {cons:List (Nat×Ent)},ConsOK ob cons→∀ {r:List LS×List (Nat×Ent)} {lg:List Nat},(resM ss cons ob).ev=some (r,lg)→ConsOK ob r.2
 | [],cons,h,r,lg,he=>by have:=M.ev_pure (ob:=ob) he;subst this;exact h
 |s::ss,cons,h,r,lg,he=>by
  obtain⟨a,l1,l2,he1,he2,rfl⟩:=M.ev_bind he;obtain⟨b,l3,l4,he3,he4,rfl⟩:=M.ev_bind he2;have:=M.ev_pure (ob:=ob) he4;subst this;exact zj_ (r:=b) (zon h he1) he3
theorem znq:∀ (t:Ty) {cs:List SV} {cons:List (Nat×Ent)},ConsOK ob cons→∀ {x:t.den×List (Nat×Ent)} {lg:List Nat},(ioA t cs cons ob).ev=some (x,lg)→ConsOK ob x.2
 | .int k,cs,cons,h,x,lg,he=>by
  simp only[ioA]at he;split at he
  ·split at he
   ·have:=M.ev_pure (ob:=ob) he;subst this;exact h
   ·exact(M.ev_fail (ob:=ob) he).elim
  ·exact(M.ev_fail (ob:=ob) he).elim
 | .bool,cs,cons,h,x,lg,he=>by
  simp only[ioA]at he;split at he
  ·have:=M.ev_pure (ob:=ob) he;subst this;exact h
  ·exact(M.ev_fail (ob:=ob) he).elim
 | .str,cs,cons,h,x,lg,he=>by
  simp only[ioA]at he;split at he
  ·have:=M.ev_pure (ob:=ob) he;subst this;exact h
  ·exact(M.ev_fail (ob:=ob) he).elim
 | .row e t,cs,cons,h,x,lg,he=>by
  simp only[ioA]at he;split at he
  ·have:=M.ev_pure (ob:=ob) he;subst this;exact h
  ·obtain⟨⟨l,cons'⟩,l1,l2,he1,he2,rfl⟩:=M.ev_bind he;have hh:=zon h he1;simp only at he2
   cases l with
   |rw q =>
    simp only at he2
    cases hq:(q.e == e) with
    |false=>simp only[hq]at he2;exact(M.ev_fail (ob:=ob) he2).elim
    |true =>
     cases hc:zaq q t with
     |none=>simp only[hq,hc]at he2;exact(M.ev_fail (ob:=ob) he2).elim
     |some xs=>simp only[hq,hc]at he2;have:=M.ev_pure (ob:=ob) he2;subst this;exact hh
   |_=>simp only at he2;exact(M.ev_fail (ob:=ob) he2).elim
  ·exact(M.ev_fail (ob:=ob) he).elim
 | .pair a b,cs,cons,h,x,lg,he=>by
  simp only[ioA]at he;obtain⟨xa,l1,l2,he1,he2,rfl⟩:=M.ev_bind he;obtain⟨xb,l3,l4,he3,he4,rfl⟩:=M.ev_bind he2;have:=M.ev_pure (ob:=ob) he4;subst this;exact znq b (znq a h he1) he3
theorem zy8{st:Bool}{k:PK}{a:AV}{cons:List (Nat×Ent)}(h:ConsOK ob cons){r:k.den×List (Nat×Ent)×List Nat}{lg:List Nat}(he:(argM st k a cons ob).ev=some (r,lg)):ConsOK ob r.2.1:=by
 cases k with
 |val t agg =>
  simp only[argM]at he
  cases hc:avC agg a with
  |none=>simp only[hc]at he;exact(M.ev_fail (ob:=ob) he).elim
  |some cs =>
   simp only[hc]at he;obtain⟨⟨ls,rds⟩,l1,l2,he1,he2,rfl⟩:=M.ev_bind he;simp only at he2
   cases hx:za0 t ls with
   |none=>simp only[hx]at he2;exact(M.ev_fail (ob:=ob) he2).elim
   |some y=>simp only[hx]at he2;have:=M.ev_pure (ob:=ob) he2;subst this;exact h
 |own t agg =>
  simp only[argM]at he
  cases hc:avC agg a with
  |none=>simp only[hc]at he;exact(M.ev_fail (ob:=ob) he).elim
  |some cs =>
   simp only[hc]at he;obtain⟨⟨ls,cons'⟩,l1,l2,he1,he2,rfl⟩:=M.ev_bind he;simp only at he2
   cases hx:za0 t ls with
   |none=>simp only[hx]at he2;exact(M.ev_fail (ob:=ob) he2).elim
   |some y=>simp only[hx]at he2;have:=M.ev_pure (ob:=ob) he2;subst this;exact zj_ h he1
 |io t agg =>
  simp only[argM]at he
  cases hc:avC agg a with
  |none=>simp only[hc]at he;exact(M.ev_fail (ob:=ob) he).elim
  |some cs =>
   simp only[hc]at he;obtain⟨y,l1,l2,he1,he2,rfl⟩:=M.ev_bind he;have:=M.ev_pure (ob:=ob) he2;subst this;exact znq t h he1
 |cp t =>
  simp only[argM]at he;split at he
  ·obtain⟨y,l1,l2,he1,he2,rfl⟩:=M.ev_bind he;have:=M.ev_pure (ob:=ob) he2;subst this;exact h
  ·exact(M.ev_fail (ob:=ob) he).elim
 |fn f ts =>
  simp only[argM]at he;split at he
  ·rename_i g ss
   cases hgf:Nat.beq g f with
   |false=>simp only[hgf]at he;exact(M.ev_fail (ob:=ob) he).elim
   |true =>
    simp only[hgf]at he;obtain⟨y,l1,l2,he1,he2,rfl⟩:=M.ev_bind he;have:=M.ev_pure (ob:=ob) he2;subst this;exact h
  ·exact(M.ev_fail (ob:=ob) he).elim
 |bx t =>
  simp only[argM]at he;split at he
  ·rename_i o
   cases hany:cons.any (fun c=>c.1 == o) with
   |true=>simp only[hany]at he;exact(M.ev_fail (ob:=ob) he).elim
   |false =>
    simp only[hany]at he;obtain⟨en,l1,l2,he1,he2,rfl⟩:=M.ev_bind he;have hob:=M.ev_get he1
    cases en with
    |row r cur hole=>exact(M.ev_fail (ob:=ob) he2).elim
    |dead vv=>exact(M.ev_fail (ob:=ob) he2).elim
    |iter _ _=>exact(M.ev_fail (ob:=ob) he2).elim
    |map _=>exact(M.ev_fail (ob:=ob) he2).elim
    |grp _ _ _=>exact(M.ev_fail (ob:=ob) he2).elim
    |lit _ _=>exact(M.ev_fail (ob:=ob) he2).elim
    |mit _ _ _=>exact(M.ev_fail (ob:=ob) he2).elim
    |gh _=>exact(M.ev_fail (ob:=ob) he2).elim
    |half _ _ _=>exact(M.ev_fail (ob:=ob) he2).elim
    |ro _=>exact(M.ev_fail (ob:=ob) he2).elim
    |mid _ _ _=>exact(M.ev_fail (ob:=ob) he2).elim
    |rv _ _=>exact(M.ev_fail (ob:=ob) he2).elim
    |box cs =>
     simp only at he2;obtain⟨⟨ls,rds⟩,l3,l4,he3,he4,rfl⟩:=M.ev_bind he2;simp only at he4
     cases hx:za0 t ls with
     |none=>simp only[hx]at he4;exact(M.ev_fail (ob:=ob) he4).elim
     |some y=>simp only[hx]at he4;have:=M.ev_pure (ob:=ob) he4;subst this;exact h.snoc hob rfl
  ·exact(M.ev_fail (ob:=ob) he).elim
 |bo t =>
  simp only[argM]at he;split at he
  ·rename_i o
   cases hany:cons.any (fun c=>c.1 == o) with
   |true=>simp only[hany]at he;exact(M.ev_fail (ob:=ob) he).elim
   |false =>
    simp only[hany]at he;obtain⟨en,l1,l2,he1,he2,rfl⟩:=M.ev_bind he;have hob:=M.ev_get he1
    cases en with
    |row r cur hole=>exact(M.ev_fail (ob:=ob) he2).elim
    |dead vv=>exact(M.ev_fail (ob:=ob) he2).elim
    |iter _ _=>exact(M.ev_fail (ob:=ob) he2).elim
    |map _=>exact(M.ev_fail (ob:=ob) he2).elim
    |grp _ _ _=>exact(M.ev_fail (ob:=ob) he2).elim
    |lit _ _=>exact(M.ev_fail (ob:=ob) he2).elim
    |mit _ _ _=>exact(M.ev_fail (ob:=ob) he2).elim
    |gh _=>exact(M.ev_fail (ob:=ob) he2).elim
    |half _ _ _=>exact(M.ev_fail (ob:=ob) he2).elim
    |ro _=>exact(M.ev_fail (ob:=ob) he2).elim
    |mid _ _ _=>exact(M.ev_fail (ob:=ob) he2).elim
    |rv _ _=>exact(M.ev_fail (ob:=ob) he2).elim
    |box cs =>
     simp only at he2;obtain⟨⟨ls,cons'⟩,l3,l4,he3,he4,rfl⟩:=M.ev_bind he2;have hh:=zj_ (h.snoc hob rfl) he3;simp only at he4
     cases hx:za0 t ls with
     |none=>simp only[hx]at he4;exact(M.ev_fail (ob:=ob) he4).elim
     |some y=>simp only[hx]at he4;have:=M.ev_pure (ob:=ob) he4;subst this;exact hh
  ·exact(M.ev_fail (ob:=ob) he).elim
theorem zr6:∀ {cons:List (Nat×Ent)} {ob0:Ob} {o:Nat} {e e0:Ent},(∀ u∈cons,u.1=o→u.2.ver≤e.ver)→(∀ e1,ob0 o=some e1→e1.ver≤e.ver)→(ob0.puts cons) o=some e0→e0.ver≤e.ver
 | [],ob0,o,e,e0,_,h0,h=>h0 e0 h
 |u::us,ob0,o,e,e0,hu,h0,h=>by
  refine zr6 (cons:=us) (ob0:=ob0.put u.1 u.2) (fun u' hu'=>hu u' (List.mem_cons_of_mem _ hu')) (fun e1 h1=>?_) h;unfold Ob.put at h1;split at h1
  ·rename_i ho;injection h1 with h1
   subst h1;exact hu u List.mem_cons_self ho.symm
  ·exact h0 e1 h1
def IoFs(I:In)(ob:Ob):List PK→List AV→List Value→Prop
 | [],[],[]=>True
 |k::ks,a::as,v::vs=>IoF I ob k a v∧IoFs I ob ks as vs
 |_,_,_=>False
def zbf:List PK→List AV→List Nat
 |k::ks,a::as=>ioId k a++zbf ks as
 |_,_=>[]
theorem zpu{FF0:Nat→List Nat}(h0:RelH cx I FF0 ob w){st:Bool}:∀ {ks:List PK} {as:List AV} {vs:List Value} {FF:Nat→List Nat} {cons:List (Nat×Ent)},RelH cx I FF (ob.puts cons) w→(∀ o k,k∈FF o→k∈FF0 o) →
  F2 (RelA cx I ob) as vs→Ext I ob I (ob.puts cons)→ConsOK ob cons→∀ {r:zai ks×List (Nat×Ent)×List Nat} {lg:List Nat},(zui st ks as cons ob).ev=some (r,lg) →
  ∃ FF' Fs,RelH cx I FF' (ob.puts r.2.1) w∧Ext I ob I (ob.puts r.2.1)∧Fs.flatten.Nodup∧(∀ j∈Fs.flatten,(¬ cx.Z j∧(cx.D0 j∨cx.w0.heap.size≤j)∧j<w.heap.size)∧(∀ o,j∉FF' o)∧∃ o,j∈FF o)∧(∀ o j,j∈FF' o→j∈FF o) ∧
   (∀ o,(∀ u∈r.2.1,u.1≠o)→FF' o=FF o)∧(∀ u∈cons,u∈r.2.1)∧(st=true→r.2.2=[])∧IoFs I ob ks as vs∧ConsOK ob r.2.1∧(zbf ks as).Nodup ∧
   (∀ o∈zbf ks as,(∀ u∈cons,u.1≠o)∧(∃ u∈r.2.1,u.1=o)∧FF' o=[]) ∧
   (∀ Z:Nat→Prop,(∀ j,cx.Z j→Z j)→(∀ o∈r.2.2,∀ j∈FF0 o,Z j)→zid w Z ks r.1 vs Fs)
 | [],[],[],FF,cons,h,hsub,_,x,hc,r,lg,he=>by
  have:=M.ev_pure (ob:=ob) he;subst this;exact⟨FF,[],h,x,List.nodup_nil,(fun j hj=>by simp at hj),fun _ _ h=>h,fun _ _=>rfl,fun _ h=>h,fun _=>rfl,trivial,hc,List.nodup_nil,(fun o ho=>by cases ho),fun Z _ _=>trivial⟩
 |k::ks,a::as,v::vs,FF,cons,h,hsub,ha,x,hc,r,lg,he=>by
  simp only[zui]at he;obtain⟨⟨y,c1,r1⟩,l1,l2,he1,he2,rfl⟩:=M.ev_bind he;obtain⟨⟨ys,c2,r2⟩,l3,l4,he3,he4,rfl⟩:=M.ev_bind he2;have:=M.ev_pure (ob:=ob) he4;subst this;obtain⟨FF1,F,h1,x1,hn1,hm1,hs1,ho1,hmon1,hst1,hio1,hq1,hid1,hA1⟩:=ye8 h0 h hsub ha.1 x he1;have hc1:=zy8 hc he1;obtain⟨FF2,Fs,h2,x2,hn2,hm2,hs2,ho2,hmon2,hst2,hio2,hc2,hnd2,hid2,hA2⟩:=zpu h0 h1 (fun o k hk=>hsub o k (hs1 o k hk)) ha.2 x1 hc1 he3;simp only at hst1 hst2 hA1 hA2 hm2 hid1 hid2 ho1 ho2 hmon1 hmon2 ⊢;refine⟨FF2,F::Fs,h2,x2,?_,?_,fun o j hj=>hs1 o j (hs2 o j hj),?_,fun u hu=>hmon2 u (hmon1 u hu),fun e=>by simp[hst1 e,hst2 e],⟨hio1,hio2⟩,hc2,?_,?_,?_⟩
  ·rw[List.flatten_cons,List.nodup_append];refine⟨hn1,hn2,fun i hi j hj e=>?_⟩;subst e;obtain⟨_,_,o,ho⟩:=hm2 i hj;exact(hm1 i hi).2.1 o ho
  ·intro j hj;rw[List.flatten_cons]at hj;rcases List.mem_append.1 hj with hj|hj
   ·obtain⟨h3,h4,h5⟩:=hm1 j hj;exact⟨h3,fun o ho=>h4 o (hs2 o j ho),h5⟩
   ·obtain⟨h3,h4,o,h5⟩:=hm2 j hj;exact⟨h3,h4,o,hs1 o j h5⟩
  ·intro o ho;rw[ho2 o ho];exact ho1 o (fun u hu=>ho u (hmon2 u hu))
  ·rw[zbf,List.nodup_append];refine⟨hq1,hnd2,fun i hi j hj e=>?_⟩
   ·subst e;obtain⟨u,hu,he⟩:=(hid1 i hi).2.1;exact(hid2 i hj).1 u hu he
  ·intro o ho;rw[zbf]at ho;rcases List.mem_append.1 ho with ho|ho
   ·obtain⟨h3,⟨u,hu,he⟩,h5⟩:=hid1 o ho;refine⟨h3,⟨u,hmon2 u hu,he⟩,?_⟩;apply List.eq_nil_iff_forall_not_mem.2;intro j hj;have:=hs2 o j hj;rw[h5]at this;cases this
   ·obtain⟨h3,h4,h5⟩:=hid2 o ho;exact⟨fun u hu=>h3 u (hmon1 u hu),h4,h5⟩
  ·intro Z hz hr;exact⟨hA1 Z hz (fun o ho=>hr o (List.mem_append_left _ ho)),hA2 Z hz (fun o ho=>hr o (List.mem_append_right _ ho))⟩
 | [],_::_,_,_,_,_,_,_,_,_,_,_,he=>(M.ev_fail (ob:=ob) he).elim
 |_::_,[],_,_,_,_,_,_,_,_,_,_,he=>(M.ev_fail (ob:=ob) he).elim
 | [],[],_::_,_,_,_,_,ha,_,_,_,_,_=>ha.elim
 |_::_,_::_,[],_,_,_,_,ha,_,_,_,_,_=>ha.elim
theorem zc5{Z:Nat→Prop}:∀ (t:Ty) {y:t.den} {cs:List Value},(∀ k,Z k→cx.Z k∧cx.w0.heap[k]? = w.heap[k]?)→Cn w Z t y cs→F2 (RelS cx I ob) (zb9 t y) cs
 | .int _,_,_,_,h=>by rw[show _=_ from h];exact⟨rfl,trivial⟩
 | .bool,_,_,_,h=>by rw[show _=_ from h];exact⟨rfl,trivial⟩
 | .str,_,_,_,h=>by rw[show _=_ from h];exact⟨rfl,trivial⟩
 | .row e t,xs,cs,hz,h=>by
  obtain⟨v,rfl,h⟩:=h;exact⟨CnR.imp hz h,trivial⟩
 | .pair a b,x,cs,hz,h=>by
  obtain⟨c1,c2,rfl,h1,h2⟩:=h;exact F2.app (zc5 a hz h1) (zc5 b hz h2)
theorem zh0{Z:Nat→Prop}:∀ (t:Ty) {y:t.den} {cs:List Value},t.flat=true→Cn w Z t y cs→F2 (RelS cx I ob) (zb9 t y) cs
 | .int _,_,_,_,h=>by rw[show _=_ from h];exact⟨rfl,trivial⟩
 | .bool,_,_,_,h=>by rw[show _=_ from h];exact⟨rfl,trivial⟩
 | .str,_,_,_,h=>by rw[show _=_ from h];exact⟨rfl,trivial⟩
 | .row e t,xs,cs,hf,h=>by cases hf
 | .pair a b,x,cs,hf,h=>by
  simp only[Ty.flat,Bool.and_eq_true]at hf;obtain⟨c1,c2,rfl,h1,h2⟩:=h;exact F2.app (zh0 a hf.1 h1) (zh0 b hf.2 h2)
theorem za6:∀ (t:Ty) (d:Nat) (y:t.den),∀ u∈zar d t y,d≤u.1∧u.1<d+zbm t
 | .int _,d,y,u,hu=>by cases hu
 | .bool,d,y,u,hu=>by cases hu
 | .str,d,y,u,hu=>by cases hu
 | .row e t,d,y,u,hu=>by
  have:u=(d,.row ⟨e,t,y⟩ 0 none):=by simpa [zar] using hu
  subst this;simp[zbm]
 | .pair a b,d,y,u,hu=>by
  simp only[zar]at hu;rcases List.mem_append.1 hu with hu|hu
  ·have:=za6 a d y.1 u hu;simp only[zbm];omega
  ·have:=za6 b _ y.2 u hu;simp only[zbm];omega
theorem OwR.norm{e:TypeId}{t:Ty}{H:Path→Hd}{xs:List t.den}{v:Value}{F:List Nat}(h:OwR w e t H xs v F)(hh:(H []).hole=false) :
  OwR w e t (fun p=>match p with | []=>⟨(H []).A,(H []).cap,xs.length,t.sz,false⟩|a::q=>H (a::q)) xs v F∧v = .slice (H []).A xs.length (H []).cap:=by
 unfold OwR OwRow at h ⊢;rw[if_neg (by simp[hh])]at h;obtain⟨hv,hl,hle,hmx,h5⟩:=h;refine⟨?_,by rw[hv,hl]⟩;rw[if_neg (by simp)];refine⟨by simp only;rw[hv,hl],by simp,by simp only;omega,hmx,?_⟩;simp only
 by_cases hc:(H []).cap=0
 ·rw[if_pos hc]at h5 ⊢;exact h5
 ·rw[if_neg hc]at h5 ⊢;obtain⟨_,g,b,cells,F',hA,hF,hg,hs,hr⟩:=h5;exact⟨trivial,g,b,cells,F',hA,hF,hg,hs,by rw[hl];exact hr⟩
theorem zgv:∀ (t:Ty) {I:In} {FF:Nat→List Nat} {ob:Ob} {d c:Nat} {H:Nat→Path→Hd} {y:t.den} {cs:List Value} {F:List Nat},RelH cx I FF ob w→Ow w t H c y cs F→zd5 H→F.Nodup →
  (∀ k∈F,(¬ cx.Z k∧(cx.D0 k∨cx.w0.heap.size≤k)∧k<w.heap.size)∧∀ o,k∉FF o)→(∀ u∈zar d t y,ob u.1=none) →
  ∃ I' FF',Ext I ob I' (ob.puts (zar d t y))∧RelH cx I' FF' (ob.puts (zar d t y)) w∧F2 (RelS cx I' (ob.puts (zar d t y))) (zbs d t y) cs∧(∀ o k,k∈FF' o→k∈FF o∨k∈F)∧(∀ o,(∀ u∈zar d t y,u.1≠o)→FF' o=FF o)
 | .int _,I,FF,ob,d,c,H,y,cs,F,h,ho,_,_,_,_=>⟨I,FF,Ext.refl I ob,h,by rw[ho.1];exact⟨rfl,trivial⟩,fun _ _ h=>.inl h,fun _ _=>rfl⟩
 | .bool,I,FF,ob,d,c,H,y,cs,F,h,ho,_,_,_,_=>⟨I,FF,Ext.refl I ob,h,by rw[ho.1];exact⟨rfl,trivial⟩,fun _ _ h=>.inl h,fun _ _=>rfl⟩
 | .str,I,FF,ob,d,c,H,y,cs,F,h,ho,_,_,_,_=>⟨I,FF,Ext.refl I ob,h,by rw[ho.1];exact⟨rfl,trivial⟩,fun _ _ h=>.inl h,fun _ _=>rfl⟩
 | .row e t,I,FF,ob,d,c,H,y,cs,F,h,ho,hh,hn,hm,hf=>by
  obtain⟨v,rfl,ho⟩:=ho;have ho':OwR w e t (H c) y v F:=ho;obtain⟨hnorm,hv⟩:=ho'.norm (hh c []);have hd:ob d=none:=hf (d,.row ⟨e,t,y⟩ 0 none) (by simp[zar]);have x:Ext I ob (Inew I d (fun p=>match p with | []=>⟨(H c []).A,(H c []).cap,y.length,t.sz,false⟩|a::q=>H c (a::q))) (ob.put d (.row ⟨e,t,y⟩ 0 none)):=Ext.new hd;obtain⟨I',x',hr,hs⟩:=zni (r:=⟨e,t,y⟩) h hd hnorm (fun p=>by cases p with|nil=>rfl|cons a q=>exact hh c _) hn hm rfl hv;refine⟨I',_,x',hr,⟨hs,trivial⟩,fun o k hk=>?_,fun o ho=>?_⟩
  ·unfold zaj at hk;split at hk
   ·exact .inr hk
   ·exact .inl hk
  ·unfold zaj;rw[if_neg (fun he=>ho (d,.row ⟨e,t,y⟩ 0 none) (by simp[zar]) he.symm)]
 | .pair a b,I,FF,ob,d,c,H,y,cs,F,h,ho,hh,hn,hm,hf=>by
  obtain⟨c1,c2,F1,F2',rfl,rfl,h1,h2⟩:=ho;have hn':=List.nodup_append.1 hn;obtain⟨I1,FF1,x1,r1,s1,b1,k1⟩:=zgv a h h1 hh hn'.1 (fun k hk=>hm k (List.mem_append_left _ hk)) (fun u hu=>hf u (by simp only[zar];exact List.mem_append_left _ hu))
  obtain ⟨I2,FF2,x2,r2,s2,b2,k2⟩:=zgv b (d:=d + zbm a) r1 h2 hh hn'.2.1 (fun k hk=>by
   obtain⟨h3,h4⟩:=hm k (List.mem_append_right _ hk);refine⟨h3,fun o ho=>?_⟩;rcases b1 o k ho with ho|ho
   ·exact h4 o ho
   ·exact hn'.2.2 k ho k hk rfl) (fun u hu=>by
   rw[Ob.puts_other]
   ·exact hf u (by simp only[zar];exact List.mem_append_right _ hu)
   ·intro u' hu' e;have h5:=za6 a d y.1 u' hu';have h6:=za6 b (d+zbm a) y.2 u hu
    omega)
  have e:ob.puts (zar d (.pair a b) y)=(ob.puts (zar d a y.1)).puts (zar (d+zbm a) b y.2):=by simp only[zar];exact Ob.puts_append _ _ _
  rw[e]
  refine ⟨I2,FF2,x1.trans x2,r2,?_,fun o k hk=>?_,fun o ho=>by
   simp only[zar]at ho
   rw[k2 o (fun u hu=>ho u (List.mem_append_right _ hu)),k1 o (fun u hu=>ho u (List.mem_append_left _ hu))]⟩
  ·simp only[zbs];exact F2.app (s1.imp (fun _ _ h=>h.ext x2)) s2
  ·rcases b2 o k hk with hk|hk
   ·rcases b1 o k hk with hk|hk
    ·exact .inl hk
    ·exact .inr (List.mem_append_left _ hk)
   ·exact .inr (List.mem_append_right _ hk)
theorem zd3(t:Ty){I:In}{FF:Nat→List Nat}{ob:Ob}{d c:Nat}{H:Nat→Path→Hd}{y:t.den}{cs:List Value}{F:List Nat}(h:RelH cx I FF ob w)(ho:Ow w t H c y cs F)(hh:zd5 H)(hn:F.Nodup)
  (hm:∀ k∈F,(¬ cx.Z k∧(cx.D0 k∨cx.w0.heap.size≤k)∧k<w.heap.size)∧∀ o,k∉FF o) (hf:∀ u∈zar d t y,ob u.1=none) :
  ∃ I' FF',Ext I ob I' (ob.puts (zar d t y))∧RelH cx I' FF' (ob.puts (zar d t y)) w∧F2 (RelS cx I' (ob.puts (zar d t y))) (zbs d t y) cs∧(∀ o k,k∈FF' o→k∈FF o∨k∈F):=by
 obtain⟨I',FF',h1,h2,h3,h4,_⟩:=zgv t h ho hh hn hm hf;exact⟨I',FF',h1,h2,h3,h4⟩
end
end Go.Proofs.Ytbjgiioppmkpiaa.Rx

namespace Go.Proofs.Ytbjgiioppmkpiaa.Rx
open Go Go.RowKit
section
variable{P:Program}{cx:Cx}{w:World}
theorem zra{I:In}{ob:Ob}{Z:Nat→Prop}{st:Bool}(hz:st=true→∀ k,Z k→cx.Z k∧cx.w0.heap[k]? = w.heap[k]?){t:Ty}(hf:st=true∨t.flat=true){y:t.den}{cs:List Value}(h:Cn w Z t y cs):F2 (RelS cx I ob) (zb9 t y) cs:=by
 rcases hf with hf|hf
 ·exact zc5 t (hz hf) h
 ·exact zh0 t hf h
abbrev TupR(cx:Cx)(I:In)(ob:Ob)(x:Bool×List SV)(v:Value):Prop :=
 if x.1=true then (∃ arr:Array Value,v = .agg arr∧F2 (RelS cx I ob) x.2 arr.toList) else (∃ s,x.2=[s]∧RelS cx I ob s v)
theorem zuy{I:In}{ob:Ob}{agg:Bool}{ss:List SV}{v:Value}{R:List Value→Prop}(h:VR agg R v)(hr:∀ cs,R cs→F2 (RelS cx I ob) ss cs):TupR cx I ob (agg,ss) v:=by
 cases agg with
 |true =>
  obtain⟨arr,rfl,h⟩:=h;exact⟨arr,rfl,hr _ h⟩
 |false =>
  have h1:=hr _ h.2;show ∃ s,ss=[s]∧RelS cx I ob s v
  cases ss with
  |nil=>exact h1.elim
  |cons s ss =>
   cases ss with
   |nil=>exact⟨s,rfl,h1.1⟩
   |cons _ _=>exact h1.2.elim
theorem TupR.ext{I I':In}{ob ob':Ob}{x:Bool×List SV}{v:Value}(h:TupR cx I ob x v)(e:Ext I ob I' ob'):TupR cx I' ob' x v:=by
 unfold TupR at *;split
 ·rename_i hx;rw[if_pos hx]at h;obtain⟨a2,rfl,h⟩:=h;exact⟨a2,rfl,h.imp (fun _ _ h=>h.ext e)⟩
 ·rename_i hx;rw[if_neg hx]at h;obtain⟨s,hs,h⟩:=h;exact⟨s,hs,h.ext e⟩
theorem za5:∀ (ks:List RK) (d:Nat) (y:zah ks),∀ u∈zax d ks y,d≤u.1
 | [],d,y,u,hu=>by cases hu
 | .own t agg::ks,d,y,u,hu=>by
  simp only[zax]at hu;rcases List.mem_append.1 hu with hu|hu
  ·exact(za6 t d y.1 u hu).1
  ·have:=za5 ks _ y.2 u hu;omega
 | .val t agg::ks,d,y,u,hu=>by
  simp only[zax]at hu;exact za5 ks _ y.2 u hu
 | .bx t::ks,d,y,u,hu=>by
  simp only[zax]at hu;rcases List.mem_cons.1 hu with rfl|hu
  ·exact Nat.le_refl _
  ·have:=za5 ks _ y.2 u hu;omega
 | .ro e t g::ks,d,y,u,hu=>by
  simp only[zax]at hu;rcases List.mem_cons.1 hu with rfl|hu
  ·exact Nat.le_refl _
  ·have:=za5 ks _ y.2 u hu;omega
 | .rw e t::ks,d,y,u,hu=>by
  simp only[zax]at hu;rcases List.mem_cons.1 hu with rfl|hu
  ·exact Nat.le_refl _
  ·have:=za5 ks _ y.2 u hu;omega
 | .half e t c::ks,d,y,u,hu=>by
  simp only[zax]at hu;rcases List.mem_cons.1 hu with rfl|hu
  ·exact Nat.le_refl _
  ·have:=za5 ks _ y.2 u hu;omega
theorem zdc{Z:Nat→Prop}{st:Bool}(hz:st=true→∀ k,Z k→cx.Z k∧cx.w0.heap[k]? = w.heap[k]?):∀ {ks:List RK} {I:In} {FF:Nat→List Nat} {ob:Ob} {d:Nat} {y:zah ks} {us:List Value} {Gs:List (List Nat)},
  RelH cx I FF ob w→zic w Z ks y us Gs→(st=true∨zls ks=true)→Gs.flatten.Nodup→(∀ k∈Gs.flatten,(¬ cx.Z k∧(cx.D0 k∨cx.w0.heap.size≤k)∧k<w.heap.size)∧∀ o,k∉FF o)→(∀ u∈zax d ks y,ob u.1=none) →
  ∃ I' FF',Ext I ob I' (ob.puts (zax d ks y))∧RelH cx I' FF' (ob.puts (zax d ks y)) w∧F2 (TupR cx I' (ob.puts (zax d ks y))) (zom d ks y) us
 | [],I,FF,ob,d,y,[],[],h,_,_,_,_,_=>⟨I,FF,Ext.refl I ob,h,trivial⟩
 | .own t agg::ks,I,FF,ob,d,y,v::us,G::Gs,h,hr,hf,hn,hm,hfree=>by
  obtain⟨⟨H,hh,hv⟩,hr2⟩:=hr;rw[List.flatten_cons]at hn hm;have hn':=List.nodup_append.1 hn
  have key:∃ I1 FF1,Ext I ob I1 (ob.puts (zar d t y.1))∧RelH cx I1 FF1 (ob.puts (zar d t y.1)) w∧TupR cx I1 (ob.puts (zar d t y.1)) (agg,zbs d t y.1) v∧(∀ o k,k∈FF1 o→k∈FF o∨k∈G):=by
   cases agg with
   |true =>
    obtain⟨arr,rfl,ho⟩:=hv;obtain⟨I1,FF1,x1,r1,s1,b1⟩:=zd3 t h ho hh hn'.1 (fun k hk=>hm k (List.mem_append_left _ hk)) (fun u hu=>hfree u (by simp only[zax];exact List.mem_append_left _ hu));exact⟨I1,FF1,x1,r1,⟨arr,rfl,s1⟩,b1⟩
   |false =>
    obtain⟨h1,ho⟩:=hv;obtain⟨I1,FF1,x1,r1,s1,b1⟩:=zd3 t h ho hh hn'.1 (fun k hk=>hm k (List.mem_append_left _ hk)) (fun u hu=>hfree u (by simp only[zax];exact List.mem_append_left _ hu));exact⟨I1,FF1,x1,r1,zuy (R:=fun cs=>cs=[v]) ⟨h1,rfl⟩ (fun cs hcs=>by rw[hcs];exact s1),b1⟩
  obtain⟨I1,FF1,x1,r1,s1,b1⟩:=key
  obtain ⟨I2,FF2,x2,r2,s2⟩:=zdc hz (d:=d + zbm t) r1 hr2 (hf.imp id (fun h=>h)) hn'.2.1 (fun k hk=>by
   obtain⟨h3,h4⟩:=hm k (List.mem_append_right _ hk);refine⟨h3,fun o ho=>?_⟩;rcases b1 o k ho with ho|ho
   ·exact h4 o ho
   ·exact hn'.2.2 k ho k hk rfl) (fun u hu=>by
   rw[Ob.puts_other]
   ·exact hfree u (by simp only[zax];exact List.mem_append_right _ hu)
   ·intro u' hu' e;have h5:=za6 t d y.1 u' hu';have h6:=za5 ks (d+zbm t) y.2 u hu
    omega)
  have e:ob.puts (zax d (.own t agg::ks) y)=(ob.puts (zar d t y.1)).puts (zax (d+zbm t) ks y.2):=by simp only[zax];exact Ob.puts_append _ _ _
  rw[e];exact⟨I2,FF2,x1.trans x2,r2,s1.ext x2,s2⟩
 | .val t agg::ks,I,FF,ob,d,y,v::us,G::Gs,h,hr,hf,hn,hm,hfree=>by
  obtain⟨⟨rfl,hv⟩,hr2⟩:=hr;simp only[List.flatten_cons,List.nil_append]at hn hm
  have hf':(st=true∨t.flat=true)∧(st=true∨zls ks=true):=by
   rcases hf with hf|hf
   ·exact⟨.inl hf,.inl hf⟩
   ·simp only[zls,Bool.and_eq_true]at hf;exact⟨.inr hf.1,.inr hf.2⟩
  obtain⟨I2,FF2,x2,r2,s2⟩:=zdc hz (d:=d) h hr2 hf'.2 hn hm (fun u hu=>hfree u hu);exact⟨I2,FF2,x2,r2,zuy hv (fun cs hcs=>zra hz hf'.1 hcs),s2⟩
 | .bx t::ks,I,FF,ob,d,y,v::us,G::Gs,h,hr,hf,hn,hm,hfree=>by
  obtain⟨⟨g,tt,cells,rfl,rfl,hg,hcn⟩,hr2⟩:=hr;rw[List.flatten_cons]at hn hm;have hn':=List.nodup_append.1 hn
  have hf':(st=true∨t.flat=true)∧(st=true∨zls ks=true):=by
   rcases hf with hf|hf
   ·exact⟨.inl hf,.inl hf⟩
   ·simp only[zls,Bool.and_eq_true]at hf;exact⟨.inr hf.1,.inr hf.2⟩
  have hd:ob d=none:=hfree (d,.box (zb9 t y.1)) (by simp only[zax];exact List.mem_cons_self);have x1:Ext I ob (Inew I d (fun _=>⟨some ⟨g,0,none⟩,0,0,0,false⟩)) (ob.put d (.box (zb9 t y.1))):=Ext.new hd;have hIn:Inew I d (fun _=>⟨some ⟨g,0,none⟩,0,0,0,false⟩) d 0 []=⟨some ⟨g,0,none⟩,0,0,0,false⟩:=by simp[Inew]
  have g1:=h.give (o:=d) (e:=.box (zb9 t y.1)) (F:=[g]) (h.non _ hd) (fun e0 h0=>by rw[hd]at h0;cases h0) x1
   ⟨g,tt,cells,rfl,by rw[hIn],hg,zra hz hf'.1 hcn⟩ hn'.1 (fun k hk o'=>(hm k (List.mem_append_left _ hk)).2 o') (fun k hk=>(hm k (List.mem_append_left _ hk)).1)
  have s1:TupR cx (Inew I d (fun _=>⟨some ⟨g,0,none⟩,0,0,0,false⟩)) (ob.put d (.box (zb9 t y.1))) (false,[.bptr d 0]) (.pointer (some ⟨g,0,none⟩)) :=
   ⟨.bptr d 0,rfl,⟨_,Ob.put_same _ _ _,Nat.le_refl _⟩,g,by rw[hIn],rfl⟩
  obtain ⟨I2,FF2,x2,r2,s2⟩:=zdc hz (d:=d + 1) g1 hr2 hf'.2 hn'.2.1 (fun k hk=>by
   obtain⟨h3,h4⟩:=hm k (List.mem_append_right _ hk);refine⟨h3,fun o ho=>?_⟩;unfold zaj at ho;split at ho
   ·have:k=g:=by simpa using ho
    exact hn'.2.2 g (by simp) k hk this.symm
   ·exact h4 o ho) (fun u hu=>by
   have h6:=za5 ks (d+1) y.2 u hu;unfold Ob.put;rw[if_neg (by omega)]
   exact hfree u (by simp only[zax];exact List.mem_cons_of_mem _ hu))
  exact⟨I2,FF2,x1.trans x2,r2,s1.ext x2,s2⟩
 | .half e t c::ks,I,FF,ob,d,y,v::us,G::Gs,h,hr,hf,hn,hm,hfree=>by
  obtain⟨⟨hd0,hh,how⟩,hr2⟩:=hr;rw[List.flatten_cons]at hn hm;have hn':=List.nodup_append.1 hn
  have hst:st=true:=by
   rcases hf with hf|hf
   ·exact hf
   ·cases hf
  have hd:ob d=none:=hfree (d,.half ⟨e,t,y.1⟩ 0 c) (by simp only[zax];exact List.mem_cons_self)
  let H:Path→Hd:=fun p=>match p with | []=>hd0|_=>⟨none,0,0,0,false⟩
  have hH:∀ p,(H p).hole=false:=fun p=>by cases p with
   |nil=>exact hh
   |cons _ _=>rfl
  have x1:Ext I ob (Inew I d H) (ob.put d (.half ⟨e,t,y.1⟩ 0 c)):=Ext.new hd;have hI:Inew I d H d 0=H:=by simp[Inew]
  have hhalf:HalfR cx w ⟨e,t,y.1⟩ (0:Int).toNat H v G:=⟨hH,how.imp (fun _ _=>rfl) (fun i x cs f _ hR=>by
   rw[if_neg (by simp)]
   exact⟨Cn.imp (fun k hk=>⟨(hz hst k hk).1,(hz hst k hk).2⟩) t hR.1,hR.2⟩)⟩
  have g1:=h.give (o:=d) (e:=.half ⟨e,t,y.1⟩ 0 c) (F:=G) (h.non _ hd) (fun e0 h0=>by rw[hd]at h0;cases h0) x1
   ⟨H,v,hhalf,by rw[hI]⟩ hn'.1 (fun k hk o'=>(hm k (List.mem_append_left _ hk)).2 o') (fun k hk=>(hm k (List.mem_append_left _ hk)).1)
  have s1:TupR cx (Inew I d H) (ob.put d (.half ⟨e,t,y.1⟩ 0 c)) (false,[.ref d 0 [] none]) v:=by
   refine⟨.ref d 0 [] none,rfl,⟨_,Ob.put_same _ _ _,Nat.le_refl _⟩,trivial,0,hd0.len,by rw[hI];rfl,by rw[hI];show 0+hd0.len≤hd0.len;omega,?_⟩;unfold OwRow at how;rw[if_neg (by simp[hh])]at how;obtain⟨hv,hl,hle,hmx,h5⟩:=how;refine⟨hd0.A,hd0.cap,hv,hle,hmx,fun _=>by rw[hI];exact⟨rfl,rfl⟩,?_⟩;rw[hI]
   by_cases hc:hd0.cap=0
   ·exact .inl hc
   ·rw[if_neg hc]at h5;obtain⟨_,g,b,_,_,hA,_⟩:=h5;exact .inr ⟨rfl,g,b,hA,by show hd0.A=some ⟨g,b+0*hd0.sz,none⟩;rw[hA];simp⟩
  obtain ⟨I2,FF2,x2,r2,s2⟩:=zdc hz (d:=d + 1) g1 hr2 (.inl hst) hn'.2.1 (fun k hk=>by
   obtain⟨h3,h4⟩:=hm k (List.mem_append_right _ hk);refine⟨h3,fun o ho=>?_⟩;unfold zaj at ho;split at ho
   ·exact hn'.2.2 k ho k hk rfl
   ·exact h4 o ho) (fun u hu=>by
   have h6:=za5 ks (d+1) y.2 u hu;unfold Ob.put;rw[if_neg (by omega)]
   exact hfree u (by simp only[zax];exact List.mem_cons_of_mem _ hu))
  exact⟨I2,FF2,x1.trans x2,r2,s1.ext x2,s2⟩
 | .ro e t agg::ks,I,FF,ob,d,y,v::us,G::Gs,h,hr,hf,hn,hm,hfree=>by
  obtain⟨hvr,hr2⟩:=hr;rw[List.flatten_cons]at hn hm;have hn':=List.nodup_append.1 hn;have hd:ob d=none:=hfree (d,.ro ⟨e,t,y.1⟩) (by simp only[zax];exact List.mem_cons_self)
  have key:∃ u,RoR w G e t y.1 u∧(∀ s:SV,RelS cx I ob s u→True)∧∀ (I':In) (ob':Ob),RelS cx I' ob' (.ref d 0 [] none) u→TupR cx I' ob' (agg,[.ref d 0 [] none]) v:=by
   cases agg with
   |true =>
    obtain⟨arr,rfl,u,hu,hro⟩:=hvr;exact⟨u,hro,fun _ _=>trivial,fun I' ob' hs=>⟨arr,rfl,by rw[hu];exact⟨hs,trivial⟩⟩⟩
   |false =>
    obtain⟨_,u,hu,hro⟩:=hvr;have:v=u:=by simpa using hu
    subst this;exact⟨v,hro,fun _ _=>trivial,fun I' ob' hs=>⟨_,rfl,hs⟩⟩
  obtain⟨u,hro,_,htup⟩:=key;obtain⟨⟨A,cap,he,hlc,hmx,hex,hnone⟩,⟨A2,len2,cap2,he2,hspot⟩,_⟩:=id hro;rw[he]at he2;injection he2 with eA el ec
  subst eA;subst el;subst ec
  let H:Path→Hd:=fun p=>match p with | []=>⟨A,cap,y.1.length,t.sz,false⟩|_=>⟨none,0,0,0,false⟩
  have x1:Ext I ob (Inew I d H) (ob.put d (.ro ⟨e,t,y.1⟩)):=Ext.new hd;have hI:Inew I d H d 0=H:=by simp[Inew]
  have g1:=h.give (o:=d) (e:=.ro ⟨e,t,y.1⟩) (F:=G) (h.non _ hd) (fun e0 h0=>by rw[hd]at h0;cases h0) x1
   ⟨u,hro,by rw[hI];exact he,by rw[hI]⟩ hn'.1 (fun k hk o'=>(hm k (List.mem_append_left _ hk)).2 o') (fun k hk=>(hm k (List.mem_append_left _ hk)).1)
  have s1:TupR cx (Inew I d H) (ob.put d (.ro ⟨e,t,y.1⟩)) (agg,[.ref d 0 [] none]) v:=by
   refine htup _ _ ⟨⟨_,Ob.put_same _ _ _,Nat.le_refl _⟩,trivial,0,y.1.length,by rw[hI];rfl,by rw[hI];show 0+y.1.length≤y.1.length;omega,?_⟩;refine⟨A,cap,he,hlc,hmx,fun _=>by rw[hI];exact⟨rfl,rfl⟩,?_⟩;rw[hI];rcases hspot with hc|⟨g,b,hA⟩
   ·exact .inl hc
   ·exact .inr ⟨rfl,g,b,hA,by show A=some ⟨g,b+0*t.sz,none⟩;rw[hA];simp⟩
  obtain ⟨I2,FF2,x2,r2,s2⟩:=zdc hz (d:=d + 1) g1 hr2 (hf.imp id (fun h=>h)) hn'.2.1 (fun k hk=>by
   obtain⟨h3,h4⟩:=hm k (List.mem_append_right _ hk);refine⟨h3,fun o ho=>?_⟩;unfold zaj at ho;split at ho
   ·exact hn'.2.2 k ho k hk rfl
   ·exact h4 o ho) (fun u hu=>by
   have h6:=za5 ks (d+1) y.2 u hu;unfold Ob.put;rw[if_neg (by omega)]
   exact hfree u (by simp only[zax];exact List.mem_cons_of_mem _ hu))
  exact⟨I2,FF2,x1.trans x2,r2,s1.ext x2,s2⟩
 | .rw e t::ks,I,FF,ob,d,y,v::us,G::Gs,h,hr,hf,hn,hm,hfree=>by
  obtain⟨hvr,hr2⟩:=hr;rw[List.flatten_cons]at hn hm;have hn':=List.nodup_append.1 hn;have hd:ob d=none:=hfree (d,.ro ⟨e,t,y.1.1⟩) (by simp only[zax];exact List.mem_cons_self);obtain⟨u,rfl,hro⟩:=hvr;have htup:∀ (I':In) (ob':Ob),RelS cx I' ob' (.ref d 0 [] none) u→TupR cx I' ob' (true,[.ref d 0 [] none,.int .i64 y.1.2]) (.agg #[u,.int .i64 y.1.2]):=fun I' ob' hs=>⟨_,rfl,hs,rfl,trivial⟩;obtain⟨⟨A,cap,he,hlc,hmx,hex,hnone⟩,⟨A2,len2,cap2,he2,hspot⟩,_⟩:=id hro;rw[he]at he2;injection he2 with eA el ec
  subst eA;subst el;subst ec
  let H:Path→Hd:=fun p=>match p with | []=>⟨A,cap,y.1.1.length,t.sz,false⟩|_=>⟨none,0,0,0,false⟩
  have x1:Ext I ob (Inew I d H) (ob.put d (.ro ⟨e,t,y.1.1⟩)):=Ext.new hd;have hI:Inew I d H d 0=H:=by simp[Inew]
  have g1:=h.give (o:=d) (e:=.ro ⟨e,t,y.1.1⟩) (F:=G) (h.non _ hd) (fun e0 h0=>by rw[hd]at h0;cases h0) x1
   ⟨u,hro,by rw[hI];exact he,by rw[hI]⟩ hn'.1 (fun k hk o'=>(hm k (List.mem_append_left _ hk)).2 o') (fun k hk=>(hm k (List.mem_append_left _ hk)).1)
  have s1:TupR cx (Inew I d H) (ob.put d (.ro ⟨e,t,y.1.1⟩)) (true,[.ref d 0 [] none,.int .i64 y.1.2]) (.agg #[u,.int .i64 y.1.2]):=by
   refine htup _ _ ⟨⟨_,Ob.put_same _ _ _,Nat.le_refl _⟩,trivial,0,y.1.1.length,by rw[hI];rfl,by rw[hI];show 0+y.1.1.length≤y.1.1.length;omega,?_⟩;refine⟨A,cap,he,hlc,hmx,fun _=>by rw[hI];exact⟨rfl,rfl⟩,?_⟩;rw[hI];rcases hspot with hc|⟨g,b,hA⟩
   ·exact .inl hc
   ·exact .inr ⟨rfl,g,b,hA,by show A=some ⟨g,b+0*t.sz,none⟩;rw[hA];simp⟩
  obtain ⟨I2,FF2,x2,r2,s2⟩:=zdc hz (d:=d + 1) g1 hr2 (hf.imp id (fun h=>h)) hn'.2.1 (fun k hk=>by
   obtain⟨h3,h4⟩:=hm k (List.mem_append_right _ hk);refine⟨h3,fun o ho=>?_⟩;unfold zaj at ho;split at ho
   ·exact hn'.2.2 k ho k hk rfl
   ·exact h4 o ho) (fun u hu=>by
   have h6:=za5 ks (d+1) y.2 u hu;unfold Ob.put;rw[if_neg (by omega)]
   exact hfree u (by simp only[zax];exact List.mem_cons_of_mem _ hu))
  exact⟨I2,FF2,x1.trans x2,r2,s1.ext x2,s2⟩
 | .ro _ _ _::_,_,_,_,_,_,[],_,_,h,_,_,_,_=>by cases h
 | .rw _ _::_,_,_,_,_,_,[],_,_,h,_,_,_,_=>by cases h
 | .rw _ _::_,_,_,_,_,_,_::_,[],_,h,_,_,_,_=>by cases h
 | .ro _ _ _::_,_,_,_,_,_,_::_,[],_,h,_,_,_,_=>by cases h
 | .half _ _ _::_,_,_,_,_,_,[],_,_,h,_,_,_,_=>by cases h
 | .half _ _ _::_,_,_,_,_,_,_::_,[],_,h,_,_,_,_=>by cases h
 | .bx _::_,_,_,_,_,_,[],_,_,h,_,_,_,_=>by cases h
 | .bx _::_,_,_,_,_,_,_::_,[],_,h,_,_,_,_=>by cases h
 | [],_,_,_,_,_,_::_,_,_,h,_,_,_,_=>by cases h
 | [],_,_,_,_,_,[],_::_,_,h,_,_,_,_=>by cases h
 | .own _ _::_,_,_,_,_,_,[],_,_,h,_,_,_,_=>by cases h
 | .own _ _::_,_,_,_,_,_,_::_,[],_,h,_,_,_,_=>by cases h
 | .val _ _::_,_,_,_,_,_,[],_,_,h,_,_,_,_=>by cases h
 | .val _ _::_,_,_,_,_,_,_::_,[],_,h,_,_,_,_=>by cases h
theorem zc1:∀ (t:Ty) (y:t.den) (cs:List SV) (ob:Ob),∀ u∈zc2 t y cs ob,u.1∈za8 cs
 | .int _,_,_,_,u,hu=>by cases hu
 | .bool,_,_,_,u,hu=>by cases hu
 | .str,_,_,_,u,hu=>by cases hu
 | .row e t,ys,cs,ob,u,hu=>by
  simp only[zc2]at hu;split at hu
  ·rename_i o _ _ _;split at hu
   ·rw[List.mem_singleton.1 hu];simp[za8]
   ·cases hu
  ·cases hu
 | .pair a b,y,cs,ob,u,hu=>by
  simp only[zc2]at hu;rw[zaz cs a.sz];rcases List.mem_append.1 hu with hu|hu
  ·exact List.mem_append_left _ (zc1 a y.1 _ ob u hu)
  ·exact List.mem_append_right _ (zc1 b y.2 _ ob u hu)
theorem zk4{I0:In}{ob0:Ob}:∀ (t:Ty) {cs:List SV} {us:List Value} {y:t.den} {H:Nat→Path→Hd} {c:Nat} {O:List Nat} {I:In} {FF:Nat→List Nat} {ob:Ob},
  RelH cx I FF ob w→Ext I0 ob0 I ob→IoL I0 ob0 t cs us→(za8 cs).Nodup→(∀ o∈za8 cs,FF o=[]∧∀ e e0,ob0 o=some e→ob o=some e0→e0.ver≤e.ver)→Ow w t H c y us O→zd5 H→O.Nodup →
  (∀ k∈O,(¬ cx.Z k∧(cx.D0 k∨cx.w0.heap.size≤k)∧k<w.heap.size)∧∀ o,k∉FF o) →
  ∃ I' FF',Ext I ob I' (ob.puts (zc2 t y cs ob0))∧RelH cx I' FF' (ob.puts (zc2 t y cs ob0)) w∧(∀ o k,k∈FF' o→k∈FF o∨k∈O)∧(∀ o,o∉za8 cs→FF' o=FF o)
 | .int _,cs,us,y,H,c,O,I,FF,ob,h,x,_,_,_,_,_,_,_=>⟨I,FF,Ext.refl I ob,h,fun _ _ h=>.inl h,fun _ _=>rfl⟩
 | .bool,cs,us,y,H,c,O,I,FF,ob,h,x,_,_,_,_,_,_,_=>⟨I,FF,Ext.refl I ob,h,fun _ _ h=>.inl h,fun _ _=>rfl⟩
 | .str,cs,us,y,H,c,O,I,FF,ob,h,x,_,_,_,_,_,_,_=>⟨I,FF,Ext.refl I ob,h,fun _ _ h=>.inl h,fun _ _=>rfl⟩
 | .row e t,cs,us,y,H,c,O,I,FF,ob,h,x,hio,hnd,hid,how,hh,hn,hm=>by
  rcases hio with ⟨rfl,rfl⟩|⟨o,ver,r,cur,v,rfl,rfl,hob0,hre,hrt,hv,hsz,hhole,hroot⟩
  ·exact⟨I,FF,Ext.refl I ob,h,fun _ _ h=>.inl h,fun _ _=>rfl⟩
  obtain⟨v',hv',hown0⟩:=how;have hvv:v=v':=by simpa using hv'
  subst hvv;have hown:OwR w e t (H c) y v O:=hown0;have hhc:∀ p,(H c p).hole=false:=fun p=>hh c p;generalize H c=H at hown hhc;have hido:=hid o (by simp[za8]);have hver:∀ e0,ob o=some e0→e0.ver≤cur:=fun e0 h0=>hido.2 _ e0 hob0 h0;have hI0:∀ u,u≤cur→I o u=I0 o u:=fun u hu=>x.i o u ⟨_,hob0,hu⟩
  let Hn:Path→Hd:=fun p=>match p with | []=>I0 o cur []|b::q=>H (b::q)
  let I1:In:=fun o' u=>if o'=o∧u=cur+1 then Hn else I o' u
  have hI1:I1 o (cur+1)=Hn:=by simp[I1]
  have x1:Ext I ob I1 (ob.put o (.row ⟨e,t,y⟩ (cur+1) none)):=by
   refine⟨fun o' u hk=>?_,zak (fun e0 h0=>Nat.le_succ_of_le (hver e0 h0))⟩;simp only[I1];rw[if_neg];rintro ⟨rfl,rfl⟩;obtain⟨e1,h1,h2⟩:=hk;have:=hver e1 h1;omega
  have hOwn:OwR w e t Hn y v O:=by
   have h1:=hown;unfold OwR OwRow at h1 ⊢;rw[if_neg (by simp[hhc])]at h1;obtain⟨hv1,hl,hle,hmx,h5⟩:=h1;rw[hv]at hv1;injection hv1 with e1 e2 e3
   simp only[Hn];rw[if_neg (by simp[hhole])];refine⟨hv,by rw[hl,e2],by rw[e2,e3];exact hle,by rw[e3];exact hmx,?_⟩
   by_cases hc:(H []).cap=0
   ·rw[if_pos hc]at h5;rw[if_pos (by rw[e3];exact hc)];exact h5
   ·rw[if_neg hc]at h5;rw[if_neg (by rw[e3];exact hc)];obtain⟨_,g,b,cells,F',hA,hF,hg,hs,hr⟩:=h5;exact⟨hsz (by rw[e3];exact hc),g,b,cells,F',e1.trans hA,hF,hg,by rw[e3];exact hs,by rw[e2];exact hr⟩
  have hr1:∀ u,u≤cur+1→I1 o u []=I1 o (cur+1) []:=by
   intro u hu;rw[hI1]
   by_cases hu1:u=cur+1
   ·subst hu1;rw[hI1]
   ·have h3:I1 o u=I o u:=by simp[I1,hu1]
    have hu2:u≤cur:=by omega
    rw[h3,hI0 u hu2];exact hroot u hu2
  have hr2:∀ p,(I1 o (cur+1) p).hole=true→(none:Option Path)=some p:=by
   intro p hp;rw[hI1]at hp
   cases p with
   |nil=>simp only[Hn]at hp;rw[hhole]at hp;cases hp
   |cons b q=>simp only[Hn]at hp;rw[hhc]at hp;cases hp
  have g1:=h.give (o:=o) (e:=.row ⟨e,t,y⟩ (cur+1) none) (F:=O) hido.1 (fun e0 h0=>Nat.le_succ_of_le (hver e0 h0)) x1
   ⟨⟨v,by rw[hI1];exact hOwn⟩,hr1,hr2,by simp⟩ hn (fun k hk o'=>(hm k hk).2 o') (fun k hk=>(hm k hk).1)
  have e0:zc2 (.row e t) y [.ref o ver [] none] ob0=[(o,.row ⟨e,t,y⟩ (cur+1) none)]:=by simp only[zc2,hob0]
  rw[e0];refine⟨I1,_,x1,g1,fun o' k hk=>?_,fun o' ho'=>?_⟩
  ·unfold zaj at hk;split at hk
   ·exact .inr hk
   ·exact .inl hk
  ·unfold zaj;rw[if_neg (by rintro rfl;exact ho' (by simp[za8]))]
 | .pair a b,cs,us,y,H,c,O,I,FF,ob,h,x,hio,hnd,hid,how,hh,hn,hm=>by
  obtain⟨c1,c2,F1,F2',rfl,rfl,h1,h2⟩:=how;have l1:=Ow.len a h1;obtain⟨io1,io2⟩:=hio;rw[List.take_left' l1]at io1;rw[List.drop_left' l1]at io2;rw[zaz cs a.sz]at hnd hid;have hnd':=List.nodup_append.1 hnd;have hn':=List.nodup_append.1 hn;obtain⟨I1,FF1,x1,r1,b1,k1⟩:=zk4 a h x io1 hnd'.1 (fun o ho=>hid o (List.mem_append_left _ ho)) h1 hh hn'.1 (fun k hk=>hm k (List.mem_append_left _ hk));have hne:∀ o∈za8 (cs.drop a.sz),o∉za8 (cs.take a.sz):=fun o ho ho'=>hnd'.2.2 o ho' o ho rfl
  obtain ⟨I2,FF2,x2,r2,b2,k2⟩:=zk4 b r1 (x.trans x1) io2 hnd'.2.1 (fun o ho=>by
   have h3:=hid o (List.mem_append_right _ ho);refine⟨by rw[k1 o (hne o ho)];exact h3.1,fun e1 e0 h4 h5=>h3.2 e1 e0 h4 ?_⟩;rw[Ob.puts_other]at h5
   ·exact h5
   ·intro u hu e
    exact hne o ho (by rw[← e];exact zc1 a y.1 _ ob0 u hu)) h2 hh hn'.2.1 (fun k hk=>by
   obtain⟨h3,h4⟩:=hm k (List.mem_append_right _ hk);refine⟨h3,fun o ho=>?_⟩;rcases b1 o k ho with ho|ho
   ·exact h4 o ho
   ·exact hn'.2.2 k ho k hk rfl)
  have e:ob.puts (zc2 (.pair a b) y cs ob0)=(ob.puts (zc2 a y.1 (cs.take a.sz) ob0)).puts (zc2 b y.2 (cs.drop a.sz) ob0):=by simp only[zc2];exact Ob.puts_append _ _ _
  rw[e];refine⟨I2,FF2,x1.trans x2,r2,fun o k hk=>?_,fun o ho=>?_⟩
  ·rcases b2 o k hk with hk|hk
   ·rcases b1 o k hk with hk|hk
    ·exact .inl hk
    ·exact .inr (List.mem_append_left _ hk)
   ·exact .inr (List.mem_append_right _ hk)
  ·rw[zaz cs a.sz]at ho;rw[k2 o (fun h=>ho (List.mem_append_right _ h)),k1 o (fun h=>ho (List.mem_append_left _ h))]
theorem zbk:∀ (ks:List PK) (d:Nat) (y:zag ks) (as:List AV) (ob:Ob),∀ u∈zas d ks y as ob,u.1∈zbf ks as∨(d≤u.1∧u.1<d+nBo ks)
 | [],d,y,as,ob,u,hu=>by cases hu
 | .val _ _::ks,d,y,[],ob,u,hu=>by cases hu
 | .own _ _::ks,d,y,[],ob,u,hu=>by cases hu
 | .cp _::ks,d,y,[],ob,u,hu=>by cases hu
 | .fn _ _::ks,d,y,[],ob,u,hu=>by cases hu
 | .io _ _::ks,d,y,[],ob,u,hu=>by cases hu
 | .bx _::ks,d,y,[],ob,u,hu=>by cases hu
 | .bo _::ks,d,y,[],ob,u,hu=>by cases hu
 | .val _ _::ks,d,y,a::as,ob,u,hu=>by
  rw[zbf];exact(zbk ks d y as ob u hu).imp (List.mem_append_right _) id
 | .own _ _::ks,d,y,a::as,ob,u,hu=>by
  rw[zbf];exact(zbk ks d y as ob u hu).imp (List.mem_append_right _) id
 | .cp _::ks,d,y,a::as,ob,u,hu=>by
  rw[zbf];exact(zbk ks d y as ob u hu).imp (List.mem_append_right _) id
 | .fn _ _::ks,d,y,a::as,ob,u,hu=>by
  rw[zbf];exact(zbk ks d y as ob u hu).imp (List.mem_append_right _) id
 | .io t agg::ks,d,y,a::as,ob,u,hu=>by
  rw[zbf];have tl:u∈zas d ks y.2 as ob→u.1∈ioId (.io t agg) a++zbf ks as∨(d≤u.1∧u.1<d+nBo (.io t agg::ks)):=fun h=>(zbk ks d y.2 as ob u h).imp (List.mem_append_right _) id;unfold zas at hu;split at hu
  ·rename_i cs hc;rcases List.mem_append.1 hu with hu|hu
   ·refine .inl (List.mem_append_left _ ?_);simp only[ioId,hc];exact zc1 t y.1 cs ob u hu
   ·exact tl hu
  ·exact tl hu
 | .bx t::ks,d,y,a::as,ob,u,hu=>by
  rw[zbf];have tl:u∈zas d ks y.2 as ob→u.1∈ioId (.bx t) a++zbf ks as∨(d≤u.1∧u.1<d+nBo (.bx t::ks)):=fun h=>(zbk ks d y.2 as ob u h).imp (List.mem_append_right _) id;unfold zas at hu;split at hu
  ·rcases List.mem_cons.1 hu with rfl|hu
   ·exact .inl (by simp[ioId])
   ·exact tl hu
  ·exact tl hu
 | .bo t::ks,d,y,a::as,ob,u,hu=>by
  rw[zbf];have tl:u∈zas (d+zbm t) ks y.2 as ob→u.1∈ioId (.bo t) a++zbf ks as∨(d≤u.1∧u.1<d+nBo (.bo t::ks)):=fun h=>(zbk ks (d+zbm t) y.2 as ob u h).imp (List.mem_append_right _) (fun h=>by simp only[nBo];omega);unfold zas at hu;split at hu
  ·rcases List.mem_append.1 hu with hu|hu
   ·have:=za6 t d y.1 u hu;exact .inr (by simp only[nBo];omega)
   ·rcases List.mem_cons.1 hu with rfl|hu
    ·exact .inl (by simp[ioId])
    ·exact tl hu
  ·exact tl hu
theorem zcm{Z:Nat→Prop}{st:Bool}(hz:st=true→∀ k,Z k→cx.Z k∧cx.w0.heap[k]? = w.heap[k]?){I0:In}{ob0:Ob}:∀ {ks:List PK} {as:List AV} {vs:List Value} {I:In} {FF:Nat→List Nat} {ob:Ob} {d:Nat} {y:zag ks} {Os:List (List Nat)},
  RelH cx I FF ob w→Ext I0 ob0 I ob→IoFs I0 ob0 ks as vs→(zbf ks as).Nodup→(∀ o∈zbf ks as,FF o=[]∧∀ e e0,ob0 o=some e→ob o=some e0→e0.ver≤e.ver)→ze3 w Z ks y vs Os→(st=true∨zq7 ks=true)→Os.flatten.Nodup →
  (∀ k∈Os.flatten,(¬ cx.Z k∧(cx.D0 k∨cx.w0.heap.size≤k)∧k<w.heap.size)∧∀ o,k∉FF o) →
  (∀ i,d≤i→i<d+nBo ks→ob i=none)→(∀ o∈zbf ks as,∀ i,d≤i→i<d+nBo ks→o≠i) →
  ∃ I' FF',Ext I ob I' (ob.puts (zas d ks y as ob0))∧RelH cx I' FF' (ob.puts (zas d ks y as ob0)) w∧(∀ o k,k∈FF' o→k∈FF o∨k∈Os.flatten)
 | [],[],[],I,FF,ob,d,y,[],h,x,_,_,_,_,_,_,_,_,_=>⟨I,FF,Ext.refl I ob,h,fun _ _ h=>.inl h⟩
 | .val t agg::ks,a::as,v::vs,I,FF,ob,d,y,O::Os,h,x,hio,hnd,hid,ho,hf,hn,hm,hfr,hne0=>by
  obtain⟨rfl,ho⟩:=ho;simp only[List.flatten_cons,List.nil_append]at hn hm ⊢;rw[zbf]at hnd hid;exact zcm (ks:=ks) (as:=as) (y:=y) hz h x hio.2 (List.nodup_append.1 hnd).2.1 (fun o ho=>hid o (List.mem_append_right _ ho)) ho (hf.imp id id) hn hm hfr (fun o ho=>hne0 o (by rw[zbf];exact List.mem_append_right _ ho))
 | .own t agg::ks,a::as,v::vs,I,FF,ob,d,y,O::Os,h,x,hio,hnd,hid,ho,hf,hn,hm,hfr,hne0=>by
  obtain⟨rfl,ho⟩:=ho;simp only[List.flatten_cons,List.nil_append]at hn hm ⊢;rw[zbf]at hnd hid;exact zcm (ks:=ks) (as:=as) (y:=y) hz h x hio.2 (List.nodup_append.1 hnd).2.1 (fun o ho=>hid o (List.mem_append_right _ ho)) ho (hf.imp id id) hn hm hfr (fun o ho=>hne0 o (by rw[zbf];exact List.mem_append_right _ ho))
 | .cp t::ks,a::as,v::vs,I,FF,ob,d,y,O::Os,h,x,hio,hnd,hid,ho,hf,hn,hm,hfr,hne0=>by
  obtain⟨rfl,ho⟩:=ho;simp only[List.flatten_cons,List.nil_append]at hn hm ⊢;rw[zbf]at hnd hid;exact zcm (ks:=ks) (as:=as) (y:=y) hz h x hio.2 (List.nodup_append.1 hnd).2.1 (fun o ho=>hid o (List.mem_append_right _ ho)) ho (hf.imp id id) hn hm hfr (fun o ho=>hne0 o (by rw[zbf];exact List.mem_append_right _ ho))
 | .fn g ts::ks,a::as,v::vs,I,FF,ob,d,y,O::Os,h,x,hio,hnd,hid,ho,hf,hn,hm,hfr,hne0=>by
  obtain⟨rfl,ho⟩:=ho;simp only[List.flatten_cons,List.nil_append]at hn hm ⊢;rw[zbf]at hnd hid;exact zcm (ks:=ks) (as:=as) (y:=y) hz h x hio.2 (List.nodup_append.1 hnd).2.1 (fun o ho=>hid o (List.mem_append_right _ ho)) ho (hf.imp id id) hn hm hfr (fun o ho=>hne0 o (by rw[zbf];exact List.mem_append_right _ ho))
 | .io t agg::ks,a::as,v::vs,I,FF,ob,d,y,O::Os,h,x,hio,hnd,hid,ho,hf,hn,hm,hfr,hne0=>by
  obtain⟨⟨H,hh,hvr⟩,ho⟩:=ho;obtain⟨⟨cs,us,hc,hvu,hiol⟩,hio2⟩:=hio;have hOw:=vr_eq hvu hvr;rw[zbf,show ioId (.io t agg) a=za8 cs by simp only[ioId,hc]]at hnd hid;have hnd':=List.nodup_append.1 hnd;rw[List.flatten_cons]at hn hm;have hn':=List.nodup_append.1 hn;obtain⟨I1,FF1,x1,g1,b1,k1⟩:=zk4 t h x hiol hnd'.1 (fun o ho=>hid o (List.mem_append_left _ ho)) hOw hh hn'.1 (fun k hk=>hm k (List.mem_append_left _ hk));have hne:∀ o∈zbf ks as,o∉za8 cs:=fun o ho ho'=>hnd'.2.2 o ho' o ho rfl
  obtain ⟨I2,FF2,x2,r2,b2⟩:=zcm hz g1 (x.trans x1) hio2 hnd'.2.1 (fun o' ho'=>by
   have h3:=hid o' (List.mem_append_right _ ho');refine⟨by rw[k1 o' (hne o' ho')];exact h3.1,fun e1 e0 h4 h5=>h3.2 e1 e0 h4 ?_⟩;rw[Ob.puts_other]at h5
   ·exact h5
   ·intro u hu e
    exact hne o' ho' (by rw[← e];exact zc1 t y.1 _ ob0 u hu)) ho (hf.imp id id) hn'.2.1 (fun k hk=>by
   obtain⟨h3,h4⟩:=hm k (List.mem_append_right _ hk);refine⟨h3,fun o' ho'=>?_⟩;rcases b1 o' k ho' with ho'|ho'
   ·exact h4 o' ho'
   ·exact hn'.2.2 k ho' k hk rfl) (fun i hi hi2=>by
   rw[Ob.puts_other]
   ·exact hfr i hi hi2
   ·intro u hu e
    exact hne0 u.1 (by rw[zbf,show ioId (.io t agg) a=za8 cs by simp only[ioId,hc]];exact List.mem_append_left _ (zc1 t y.1 _ ob0 u hu)) i hi hi2 e) (fun o ho=>hne0 o (by rw[zbf];exact List.mem_append_right _ ho))
  have e0:ob.puts (zas d (.io t agg::ks) y (a::as) ob0)=(ob.puts (zc2 t y.1 cs ob0)).puts (zas d ks y.2 as ob0):=by
   have:zas d (.io t agg::ks) y (a::as) ob0=zc2 t y.1 cs ob0++zas d ks y.2 as ob0:=by simp only[zas,hc]
   rw[this,Ob.puts_append]
  rw[e0];refine⟨I2,FF2,x1.trans x2,r2,fun o' k hk=>?_⟩;rw[List.flatten_cons];rcases b2 o' k hk with hk|hk
  ·rcases b1 o' k hk with hk|hk
   ·exact .inl hk
   ·exact .inr (List.mem_append_left _ hk)
  ·exact .inr (List.mem_append_right _ hk)
 | .bx t::ks,a::as,v::vs,I,FF,ob,d,y,O::Os,h,x,hio,hnd,hid,ho,hf,hn,hm,hfr,hne0=>by
  obtain⟨⟨g,T,cells,hv,rfl,hg,hcn⟩,ho⟩:=ho;obtain⟨⟨o,g',cs,rfl,hob0,hA,hv'⟩,hio2⟩:=hio;rw[hv]at hv';injection hv' with hv'
  injection hv' with hv'
  injection hv' with hv'
  subst hv';rw[zbf]at hnd hid;have hnd':=List.nodup_append.1 hnd;have hido:=hid o (List.mem_append_left _ (by simp[ioId]));have hver:∀ e0,ob o=some e0→e0.ver≤0:=fun e0 h0=>hido.2 _ e0 hob0 h0;rw[List.flatten_cons]at hn hm;have hn':=List.nodup_append.1 hn
  have hf':(st=true∨t.flat=true)∧(st=true∨zq7 ks=true):=by
   rcases hf with hf|hf
   ·exact⟨.inl hf,.inl hf⟩
   ·simp only[zq7,Bool.and_eq_true]at hf;exact⟨.inr hf.1,.inr hf.2⟩
  have x1:Ext I ob I (ob.put o (.box (zb9 t y.1))):=⟨fun _ _ _=>rfl,zak (fun e0 h0=>hver e0 h0)⟩
  have g1:=h.give (o:=o) (e:=.box (zb9 t y.1)) (F:=[g]) hido.1 (fun e0 h0=>hver e0 h0) x1
   ⟨g,T,cells,rfl,by rw[x.i o 0 ⟨_,hob0,Nat.le_refl _⟩];exact hA,hg,zra hz hf'.1 hcn⟩ hn'.1 (fun k hk o'=>(hm k (List.mem_append_left _ hk)).2 o') (fun k hk=>(hm k (List.mem_append_left _ hk)).1)
  have hne:∀ o'∈zbf ks as,o'≠o:=fun o' ho' e=>hnd'.2.2 o (by simp[ioId]) o' ho' e.symm
  obtain ⟨I2,FF2,x2,r2,b2⟩:=zcm hz g1 (x.trans x1) hio2 hnd'.2.1 (fun o' ho'=>by
   have h3:=hid o' (List.mem_append_right _ ho');refine⟨by unfold zaj;rw[if_neg (hne o' ho')];exact h3.1,fun e1 e0 h4 h5=>?_⟩;unfold Ob.put at h5;rw[if_neg (hne o' ho')]at h5
   exact h3.2 e1 e0 h4 h5) ho hf'.2 hn'.2.1 (fun k hk=>by
   obtain⟨h3,h4⟩:=hm k (List.mem_append_right _ hk);refine⟨h3,fun o' ho'=>?_⟩;unfold zaj at ho';split at ho'
   ·exact hn'.2.2 k ho' k hk rfl
   ·exact h4 o' ho') (fun i hi hi2=>by
   unfold Ob.put;rw[if_neg (fun e=>hne0 o (by rw[zbf];exact List.mem_append_left _ (by simp[ioId])) i hi hi2 e.symm)]
   exact hfr i hi hi2) (fun o ho=>hne0 o (by rw[zbf];exact List.mem_append_right _ ho))
  have e0:zas d (.bx t::ks) y (.one (.bptr o 0)::as) ob0=(o,.box (zb9 t y.1))::zas d ks y.2 as ob0:=by simp only[zas]
  rw[e0];refine⟨I2,FF2,x1.trans x2,r2,fun o' k hk=>?_⟩;rw[List.flatten_cons];rcases b2 o' k hk with hk|hk
  ·unfold zaj at hk;split at hk
   ·exact .inr (List.mem_append_left _ hk)
   ·exact .inl hk
  ·exact .inr (List.mem_append_right _ hk)
 | .bo t::ks,a::as,v::vs,I,FF,ob,d,y,O::Os,h,x,hio,hnd,hid,ho,hf,hn,hm,hfr,hne0=>by
  obtain⟨⟨g,T,cells,H,F',hv,rfl,hg,hh,how⟩,ho⟩:=ho;obtain⟨⟨o,g',cs,rfl,hob0,hA,hv'⟩,hio2⟩:=hio;rw[hv]at hv';injection hv' with hv'
  injection hv' with hv'
  injection hv' with hv'
  subst hv';rw[zbf]at hnd hid hne0;have hnd':=List.nodup_append.1 hnd;have hido:=hid o (List.mem_append_left _ (by simp[ioId]));have hver:∀ e0,ob o=some e0→e0.ver≤0:=fun e0 h0=>hido.2 _ e0 hob0 h0;rw[List.flatten_cons]at hn hm;have hn':=List.nodup_append.1 hn;have hng:=List.nodup_cons.1 hn'.1;simp only[nBo]at hfr hne0;have hid2:∀ u∈zar d t y.1,d≤u.1∧u.1<d+zbm t:=fun u hu=>za6 t d y.1 u hu;obtain⟨I1,FF1,x1,g1,s1,b1,k1⟩:=zgv t h how hh hng.2 (fun k hk=>hm k (List.mem_append_left _ (List.mem_cons_of_mem _ hk))) (fun u hu=>hfr u.1 (hid2 u hu).1 (by have:=(hid2 u hu).2;omega));have hoo:∀ u∈zar d t y.1,u.1≠o:=fun u hu e=>hne0 o (List.mem_append_left _ (by simp[ioId])) u.1 (hid2 u hu).1 (by have:=(hid2 u hu).2;omega) e.symm;have hob1:(ob.puts (zar d t y.1)) o=ob o:=Ob.puts_other hoo;have hver1:∀ e0,(ob.puts (zar d t y.1)) o=some e0→e0.ver≤0:=fun e0 h0=>hver e0 (by rw[← hob1];exact h0);have hFFo:FF1 o=[]:=by rw[k1 o hoo];exact hido.1
  have hgFF:∀ o',g∉FF1 o':=fun o' ho'=>by
   rcases b1 o' g ho' with h3|h3
   ·exact(hm g (List.mem_append_left _ List.mem_cons_self)).2 o' h3
   ·exact hng.1 h3
  have x2:Ext I1 (ob.puts (zar d t y.1)) I1 ((ob.puts (zar d t y.1)).put o (.box (zbs d t y.1))):=⟨fun _ _ _=>rfl,zak (fun e0 h0=>hver1 e0 h0)⟩
  have hA1:(I1 o 0 []).A=some ⟨g,0,none⟩:=by
   have hk:zce ob0 o 0:=⟨_,hob0,Nat.le_refl _⟩;rw[x1.i o 0 (x.k o 0 hk),x.i o 0 hk];exact hA
  have g2:=g1.give (o:=o) (e:=.box (zbs d t y.1)) (F:=[g]) hFFo (fun e0 h0=>hver1 e0 h0) x2
   ⟨g,T,cells,rfl,hA1,hg,s1.imp (fun _ _ h=>h.ext x2)⟩ (by simp) (fun k hk o'=>(List.mem_singleton.1 hk) ▸ hgFF o') (fun k hk=>(List.mem_singleton.1 hk) ▸ (hm g (List.mem_append_left _ List.mem_cons_self)).1)
  have hne:∀ o'∈zbf ks as,o'≠o:=fun o' ho' e=>hnd'.2.2 o (by simp[ioId]) o' ho' e.symm
  obtain ⟨I3,FF3,x3,r3,b3⟩:=zcm hz (d:=d + zbm t) g2 (x.trans (x1.trans x2)) hio2 hnd'.2.1 (fun o' ho'=>by
   have h3:=hid o' (List.mem_append_right _ ho');have hnr:∀ u∈zar d t y.1,u.1≠o':=fun u hu e=>hne0 o' (List.mem_append_right _ ho') u.1 (hid2 u hu).1 (by have:=(hid2 u hu).2;omega) e.symm;refine⟨?_,fun e1 e0 h4 h5=>?_⟩
   ·unfold zaj;rw[if_neg (hne o' ho'),k1 o' hnr];exact h3.1
   ·unfold Ob.put at h5;rw[if_neg (hne o' ho'),Ob.puts_other hnr]at h5
    exact h3.2 e1 e0 h4 h5) ho (hf.imp id id) hn'.2.1 (fun k hk=>by
   obtain⟨h3,h4⟩:=hm k (List.mem_append_right _ hk);refine⟨h3,fun o' ho'=>?_⟩;unfold zaj at ho';split at ho'
   ·exact hn'.2.2 k ((List.mem_singleton.1 ho') ▸ List.mem_cons_self) k hk rfl
   ·rcases b1 o' k ho' with h5|h5
    ·exact h4 o' h5
    ·exact hn'.2.2 k (List.mem_cons_of_mem _ h5) k hk rfl) (fun i hi hi2=>by
   unfold Ob.put;rw[if_neg (fun e=>hne0 o (List.mem_append_left _ (by simp[ioId])) i (by omega) (by omega) e.symm),Ob.puts_other]
   ·exact hfr i (by omega) (by omega)
   ·intro u hu e;have:=(hid2 u hu).2
    omega) (fun o' ho' i hi hi2=>hne0 o' (List.mem_append_right _ ho') i (by omega) (by omega))
  have e0:ob.puts (zas d (.bo t::ks) y (.one (.bptr o 0)::as) ob0)=((ob.puts (zar d t y.1)).put o (.box (zbs d t y.1))).puts (zas (d+zbm t) ks y.2 as ob0):=by
   have:zas d (.bo t::ks) y (.one (.bptr o 0)::as) ob0=zar d t y.1++(o,.box (zbs d t y.1))::zas (d+zbm t) ks y.2 as ob0:=by simp only[zas]
   rw[this,Ob.puts_append];rfl
  rw[e0];refine⟨I3,FF3,(x1.trans x2).trans x3,r3,fun o' k hk=>?_⟩;rw[List.flatten_cons];rcases b3 o' k hk with hk|hk
  ·unfold zaj at hk;split at hk
   ·exact .inr (List.mem_append_left _ ((List.mem_singleton.1 hk) ▸ List.mem_cons_self))
   ·rcases b1 o' k hk with h5|h5
    ·exact .inl h5
    ·exact .inr (List.mem_append_left _ (List.mem_cons_of_mem _ h5))
  ·exact .inr (List.mem_append_right _ hk)
 | [],[],_::_,_,_,_,_,_,_,_,_,h,_,_,_,_,_,_,_,_=>h.elim
 | [],_::_,_,_,_,_,_,_,_,_,_,h,_,_,_,_,_,_,_,_=>h.elim
 |_::_,[],_,_,_,_,_,_,_,_,_,h,_,_,_,_,_,_,_,_=>h.elim
 |_::_,_::_,[],_,_,_,_,_,_,_,_,h,_,_,_,_,_,_,_,_=>h.elim
 | [],[],[],_,_,_,_,_,_::_,_,_,_,_,_,h,_,_,_,_,_=>by cases h
 | .val _ _::_,_::_,_::_,_,_,_,_,_,[],_,_,_,_,_,h,_,_,_,_,_=>by cases h
 | .own _ _::_,_::_,_::_,_,_,_,_,_,[],_,_,_,_,_,h,_,_,_,_,_=>by cases h
 | .cp _::_,_::_,_::_,_,_,_,_,_,[],_,_,_,_,_,h,_,_,_,_,_=>by cases h
 | .fn _ _::_,_::_,_::_,_,_,_,_,_,[],_,_,_,_,_,h,_,_,_,_,_=>by cases h
 | .io _ _::_,_::_,_::_,_,_,_,_,_,[],_,_,_,_,_,h,_,_,_,_,_=>by cases h
 | .bx _::_,_::_,_::_,_,_,_,_,_,[],_,_,_,_,_,h,_,_,_,_,_=>by cases h
 | .bo _::_,_::_,_::_,_,_,_,_,_,[],_,_,_,_,_,h,_,_,_,_,_=>by cases h
end
end Go.Proofs.Ytbjgiioppmkpiaa.Rx

namespace Go.Proofs.Ytbjgiioppmkpiaa.Rx
open Go Go.RowKit
section
variable{P:Program}{cx:Cx}{I:In}{FF:Nat→List Nat}{ob:Ob}{w:World}
theorem ybr{I:In}{ob:Ob}{xs:List (Bool×List SV)}{us:List Value}(h:F2 (TupR cx I ob) xs us):RelA cx I ob (ym5 xs) (retV us):=by
 have tup:∀ xs us,F2 (TupR cx I ob) xs us→RelA cx I ob (.tup xs) (.tuple us.toArray):=fun xs us h=>⟨us.toArray,rfl,by simpa using h⟩
 cases xs with
 |nil =>
  cases us with
  |nil=>exact tup _ _ h
  |cons _ _=>exact h.elim
 |cons x xs =>
  cases us with
  |nil=>exact h.elim
  |cons u us =>
   cases xs with
   |cons x2 xs =>
    cases us with
    |nil=>exact h.2.elim
    |cons u2 us =>
     obtain⟨b,cs⟩:=x
     cases b with
     |true=>exact tup _ _ h
     |false =>
      cases cs with
      |nil=>exact tup _ _ h
      |cons s ss=>cases ss <;> exact tup _ _ h
   |nil =>
    cases us with
    |cons _ _=>exact h.2.elim
    |nil =>
     obtain⟨b,cs⟩:=x;have h1:=h.1
     cases b with
     |true =>
      obtain⟨arr,rfl,hf⟩:=h1;exact⟨arr,rfl,hf⟩
     |false =>
      obtain⟨s,hs,hr⟩:=h1;simp only at hs;subst hs;exact hr
theorem zee{C:List Nat→List Value→World→(Ending→World→Prop)→Prop}{s:Sm}(hC:∀ F vs w Q Q',(∀ e w',Q e w'→Q' e w')→C F vs w Q→C F vs w Q')(hH:zeh C s)(h:RelH cx I FF ob w){n:Nat}{as:List AV}{vs:List Value}(ha:F2 (RelA cx I ob) as vs){d:Nat}{av:AV}{ups:List (Nat×Ent)}{lg:List Nat}
  (he:(zib s n as d ob).ev=some ((av,ups),lg)) :
  ∃ F:List Nat,(∀ o,(∀ u∈ups,u.1≠o)→∀ k∈F,k∉FF o)∧C F vs w fun e w'=>∃ u,e = .returned u∧∃ I' FF',Ext I ob I' (ob.puts ups)∧RelH cx I' FF' (ob.puts ups) w'∧RelA cx I' (ob.puts ups) av u:=by
 obtain⟨⟨x,cons,rds⟩,l1,l2,he1,he2,rfl⟩:=M.ev_bind he;simp only at he2
 cases hany:(rds.any (fun o=>cons.any (fun c=>c.1 == o)) || !okSm s) with
 |true=>simp only[hany]at he2;exact(M.ev_fail (ob:=ob) he2).elim
 |false =>
 simp only[hany]at he2;obtain⟨y,l3,l4,he3,he4,rfl⟩:=M.ev_bind he2;have hy:=M.ev_call he3;obtain⟨_,l5,l6,he5,he6,rfl⟩:=M.ev_bind he4;have hfree:=M.ev_ofOpt he5;injection he6 with he6
 injection he6 with e1 e2
 injection e1 with e1 e3
 subst e1;subst e3;simp only[Bool.or_eq_false_iff,Bool.not_eq_false']at hany;obtain⟨hany1,hok⟩:=hany;obtain⟨FF1,Fs,h1,x1,hn1,hm1,hs1,ho1,hmon1,hst1,hio1,hc1,hnd1,hid1,hA1⟩:=zpu h (cons:=[]) h (fun _ _ h=>h) ha (Ext.refl I ob) (by intro u hu;cases hu) he1;simp only at h1 x1 ho1 hst1 hid1 hA1
 have hrd:∀ o∈rds,∀ u∈cons,u.1≠o:=by
  intro o ho u hu e;have h1:=List.any_eq_false.1 hany1 o ho;simp only[Bool.not_eq_true]at h1;have h3:=List.any_eq_false.1 h1 u hu;simp[e]at h3
 have hfree0:(∀ u∈zax (d+nBo s.ps) s.rs y.1,ob u.1=none)∧∀ i,d≤i→i<d+nBo s.ps→ob i=none:=by
  split at hfree
  ·rename_i hall;rw[Bool.and_eq_true]at hall;refine⟨fun u hu=>?_,fun i hi hi2=>?_⟩
   ·have:=List.all_eq_true.1 hall.1 u hu;simpa using this
   ·have:=List.all_eq_true.1 hall.2 i (List.mem_map.2 ⟨i - d,List.mem_range.2 (by omega),by omega⟩);simpa using this
  ·cases hfree
 have hfree':=hfree0.1
 -- the zone
 obtain⟨Z,hZ1,hZ2,hZ3⟩:∃ Z:Nat→Prop,(∀ k,Z k→k<w.heap.size∧k∉Fs.flatten)∧zid w Z s.ps x vs Fs∧(s.st=true→∀ k,Z k→cx.Z k):=by
  cases hst:s.st with
  |true =>
   refine⟨cx.Z,fun k hk=>⟨Nat.lt_of_lt_of_le (h.zone k hk).1 h.kp.size,fun hk2=>(hm1 k hk2).1.1 hk⟩,hA1 cx.Z (fun _ h=>h) (fun o ho=>?_),fun _ _ h=>h⟩;rw[hst1 hst]at ho;cases ho
  |false =>
   refine⟨fun k=>k<w.heap.size∧k∉Fs.flatten,fun k hk=>hk,hA1 _ (fun k hk=>⟨Nat.lt_of_lt_of_le (h.zone k hk).1 h.kp.size,fun hk2=>(hm1 k hk2).1.1 hk⟩) (fun o ho j hj=>⟨(h.mine o j hj).2.2,fun hj2=>?_⟩),fun h=>by cases h⟩;have hFo:FF1 o=FF o:=ho1 o (hrd o ho);exact(hm1 j hj2).2.1 o (by rw[hFo];exact hj)
 refine⟨Fs.flatten,fun o ho k hk hk2=>?_,?_⟩
 ·have hFo:FF1 o=FF o:=ho1 o (fun u hu=>ho u (List.mem_append_left _ (List.mem_append_left _ hu)));exact(hm1 k hk).2.1 o (by rw[hFo];exact hk2)
 refine hC _ _ _ _ _ ?_ (hH n w Z vs x Fs y hZ1 (fun k hk=>(hm1 k hk).1.2.2) hn1 hZ2 hy);rintro e w' ⟨us,Gs,Os,rfl,hR,hO,hnOG,hmOG,hk⟩;refine⟨_,rfl,?_⟩;have hnOG':=List.nodup_append.1 hnOG
 -- the world behind the call
 have h2:RelH cx I FF1 (ob.puts cons) w':=h1.world hk (fun k hk=>⟨(hm1 k hk).1.2.1,(hm1 k hk).2.1⟩);have hfr:=h1.fresh
 have hmine:∀ k∈Os.flatten++Gs.flatten,(¬ cx.Z k∧(cx.D0 k∨cx.w0.heap.size≤k)∧k<w'.heap.size)∧∀ o,k∉FF1 o:=by
  intro k hk2;obtain⟨h3,h4⟩:=hmOG k hk2;rcases h3 with h3|h3
  ·have:=hm1 k h3;exact⟨⟨this.1.1,this.1.2.1,h4⟩,this.2.1⟩
  ·refine⟨⟨fun hz=>?_,.inr (Nat.le_trans h.kp.size h3),h4⟩,fun o ho=>?_⟩
   ·have h5:=(h.zone k hz).1;have h6:=h.kp.size;omega
   ·have:=(h1.mine o k ho).2.2;omega
 have hz:s.st=true→∀ k,Z k→cx.Z k∧cx.w0.heap[k]? = w'.heap[k]?:=by
  intro hst k hk2;have:=hZ3 hst k hk2;exact⟨this,(h2.kp.block k (h.zone k this).1 (h.zone k this).2).symm⟩
 have hfl:(s.st=true∨zq7 s.ps=true)∧(s.st=true∨zls s.rs=true):=by
  unfold okSm at hok;rw[Bool.or_eq_true]at hok;rcases hok with hok|hok
  ·exact⟨.inl hok,.inl hok⟩
  ·simp only[Bool.and_eq_true]at hok;exact⟨.inr hok.1,.inr hok.2⟩
 obtain ⟨I2,FF2,x2,r2,b2⟩:=zcm hz (ob0:=ob) (d:=d) h2 x1 hio1 hnd1 (fun o ho=>by
  refine⟨(hid1 o ho).2.2,fun e e0 he he0=>?_⟩;refine zr6 (cons:=cons) (ob0:=ob) (fun u hu huo=>?_) (fun e1 h3=>?_) he0
  ·obtain⟨e2,h4,h5⟩:=hc1 u hu;rw[huo]at h4;rw[he]at h4;injection h4 with h4
   subst h4;rw[h5];exact Nat.le_refl _
  ·rw[he]at h3;injection h3 with h3
   subst h3
   exact Nat.le_refl _) hO hfl.1 hnOG'.1 (fun k hk2=>hmine k (List.mem_append_left _ hk2)) (fun i hi hi2=>by
  rw[Ob.puts_other]
  ·exact hfree0.2 i hi hi2
  ·intro u' hu' e;obtain⟨e2,h4,_⟩:=hc1 u' hu';rw[e,hfree0.2 i hi hi2]at h4
   cases h4) (fun o ho i hi hi2 e=>by
  obtain⟨u2,hu2,he2⟩:=(hid1 o ho).2.1;obtain⟨e3,h4,_⟩:=hc1 u2 hu2;rw[he2,e,hfree0.2 i hi hi2]at h4
  cases h4)
 have hfree2:∀ u∈zax (d+nBo s.ps) s.rs y.1,((ob.puts cons).puts (zas d s.ps y.2 as ob)) u.1=none:=by
  intro u hu;have hnone:=hfree' u hu;rw[Ob.puts_other,Ob.puts_other]
  ·exact hnone
  ·intro u' hu' e;obtain⟨e2,h4,_⟩:=hc1 u' hu';rw[e,hnone]at h4;cases h4
  ·intro u' hu' e;have hge:=za5 s.rs (d+nBo s.ps) y.1 u hu
   have h3:u'.1∈zbf s.ps as:=by
    rcases zbk s.ps d y.2 as ob u' hu' with h3|h3
    ·exact h3
    ·omega
   obtain⟨u2,hu2,he2⟩:=(hid1 u'.1 h3).2.1;obtain⟨e3,h4,_⟩:=hc1 u2 hu2;rw[he2,e,hnone]at h4;cases h4
 obtain ⟨I3,FF3,x3,r3,s3⟩:=zdc hz (d:=d + nBo s.ps) r2 hR hfl.2 hnOG'.2.1 (fun k hk2=>by
  obtain⟨h3,h4⟩:=hmine k (List.mem_append_right _ hk2);refine⟨h3,fun o ho=>?_⟩;rcases b2 o k ho with ho|ho
  ·exact h4 o ho
  ·exact hnOG'.2.2 k ho k hk2 rfl) hfree2
 have e:ob.puts (cons++zas d s.ps y.2 as ob++zax (d+nBo s.ps) s.rs y.1)=((ob.puts cons).puts (zas d s.ps y.2 as ob)).puts (zax (d+nBo s.ps) s.rs y.1):=by rw[Ob.puts_append,Ob.puts_append]
 refine⟨I3,FF3,?_,?_,?_⟩
 ·rw[e];exact(x1.trans x2).trans x3
 ·rw[e];exact r3
 ·rw[e];exact ybr s3
theorem zn3{f:FuncId}{s:Sm}(hH:zdo P f s)(h:RelH cx I FF ob w){n:Nat}{as:List AV}{vs:List Value}(ha:F2 (RelA cx I ob) as vs){d:Nat}{av:AV}{ups:List (Nat×Ent)}{lg:List Nat}
  (he:(zib s n as d ob).ev=some ((av,ups),lg)) :
  Calls P f vs.toArray w fun e w'=>∃ u,e = .returned u∧∃ I' FF',Ext I ob I' (ob.puts ups)∧RelH cx I' FF' (ob.puts ups) w'∧RelA cx I' (ob.puts ups) av u:=by
 obtain⟨_,_,hc⟩:=zee (C:=C0 P f) (fun _ _ _ _ _ h hc=>C0.mono h hc) hH h ha he;exact hc
abbrev Gam:=FuncId→Option Sm
def GamOK (P : Program) (Γ : Gam) : Prop := ∀ f s, Γ f = some s → (∃ fn c, P.funcs[f % 1000000]? = some fn ∧ fn.body = some c ∧ (fn.name == "runtime.NumGoroutine") = false) ∧ ze6 P f s
def ze4(f:Nat):Bool:=Nat.ble (f / 1000000) 0
theorem zcc(f:Nat)(h:ze4 f=true):f / 1000000=0∧f % 1000000=f:=by
 have h1:f / 1000000≤0:=Nat.le_of_ble_eq_true h;constructor <;> omega
theorem GamOK.plain {P : Program} {Γ : Gam} (h : GamOK P Γ) {f : FuncId} {s : Sm} (hg : Γ f = some s) (hp : ze4 f = true) : (∃ fn c, P.funcs[f]? = some fn ∧ fn.body = some c ∧ (fn.name == "runtime.NumGoroutine") = false) ∧ zdo P f s := by
 have h0:=h f s hg;obtain⟨h1,h2⟩:=zcc f hp;unfold ze6 at h0;rw[h1,h2]at h0;exact h0
def aOp0(T:TB)(Γ:Gam)(n:Nat)(ρ:Operand→AV)(d:Nat)(op:Op):M (AV×List (Nat×Ent)) :=
 match op with
 | .call c=>(match c.callee with
  | .value (.func f)=>(match ze4 f with
   | true=>(match Γ f with
    |some s=>zib s n (c.args.toList.map ρ) d
    |none=>M.fail)
   |false=>M.fail)
  | .value (.tmp t)=>(match ρ (.tmp t) with
   | .fn f caps=>(match ze4 f with
    | true=>(match Γ f with
     |some s=>zib s n (c.args.toList.map ρ++caps.map .one) d
     |none=>M.fail)
    |false=>M.fail)
   |_=>M.fail)
  |_=>aOpB T ρ d (.call c))
 |op=>aOpB T ρ d op
theorem zwq{T:TB}{Γ:Gam}(hT:TBok P T)(hΓ:GamOK P Γ)(h:RelH cx I FF ob w){n:Nat}{ρ:Operand→AV}{a:Act}(hρ:∀ x,RelA cx I ob (ρ x) (a.eval x)){d:Nat}{o:Oper}{av:AV}{ups:List (Nat×Ent)}{lg:List Nat}
  (he:(aOp0 T Γ n ρ d o.op ob).ev=some ((av,ups),lg)) {K:Act→World→Prop} {Q:Exit→Act→World→Prop}
  (hK:∀ I' FF' w' u,Ext I ob I' (ob.puts ups)→RelH cx I' FF' (ob.puts ups) w'→RelA cx I' (ob.puts ups) av u→K (a.put o.dst u) w'):o.wp P a w K Q:=by
 have base:(aOpB T ρ d o.op ob).ev=some ((av,ups),lg)→o.wp P a w K Q:=by
  intro he;obtain⟨w',I',FF',x,hr,hh⟩:=yi6 hT h hρ (fun x y hxy=>by rw[zoj hxy]) he;unfold Oper.wp;rcases hh with ⟨u,hrun,hrel⟩|⟨hrun,hav⟩
  ·rw[hrun];exact hK I' FF' w' u x hr hrel
  ·rw[hrun];subst hav;exact hK I' FF' w' undef x hr trivial
 generalize hm:aOp0 T Γ n ρ d o.op=m at he;unfold aOp0 at hm;split at hm <;> subst hm
 ·rename_i op c hop
  cases hc:c.callee with
  |value x =>
   cases x with
   |func f =>
    simp only[hc]at he
    cases hp:ze4 f with
    |false=>simp only[hp]at he;exact(M.ev_fail (ob:=ob) he).elim
    |true =>
    simp only[hp]at he
    cases hg:Γ f with
    |none=>simp only[hg]at he;exact(M.ev_fail (ob:=ob) he).elim
    |some s =>
     simp only[hg]at he;obtain⟨⟨fn,cd,hf,hb,hnm⟩,hH⟩:=hΓ.plain hg hp
     have hv:F2 (RelA cx I ob) (c.args.toList.map ρ) (c.args.toList.map a.eval):=by
      generalize c.args.toList=l
      induction l with
      |nil=>trivial
      |cons x l ih=>exact⟨hρ x,ih⟩
     have hcall:=zn3 hH h hv he;have e:(c.args.toList.map a.eval).toArray=c.args.map a.eval:=by apply Array.ext';simp
     rw[e]at hcall
     have hrun:(execOp a.eval o).run P w = .ok (.enter f (c.args.map a.eval)) w:=by
      have hop':o.op = .call c:=hop;unfold execOp;simp only[hop',resolve,hc,Act.eval,Deferred.ofValue,Sem.run_bind,Sem.run_pure,Result.andThen_ok,invoke,callFunc,run_program,hf,hnm,hb,Array.empty_append,Array.append_empty];simp
     unfold Oper.wp;rw[hrun];refine Calls.mono hcall ?_;rintro e w' ⟨u,rfl,I',FF',x,hr,hrel⟩;exact hK I' FF' w' u x hr hrel
   |tmp t =>
    simp only[hc]at he;have hft:=hρ (.tmp t)
    cases hfc:ρ (.tmp t) with
    |fn f caps =>
     simp only[hfc]at he;rw[hfc]at hft;obtain⟨arr,hft,hcaps⟩:=hft
     cases hp:ze4 f with
     |false=>simp only[hp]at he;exact(M.ev_fail (ob:=ob) he).elim
     |true =>
     simp only[hp]at he
     cases hg:Γ f with
     |none=>simp only[hg]at he;exact(M.ev_fail (ob:=ob) he).elim
     |some s =>
      simp only[hg]at he;obtain⟨⟨fn,cd,hf,hb,hnm⟩,hH⟩:=hΓ.plain hg hp
      have hv:F2 (RelA cx I ob) (c.args.toList.map ρ++caps.map .one) (c.args.toList.map a.eval++arr.toList):=by
       refine F2.app ?_ ?_
       ·generalize c.args.toList=l
        induction l with
        |nil=>trivial
        |cons x l ih=>exact⟨hρ x,ih⟩
       ·clear hft hfc he;generalize arr.toList=l at hcaps
        induction caps generalizing l with
        |nil=>cases l with
         |nil=>trivial
         |cons _ _=>exact hcaps.elim
        |cons s ss ih=>cases l with
         |nil=>exact hcaps.elim
         |cons u us=>exact⟨hcaps.1,ih us hcaps.2⟩
      have hcall:=zn3 hH h hv he;have e:(c.args.toList.map a.eval++arr.toList).toArray=c.args.map a.eval++arr:=by apply Array.ext';simp
      rw[e]at hcall
      have hrun:(execOp a.eval o).run P w = .ok (.enter f (c.args.map a.eval++arr)) w:=by
       have hop':o.op = .call c:=hop;unfold execOp;simp only[hop',resolve,hc,hft,Deferred.ofValue,Sem.run_bind,Sem.run_pure,Result.andThen_ok,invoke,callFunc,run_program,hf,hnm,hb,Array.empty_append,Array.append_empty];simp
      unfold Oper.wp;rw[hrun];refine Calls.mono hcall ?_;rintro e w' ⟨u,rfl,I',FF',x,hr,hrel⟩;exact hK I' FF' w' u x hr hrel
    |_=>simp only[hfc]at he;exact(M.ev_fail (ob:=ob) he).elim
   |_=>simp only[hc]at he;rw[← hop]at he;exact base he
  |_=>simp only[hc]at he;rw[← hop]at he;exact base he
 ·exact base he
end
end Go.Proofs.Ytbjgiioppmkpiaa.Rx

namespace Go.Proofs.Ytbjgiioppmkpiaa.Rx
open Go Go.RowKit
theorem zm0:∀ (t:Ty) (x:t.den) (c:Nat) (f:(b:Sb)→Option b.s.den) {b:Sb},sub t x c=some b→f b=some b.y→upd t x c f=some x
 | .int k,x,c,f,b,hs,hf=>by
  simp only[sub]at hs;split at hs
  ·rename_i hc;injection hs with hs;subst hs;simp only[upd,if_pos hc];exact hf
  ·cases hs
 | .bool,x,c,f,b,hs,hf=>by
  simp only[sub]at hs;split at hs
  ·rename_i hc;injection hs with hs;subst hs;simp only[upd,if_pos hc];exact hf
  ·cases hs
 | .str,x,c,f,b,hs,hf=>by
  simp only[sub]at hs;split at hs
  ·rename_i hc;injection hs with hs;subst hs;simp only[upd,if_pos hc];exact hf
  ·cases hs
 | .row e t,x,c,f,b,hs,hf=>by
  simp only[sub]at hs;split at hs
  ·rename_i hc;injection hs with hs;subst hs;simp only[upd,if_pos hc];exact hf
  ·cases hs
 | .pair a b',x,c,f,b,hs,hf=>by
  simp only[sub]at hs;split at hs
  ·rename_i hc;simp only[upd,if_pos hc,zm0 a _ _ f hs hf]
  ·rename_i hc;simp only[upd,if_neg hc,zm0 b' _ _ f hs hf]
theorem zm_{α:Type}(xs:List α)(i:Nat)(d:α):xs.set i (xs.getD i d)=xs:=by
 apply List.ext_getElem?;intro j;rw[List.getElem?_set];split
 ·rename_i h;subst h;split
  ·rename_i hi;rw[List.getD_eq_getElem?_getD,List.getElem?_eq_getElem hi];rfl
  ·rename_i hi;rw[List.getElem?_eq_none (by omega)]
 ·rfl
theorem zjk:∀ (p:Path) (r:Rw) (f:(r:Rw)→Option (List r.t.den)) {r':Rw},zbe p r=some r'→f r'=some r'.xs→zbo p r f=some r.xs
 | [],r,f,r',hr,hf=>by
  simp only[zbe]at hr;injection hr with hr;subst hr
  simp only[zbo];exact hf
 |(i,c)::p,r,f,r',hr,hf=>by
  simp only[zbe]at hr;split at hr
  ·rename_i b hb;split at hr
   ·rename_i r1 hr1
    have hu:=zm0 r.t (r.xs.getD i r.t.dflt) c (zpa fun r'=>zbo p r' f) hb (by
     obtain⟨bt,by_⟩:=b
     cases bt with
     |row e1 t1 =>
      simp only[zll]at hr1;injection hr1 with hr1
      subst hr1;simp only[zpa];exact zjk p ⟨e1,t1,by_⟩ f hr hf
     |_=>simp[zll]at hr1)
    simp only[zbo,hu];rw[zm_]
   ·cases hr
  ·cases hr
section
variable{P:Program}{cx:Cx}{I:In}{FF:Nat→List Nat}{ob:Ob}{w:World}
def cutH(H:Path→Hd)(p:Path):Path→Hd:=fun q=>if q=p then { H p with hole:=true } else H q
theorem zke{H H':Path→Hd}:∀ {p:Path},pv H p→(∀ q,q <+: p→q≠p→(H' q).hole=false∧(H' q).len=(H q).len)→zh5 H' p
 | [],_,_=>trivial
 |(i,c)::p,hp,h=>by
  obtain⟨h1,h2⟩:=h [] List.nil_prefix (by simp);refine⟨h1,by rw[h2];exact hp.1,zke (H:=fun q=>H ((i,c)::q)) hp.2 (fun q hq hne=>h _ (List.cons_prefix_cons.2 ⟨rfl,hq⟩) (fun e=>hne (by injection e)))⟩
theorem yfn{H H':Path→Hd}:∀ {p:Path},pv H p→(∀ q,q <+: p→q≠p→H' q=H q)→pv H' p
 | [],_,_=>trivial
 |(i,c)::p,hp,h=>by
  have h1:=h [] List.nil_prefix (by simp);exact⟨by rw[h1];exact hp.1,yfn (H:=fun q=>H ((i,c)::q)) hp.2 (fun q hq hne=>h _ (List.cons_prefix_cons.2 ⟨rfl,hq⟩) (fun e=>hne (by injection e)))⟩
theorem RelH.xtr(h:RelH cx I FF ob w){o e cur:Nat}{a:Nat×Nat}{p:Path}{r r':Rw}(ho:ob o=some (.row r cur none))(hr:zbe (a::p) r=some r')(hpv:pv (I o cur) (a::p))(he:ob e=none) :
  ∃ I1 FF1,Ext I ob I1 (ob.puts [(o,.row r (cur+1) (some (a::p))),(e,.row r' 0 none)])∧RelH cx I1 FF1 (ob.puts [(o,.row r (cur+1) (some (a::p))),(e,.row r' 0 none)]) w ∧
   I1 o (cur+1)=cutH (I o cur) (a::p)∧(∀ u,I1 e u=fun q=>I o cur ((a::p)++q))∧e≠o:=by
 have hne:e≠o:=by rintro rfl;rw[ho]at he;cases he
 obtain⟨⟨v0,hown⟩,hroot,hhole,_⟩:=h.rel o _ ho
 have hnoh:∀ q,(I o cur q).hole=false:=by
  intro q
  cases hq:(I o cur q).hole with
  |false=>rfl
  |true=>exact absurd (hhole q hq) (by simp)
 obtain⟨v',Fa,F',Fb,hF,hin,hre⟩:=hown.focus (a::p) (h.nd o) (zbz hpv (fun q _=>hnoh q)) hr
 let I1:In:=fun o' u=>if o'=o∧u=cur+1 then cutH (I o cur) (a::p) else if o'=e then (fun q=>I o cur ((a::p)++q)) else I o' u
 have hI1o:I1 o (cur+1)=cutH (I o cur) (a::p):=by simp[I1]
 have hI1e:∀ u,I1 e u=fun q=>I o cur ((a::p)++q):=by intro u;simp[I1,hne]
 have hI1:∀ o' u,zce ob o' u→I1 o' u=I o' u:=by
  intro o' u hk;obtain⟨e1,h1,h2⟩:=hk;simp only[I1];rw[if_neg,if_neg]
  ·rintro rfl;rw[he]at h1;cases h1
  ·rintro ⟨rfl,rfl⟩;rw[ho]at h1;injection h1 with h1;subst h1
   have:cur+1≤cur:=h2;omega
 have x1:Ext I ob I1 (ob.put o (.row r (cur+1) (some (a::p)))) :=
  ⟨hI1,zak (fun e0 h0=>by rw[ho]at h0;injection h0 with h0;subst h0;exact Nat.le_succ cur)⟩
 have hnd:(Fa++(F'++Fb)).Nodup:=by rw[← hF];exact h.nd o
 have hnd1:=List.nodup_append.1 hnd;have hnd2:=List.nodup_append.1 hnd1.2.1
 have hcut:OwR w r.e r.t (cutH (I o cur) (a::p)) r.xs v0 (Fa++([]++Fb)):=by
  refine hre w (cutH (I o cur) (a::p)) r'.xs [] r.xs (fun r''=>some r''.xs) rfl (zjk _ _ _ hr rfl) (fun _ _=>rfl) (fun q hq=>?_) ?_
  ·unfold cutH;rw[if_neg];rintro rfl;exact hq List.prefix_rfl
  ·unfold OwR OwRow at hin ⊢;have e0:(a::p)++[]=a::p:=List.append_nil _;simp only[e0]at hin ⊢;have hc:cutH (I o cur) (a::p) (a::p)={ I o cur (a::p) with hole:=true }:=by simp[cutH]
   rw[if_neg (by simp[hnoh])]at hin;rw[hc,if_pos rfl];exact⟨trivial,hin.1⟩
 have ht:=h.take ho;have hmine:∀ k∈Fa++(F'++Fb),¬ cx.Z k∧(cx.D0 k∨cx.w0.heap.size≤k)∧k<w.heap.size:=fun k hk=>h.mine o k (by rw[hF];exact hk)
 have hoth:∀ k∈Fa++(F'++Fb),∀ o',k∉zaj FF o [] o':=by
  intro k hk o' ho';unfold zaj at ho';split at ho'
  ·cases ho'
  ·rename_i hoo;exact h.dj o o' (fun e=>hoo e.symm) k (by rw[hF];exact hk) ho'
 have e1:(ob.put o (.dead (Ent.row r cur none).ver)).put o (.row r (cur+1) (some (a::p)))=ob.put o (.row r (cur+1) (some (a::p))):=by
  funext k;unfold Ob.put;split <;> rfl
 have x1':Ext I (ob.put o (.dead (Ent.row r cur none).ver)) I1 ((ob.put o (.dead (Ent.row r cur none).ver)).put o (.row r (cur+1) (some (a::p)))):=by
  refine⟨fun o' u hk=>hI1 o' u ?_,?_⟩
  ·obtain⟨e1,h1,h2⟩:=hk;unfold Ob.put at h1;split at h1
   ·rename_i hoo;subst hoo;injection h1 with h1;subst h1
    exact⟨_,ho,h2⟩
   ·exact⟨e1,h1,h2⟩
  ·exact zak (fun e0 h0=>by
    unfold Ob.put at h0;rw[if_pos rfl]at h0;injection h0 with h0
    subst h0
    exact Nat.le_succ cur)
 have g1:=ht.give (o:=o) (e:=.row r (cur + 1) (some (a :: p))) (F:=Fa ++ Fb) (by simp [zaj]) (fun e0 h0=>by
   unfold Ob.put at h0;rw[if_pos rfl]at h0;injection h0 with h0
   subst h0
   exact Nat.le_succ cur) x1'
  ⟨⟨v0,by rw [hI1o]; simpa using hcut⟩,fun u hu=>by
    rw[hI1o];have h0:cutH (I o cur) (a::p) []=I o cur []:=by simp[cutH]
    rw[h0]
    by_cases hu1:u=cur+1
    ·subst hu1;rw[hI1o,h0]
    ·rw[hI1 o u ⟨_,ho,by show u≤cur;omega⟩]
     exact hroot u (by omega),(fun q hq=>by
    rw[hI1o]at hq;unfold cutH at hq;split at hq
    ·rename_i hqq;rw[hqq]
    ·rw[hnoh]at hq;cases hq),by simp⟩
  (hnd.sublist (List.Sublist.append (List.Sublist.refl _) (List.sublist_append_right _ _)))
  (fun k hk=>hoth k (by rcases List.mem_append.1 hk with hk|hk <;> simp[hk]))
  (fun k hk=>hmine k (by rcases List.mem_append.1 hk with hk|hk <;> simp[hk]))
 rw[e1]at g1;have he1:(ob.put o (.row r (cur+1) (some (a::p)))) e=none:=by unfold Ob.put;rw[if_neg hne];exact he
 have x2:Ext I1 (ob.put o (.row r (cur+1) (some (a::p)))) I1 ((ob.put o (.row r (cur+1) (some (a::p)))).put e (.row r' 0 none)) :=
  ⟨fun _ _ _=>rfl,zak (fun e0 h0=>by rw[he1]at h0;cases h0)⟩
 have g2:=g1.give (o:=e) (e:=.row r' 0 none) (F:=F') (g1.non e he1) (fun e0 h0=>by rw[he1]at h0;cases h0) x2
  ⟨⟨v',by rw[hI1e];exact hin⟩,fun u _=>by rw[hI1e,hI1e],(fun q hq=>by rw[hI1e]at hq;simp only[hnoh]at hq;cases hq),by simp⟩
  hnd2.1 (fun k hk o' ho'=>by
   unfold zaj at ho';split at ho'
   ·rcases List.mem_append.1 ho' with hk'|hk'
    ·exact hnd1.2.2 k hk' k (by simp[hk]) rfl
    ·exact hnd2.2.2 k hk k hk' rfl
   ·rename_i hoo;have:=hoth k (by simp[hk]) o';unfold zaj at this;rw[if_neg hoo]at this
    first|exact(this ho').elim|(split at ho' <;> exact(this ho').elim))
  (fun k hk=>hmine k (by simp[hk]))
 exact⟨I1,_,x1.trans x2,g2,hI1o,hI1e,hne⟩
theorem RelS.xtr{I1:In}{ob1:Ob}{o e cur:Nat}{a:Nat×Nat}{p:Path}{r':Rw}(hI:∀ u,I1 e u=fun q=>I o cur ((a::p)++q))(he:ob1 e=some (.row r' 0 none)){vw:Option (Nat×Nat)}{v:Value}
  (h:RelS cx I ob (.ref o cur (a::p) vw) v):RelS cx I1 ob1 (.ref e 0 [] vw) v:=by
 obtain⟨_,_,h3⟩:=h;refine⟨⟨_,he,Nat.le_refl _⟩,trivial,?_⟩;rw[hI];simpa using h3
theorem RelH.back(h:RelH cx I FF ob w){o e cur v2:Nat}{H0:Path→Hd}{a:Nat×Nat}{p:Path}{r r':Rw}{ys:List r'.t.den}{xs:List r.t.den}{f:(r:Rw)→Option (List r.t.den)}
  (hne:e≠o) (ho:ob o=some (.row r (cur+1) (some (a::p)))) (he:ob e=some (.row ⟨r'.e,r'.t,ys⟩ v2 none)) (hr:zbe (a::p) r=some r')
  (hIo:I o (cur+1)=cutH H0 (a::p)) (hH0:∀ q,(H0 q).hole=false) (hpv:pv H0 (a::p)) (hIe:I e v2 []=H0 (a::p)) (hf:f r'=some ys) (hu:zbo (a::p) r f=some xs) :
  ∃ I1 FF1,Ext I ob I1 (ob.puts [(o,.row ⟨r.e,r.t,xs⟩ (cur+2) none),(e,.dead v2)])∧RelH cx I1 FF1 (ob.puts [(o,.row ⟨r.e,r.t,xs⟩ (cur+2) none),(e,.dead v2)]) w ∧
   I1 o (cur+2) (a::p)=H0 (a::p)∧pv (I1 o (cur+2)) (a::p):=by
 obtain⟨⟨v0,hown⟩,hroot,hhole,_⟩:=h.rel o _ ho;obtain⟨⟨ve,hine⟩,hroote,hholee,_⟩:=h.rel e _ he
 have hnohe:∀ q,(I e v2 q).hole=false:=by
  intro q
  cases hq:(I e v2 q).hole with
  |false=>rfl
  |true=>exact absurd (hholee q hq) (by simp)
 rw[hIo]at hown
 have hpath:zh5 (cutH H0 (a :: p)) (a :: p):=zke hpv (fun q hq hqp=>by
  unfold cutH;rw[if_neg hqp]
  exact⟨hH0 q,rfl⟩)
 obtain⟨v',Fa,F',Fb,hF,hin,hre⟩:=hown.focus (a::p) (h.nd o) hpath hr;have e0:(a::p)++[]=a::p:=List.append_nil _;have hc:cutH H0 (a::p) (a::p)={ H0 (a::p) with hole:=true }:=by simp[cutH]
 unfold OwR OwRow at hin;simp only[e0]at hin;rw[hc,if_pos rfl]at hin;obtain⟨rfl,rfl⟩:=hin
 have hve:ve = .slice (H0 (a::p)).A (H0 (a::p)).len (H0 (a::p)).cap:=by
  have:=hine;unfold OwR OwRow at this;rw[if_neg (by simp[hnohe])]at this;rw[this.1,hIe]
 subst hve
 let Hn:Path→Hd:=fun q=>if (a::p) <+: q then I e v2 (q.drop (a::p).length) else H0 q
 have hHn0:Hn []=H0 []:=by simp[Hn]
 have hHnh:∀ q,(Hn q).hole=false:=by intro q;simp only[Hn];split;exact hnohe _;exact hH0 _
 have hHnp:(fun q=>Hn ((a::p)++q))=I e v2:=by
  funext q;simp only[Hn];rw[if_pos (List.prefix_append _ _),List.drop_left]
 have hnew:=hre w Hn ys (FF e) xs f hf hu (fun _ _=>rfl) (fun q hq=>by
  simp only[Hn];rw[if_neg hq];unfold cutH
  rw[if_neg (fun e=>hq (by rw[e];exact List.prefix_rfl))]) (by rw[hHnp];exact hine)
 have hte:=h.take he;have ho1:(ob.put e (.dead (Ent.row ⟨r'.e,r'.t,ys⟩ v2 none).ver)) o=some (.row r (cur+1) (some (a::p))):=by unfold Ob.put;rw[if_neg (fun e'=>hne e'.symm)];exact ho
 have hto:=hte.take ho1
 let I1:In:=fun o' u=>if o'=o∧u=cur+2 then Hn else I o' u
 have hI1o:I1 o (cur+2)=Hn:=by simp[I1]
 have hI1:∀ o' u,zce ob o' u→I1 o' u=I o' u:=by
  intro o' u hk;obtain⟨e1,h1,h2⟩:=hk;simp only[I1];rw[if_neg];rintro ⟨rfl,rfl⟩;rw[ho]at h1;injection h1 with h1;subst h1
  have:cur+2≤cur+1:=h2;omega
 have eob:((ob.put e (.dead (Ent.row ⟨r'.e,r'.t,ys⟩ v2 none).ver)).put o (.dead (Ent.row r (cur+1) (some (a::p))).ver)).put o (.row ⟨r.e,r.t,xs⟩ (cur+2) none)=ob.puts [(o,.row ⟨r.e,r.t,xs⟩ (cur+2) none),(e,.dead v2)]:=by
  funext k;simp only[Ob.puts,Ob.put]
  by_cases hk:k=o
  ·have hke:¬ k=e:=fun e'=>hne (e'.symm.trans hk);rw[if_pos hk,if_neg hke,if_pos hk]
  ·by_cases hke:k=e
   ·rw[if_neg hk,if_neg hk,if_pos hke,if_pos hke];rfl
   ·rw[if_neg hk,if_neg hk,if_neg hke,if_neg hke,if_neg hk]
 have x1:Ext I ob I1 (ob.puts [(o,.row ⟨r.e,r.t,xs⟩ (cur+2) none),(e,.dead v2)]):=by
  refine⟨hI1,fun o' u hk=>?_⟩;have:=zak (ob:=ob) (o:=o) (e:=.row ⟨r.e,r.t,xs⟩ (cur+2) none) (fun e1 h1=>by rw[ho]at h1;injection h1 with h1;subst h1;exact Nat.le_succ _) o' u hk;refine zak (ob:=ob.put o (.row ⟨r.e,r.t,xs⟩ (cur+2) none)) (o:=e) (e:=.dead v2) (fun e1 h1=>?_) o' u this;unfold Ob.put at h1;rw[if_neg hne,he]at h1;injection h1 with h1;subst h1;exact Nat.le_refl _
 have x2:Ext I ((ob.put e (.dead (Ent.row ⟨r'.e,r'.t,ys⟩ v2 none).ver)).put o (.dead (Ent.row r (cur+1) (some (a::p))).ver)) I1 (((ob.put e (.dead (Ent.row ⟨r'.e,r'.t,ys⟩ v2 none).ver)).put o (.dead (Ent.row r (cur+1) (some (a::p))).ver)).put o (.row ⟨r.e,r.t,xs⟩ (cur+2) none)):=by
  refine⟨fun o' u hk=>hI1 o' u ?_,zak (fun e1 h1=>?_)⟩
  ·obtain⟨e1,h1,h2⟩:=hk;unfold Ob.put at h1;split at h1
   ·rename_i hoo;subst hoo;injection h1 with h1;subst h1;exact⟨_,ho,h2⟩
   ·split at h1
    ·rename_i hoo;subst hoo;injection h1 with h1;subst h1;exact⟨_,he,h2⟩
    ·exact⟨e1,h1,h2⟩
  ·unfold Ob.put at h1;rw[if_pos rfl]at h1;injection h1 with h1;subst h1;exact Nat.le_succ _
 have hdj:∀ k,k∈FF o→k∉FF e:=h.dj o e (fun e'=>hne e'.symm)
 have hmem:∀ k,k∈Fa++(FF e++Fb)→k∈FF o∨k∈FF e:=by
  intro k hk;rw[hF];rcases List.mem_append.1 hk with hk|hk
  ·exact .inl (by simp[hk])
  ·rcases List.mem_append.1 hk with hk|hk
   ·exact .inr hk
   ·exact .inl (by simp[hk])
 have hnd:(Fa++(FF e++Fb)).Nodup:=by
  have h1:=h.nd o;rw[hF]at h1;simp only[List.nil_append]at h1;have h2:=List.nodup_append.1 h1;refine List.nodup_append.2 ⟨h2.1,List.nodup_append.2 ⟨h.nd e,h2.2.1,fun x hx y hy e'=>?_⟩,fun x hx y hy e'=>?_⟩
  ·subst e';exact hdj x (by rw[hF];simp[hy]) hx
  ·subst e';rcases List.mem_append.1 hy with hy|hy
   ·exact hdj x (by rw[hF];simp[hx]) hy
   ·exact h2.2.2 x hx x hy rfl
 have g1:=hto.give (o:=o) (e:=.row ⟨r.e,r.t,xs⟩ (cur + 2) none) (F:=Fa ++ (FF e ++ Fb)) (by simp [zaj]) (fun e1 h1=>by
   unfold Ob.put at h1;rw[if_pos rfl]at h1
   injection h1 with h1;subst h1;exact Nat.le_succ _) x2
  ⟨⟨v0,by rw [hI1o]; exact hnew⟩,fun u hu=>by
    rw[hI1o,hHn0]
    by_cases hu1:u=cur+2
    ·subst hu1;rw[hI1o,hHn0]
    ·rw[hI1 o u ⟨_,ho,by show u≤cur+1;omega⟩,hroot u (by omega),hIo]
     simp[cutH],(fun q hq=>by rw[hI1o,hHnh]at hq;cases hq),by simp⟩
  hnd (fun k hk o' ho'=>by
   unfold zaj at ho';split at ho'
   ·cases ho'
   ·rename_i hoo;split at ho'
    ·cases ho'
    ·rename_i hoe;rcases hmem k hk with hk|hk
     ·exact h.dj o o' (fun e'=>hoo e'.symm) k hk ho'
     ·exact h.dj e o' (fun e'=>hoe e'.symm) k hk ho')
  (fun k hk=>by
   rcases hmem k hk with hk|hk
   ·exact h.mine o k hk
   ·exact h.mine e k hk)
 rw[eob]at g1;refine⟨I1,_,x1,g1,?_,?_⟩
 ·rw[hI1o];simp only[Hn];rw[if_pos List.prefix_rfl,List.drop_length];exact hIe
 ·rw[hI1o]
  exact yfn hpv (fun q hq hne=>by
   simp only[Hn];rw[if_neg];intro h9
   exact hne (List.IsPrefix.eq_of_length_le hq (List.IsPrefix.length_le h9)))
def ydh:List (Nat×Ent)→Nat→Ent→Ent
 | [],_,d=>d
 |u::us,e,d=>ydh us e (match Nat.beq u.1 e with|true=>u.2|false=>d)
theorem zhu:∀ {us:List (Nat×Ent)} {ob:Ob} {e:Nat} {d:Ent},ob e=some d→ob.puts us e=some (ydh us e d)
 | [],ob,e,d,h=>h
 |u::us,ob,e,d,h=>by
  show (ob.put u.1 u.2).puts us e=_;refine zhu ?_;unfold Ob.put
  cases hb:Nat.beq u.1 e with
  |true=>rw[if_pos (Nat.eq_of_beq_eq_true hb).symm]
  |false =>
   rw[if_neg]
   ·exact h
   ·rintro rfl;rw[Nat.beq_refl]at hb;cases hb
def preX(o e cur:Nat)(p:Path)(r r':Rw):List (Nat×Ent):=[(o,.row r (cur+1) (some p)),(e,.row r' 0 none)]
def ye6(o e cur:Nat)(p:Path)(r r':Rw)(ups:List (Nat×Ent)):Option (List (Nat×Ent)) :=
 match ups.any (fun u=>Nat.beq u.1 o) with
 |true=>none
 | false=>(match ydh ups e (.row r' 0 none) with
  | .row r2 v2 none=>(match r2.e == r'.e,zaq r2 r'.t with
   | true,some ys=>(match zbo p r (fun r3=>zaq ⟨r3.e,r'.t,ys⟩ r3.t) with
    |some xs=>some (preX o e cur p r r'++(ups++[(o,.row ⟨r.e,r.t,xs⟩ (cur+2) none),(e,.dead v2)]))
    |none=>none)
   |_,_=>none)
  | .dead _=>some (preX o e cur p r r'++ups)
  |_=>none)
def zrp(o e cur:Nat)(p:Path)(r r':Rw)(run:M (AV×List (Nat×Ent))):M (AV×List (Nat×Ent)):=fun ob =>
 (run (ob.puts (preX o e cur p r r'))).bind fun al=>(match ye6 o e cur p r r' al.1.2 with
  |some us=>.ret ((al.1.1,us),al.2)
  |none=>.fail)
def xtrM(e o v:Nat)(p:Path)(run:M (AV×List (Nat×Ent))):M (AV×List (Nat×Ent)):=M.bind (M.get o) fun
 | .row r cur none=>M.bind (M.free e) fun _=>(match Nat.beq v cur,zbe p r with
  |true,some r'=>zrp o e cur p r r' run
  |_,_=>M.fail)
 |_=>M.fail
def isIn:AV→Bool
 | .one (.ref _ _ (_::_) _)=>true
 | .agg [.ref _ _ (_::_) _]=>true
 |_=>false
def xArg(ρ:Operand→AV):List PK→List Operand→Option Operand
 | .io _ _::ks,x::xs=>(match isIn (ρ x) with|true=>some x|false=>xArg ρ ks xs)
 | .own _ _::ks,x::xs=>(match isIn (ρ x) with|true=>some x|false=>xArg ρ ks xs)
 |_::ks,_::xs=>xArg ρ ks xs
 |_,_=>none
def xOp(Γ:Gam)(ρ:Operand→AV):Op→Option Operand
 | .call c=>(match c.callee with
  | .value (.func f)=>(match Γ f with|some s=>xArg ρ s.ps c.args.toList|none=>none)
  | .builtin .append=>(match c.args.toList with
   | [x,_]=>(match isIn (ρ x) with|true=>some x|false=>none)
   |_=>none)
  |_=>none)
 |_=>none
def setR(ρ:Operand→AV)(x:Operand)(av:AV):Operand→AV:=fun y=>match za9 y x with|true=>av|false=>ρ y
def aOpX(T:TB)(Γ:Gam)(n:Nat)(ρ:Operand→AV)(d:Nat)(op:Op)(x:Operand):AV→M (AV×List (Nat×Ent))
 | .one (.ref o v (a::p) vw)=>xtrM (d+12) o v (a::p) (aOp0 T Γ n (setR ρ x (.one (.ref (d+12) 0 [] vw))) d op)
 | .agg [.ref o v (a::p) vw]=>xtrM (d+12) o v (a::p) (aOp0 T Γ n (setR ρ x (.agg [.ref (d+12) 0 [] vw])) d op)
 |_=>M.fail
def midTy:Ty→Bool
 | .pair .str (.int .i64)=>true
 |_=>false
def yoj(T:TB):Op→Bool
 | .call c=>(match c.callee,c.argTypes.toList with
  | .builtin .append,[t,_]=>(match T t with
   | some ti=>(match ti.d with
    | .slice e=>(match T e with
     |some tie=>(match tie.ty with|some ty=>midTy ty|none=>false)
     |none=>false)
    |_=>false)
   |none=>false)
  |_,_=>false)
 |_=>false
def aOp1(T:TB)(Γ:Gam)(n:Nat)(ρ:Operand→AV)(d:Nat)(op:Op):M (AV×List (Nat×Ent)) :=
 match xOp Γ ρ op with
 |none=>aOp0 T Γ n ρ d op
 | some x=>(match yoj T op with
  |true=>aOp0 T Γ n ρ d op
  |false=>aOpX T Γ n ρ d op x (ρ x))
theorem yfj{T:TB}{Γ:Gam}(hT:TBok P T)(hΓ:GamOK P Γ)(h:RelH cx I FF ob w){n:Nat}{ρ:Operand→AV}{a:Act}(hρ:∀ x,RelA cx I ob (ρ x) (a.eval x)){d:Nat}{o:Oper}{av:AV}{ups:List (Nat×Ent)}{lg:List Nat}
  {x:Operand} {oo vv:Nat} {aa:Nat×Nat} {pp:Path} {ax:AV} (hpv:pv (I oo vv) (aa::pp))
  (hax:∀ (I1:In) (ob1:Ob) (r':Rw),(∀ u,I1 (d+12) u=fun q=>I oo vv ((aa::pp)++q))→ob1 (d+12)=some (.row r' 0 none)→RelA cx I1 ob1 ax (a.eval x))
  (he:(xtrM (d+12) oo vv (aa::pp) (aOp0 T Γ n (setR ρ x ax) d o.op) ob).ev=some ((av,ups),lg)) {K:Act→World→Prop} {Q:Exit→Act→World→Prop}
  (hK:∀ I' FF' w' u,Ext I ob I' (ob.puts ups)→RelH cx I' FF' (ob.puts ups) w'→RelA cx I' (ob.puts ups) av u→K (a.put o.dst u) w'):o.wp P a w K Q:=by
 obtain⟨en,l1,l2,he1,he2,rfl⟩:=M.ev_bind he;have hob:=M.ev_get he1
 cases en with
 |box cs=>exact(M.ev_fail (ob:=ob) he2).elim
 |dead v=>exact(M.ev_fail (ob:=ob) he2).elim
 |iter _ _=>exact(M.ev_fail (ob:=ob) he2).elim
 |map _=>exact(M.ev_fail (ob:=ob) he2).elim
 |grp _ _ _=>exact(M.ev_fail (ob:=ob) he2).elim
 |lit _ _=>exact(M.ev_fail (ob:=ob) he2).elim
 |mit _ _ _=>exact(M.ev_fail (ob:=ob) he2).elim
 |gh _=>exact(M.ev_fail (ob:=ob) he2).elim
 |half _ _ _=>exact(M.ev_fail (ob:=ob) he2).elim
 |ro _=>exact(M.ev_fail (ob:=ob) he2).elim
 |mid _ _ _=>exact(M.ev_fail (ob:=ob) he2).elim
 |rv _ _=>exact(M.ev_fail (ob:=ob) he2).elim
 |row r cur hole =>
 cases hole with
 |some q=>exact(M.ev_fail (ob:=ob) he2).elim
 |none =>
 simp only at he2;obtain⟨_,l3,l4,he3,he4,rfl⟩:=M.ev_bind he2;have hfree:=M.ev_free he3
 cases hv:Nat.beq vv cur with
 |false=>simp only[hv]at he4;exact(M.ev_fail (ob:=ob) he4).elim
 |true =>
 cases hrow:zbe (aa::pp) r with
 |none=>simp only[hv,hrow]at he4;exact(M.ev_fail (ob:=ob) he4).elim
 |some r' =>
 simp only[hv,hrow]at he4;have hvv:=Nat.eq_of_beq_eq_true hv;subst hvv;obtain⟨I1,FF1,x1,h1,hI1o,hI1e,hne⟩:=h.xtr hob hrow hpv hfree;unfold zrp at he4;rw[Tr.ev_bind]at he4
 cases hrun:(aOp0 T Γ n (setR ρ x ax) d o.op (ob.puts (preX oo (d+12) vv (aa::pp) r r'))).ev with
 |none=>rw[hrun]at he4;cases he4
 |some al =>
 obtain⟨⟨av1,ups1⟩,lg1⟩:=al;rw[hrun]at he4;simp only[Option.bind_some]at he4;have hob1e:ob.puts (preX oo (d+12) vv (aa::pp) r r') (d+12)=some (.row r' 0 none):=by simp[preX,Ob.puts,Ob.put]
 have hob1o:ob.puts (preX oo (d+12) vv (aa::pp) r r') oo=some (.row r (vv+1) (some (aa::pp))):=by simp[preX,Ob.puts,Ob.put,hne.symm]
 have hρ1:∀ y,RelA cx I1 (ob.puts (preX oo (d+12) vv (aa::pp) r r')) (setR ρ x ax y) (a.eval y):=by
  intro y;unfold setR
  cases hs:za9 y x with
  |true =>
   rw[zoj hs];exact hax _ _ _ hI1e hob1e
  |false=>exact(hρ y).ext x1
 cases hb:ye6 oo (d+12) vv (aa::pp) r r' ups1 with
 |none=>rw[hb]at he4;cases he4
 |some us =>
 rw[hb]at he4;simp only[Tr.ev_ret,Option.some.injEq,Prod.mk.injEq]at he4;obtain⟨⟨rfl,rfl⟩,_⟩:=he4;refine zwq hT hΓ h1 hρ1 hrun (fun I' FF' w' u x2 h2 ha=>?_);unfold ye6 at hb
 cases hany:ups1.any (fun u=>Nat.beq u.1 oo) with
 |true=>rw[hany]at hb;cases hb
 |false =>
 rw[hany]at hb;simp only at hb
 have hno:∀ u∈ups1,u.1≠oo:=by
  intro u hu e;have:=List.any_eq_false.1 hany u hu;rw[e,Nat.beq_refl]at this;exact this rfl
 have hob2o:(ob.puts (preX oo (d+12) vv (aa::pp) r r')).puts ups1 oo=some (.row r (vv+1) (some (aa::pp))):=by rw[Ob.puts_other hno];exact hob1o
 have hob2e:=zhu (us:=ups1) hob1e;split at hb
 ·rename_i r2 v2 hl;rw[hl]at hob2e;split at hb
  ·rename_i ys hre hcast;split at hb
   ·rename_i xs hupd;injection hb with hb
    subst hb;have hr2:=zay hcast;have hre':r2.e=r'.e:=by simpa using hre
    rw[hre']at hr2;rw[hr2]at hob2e;obtain⟨_,_,hhole,_⟩:=h.rel oo _ hob
    have hnoh:∀ q,(I oo vv q).hole=false:=by
     intro q
     cases hq:(I oo vv q).hole with
     |false=>rfl
     |true=>exact absurd (hhole q hq) (by simp)
    have hIo:I' oo (vv+1)=cutH (I oo vv) (aa::pp):=by
     rw[x2.i oo (vv+1) ⟨_,hob1o,Nat.le_refl _⟩];exact hI1o
    have hroote:I' (d+12) v2 []=I oo vv (aa::pp):=by
     obtain⟨_,hrt,_⟩:=h2.rel (d+12) _ hob2e;rw[← hrt 0 (Nat.zero_le _),x2.i (d+12) 0 ⟨_,hob1e,Nat.le_refl _⟩,hI1e];simp
    obtain⟨I3,FF3,x3,h3,_⟩:=h2.back (f:=fun r3=>zaq ⟨r3.e,r'.t,ys⟩ r3.t) hne hob2o hob2e hrow hIo hnoh hpv hroote (by simp[zaq]) hupd
    have eq:ob.puts (preX oo (d+12) vv (aa::pp) r r'++(ups1++[(oo,.row ⟨r.e,r.t,xs⟩ (vv+2) none),(d+12,.dead v2)])) =
      ((ob.puts (preX oo (d+12) vv (aa::pp) r r')).puts ups1).puts [(oo,.row ⟨r.e,r.t,xs⟩ (vv+2) none),(d+12,.dead v2)]:=by
     rw[Ob.puts_append,Ob.puts_append]
    refine hK I3 FF3 w' u ?_ ?_ ?_
    ·rw[eq];exact(x1.trans x2).trans x3
    ·rw[eq];exact h3
    ·rw[eq];exact ha.ext x3
   ·cases hb
  ·cases hb
 ·injection hb with hb
  subst hb;have eq:ob.puts (preX oo (d+12) vv (aa::pp) r r'++ups1)=(ob.puts (preX oo (d+12) vv (aa::pp) r r')).puts ups1:=by rw[Ob.puts_append]
  refine hK I' FF' w' u ?_ ?_ ?_
  ·rw[eq];exact x1.trans x2
  ·rw[eq];exact h2
  ·rw[eq];exact ha
 ·cases hb
theorem zwp{T:TB}{Γ:Gam}(hT:TBok P T)(hΓ:GamOK P Γ)(h:RelH cx I FF ob w){n:Nat}{ρ:Operand→AV}{a:Act}(hρ:∀ x,RelA cx I ob (ρ x) (a.eval x)){d:Nat}{o:Oper}{av:AV}{ups:List (Nat×Ent)}{lg:List Nat}
  (he:(aOp1 T Γ n ρ d o.op ob).ev=some ((av,ups),lg)) {K:Act→World→Prop} {Q:Exit→Act→World→Prop}
  (hK:∀ I' FF' w' u,Ext I ob I' (ob.puts ups)→RelH cx I' FF' (ob.puts ups) w'→RelA cx I' (ob.puts ups) av u→K (a.put o.dst u) w'):o.wp P a w K Q:=by
 unfold aOp1 at he
 cases hx:xOp Γ ρ o.op with
 |none =>
  rw[hx]at he;exact zwq hT hΓ h hρ he hK
 |some x =>
  rw[hx]at he;simp only at he
  cases hmd:yoj T o.op with
  |true=>rw[hmd]at he;exact zwq hT hΓ h hρ he hK
  |false =>
  rw[hmd]at he;simp only at he;have hfl:∀ (m:M (AV×List (Nat×Ent))),m=M.fail→(m ob).ev≠some ((av,ups),lg):=fun m hm h=>by subst hm;exact M.ev_fail (ob:=ob) h
  generalize hrx:ρ x=rx at he;unfold aOpX at he;split at he
  ·rename_i oo vv aa pp vw;have hrelx:=hρ x;rw[hrx]at hrelx;exact yfj (x:=x) (ax:=.one (.ref (d+12) 0 [] vw)) hT hΓ h hρ hrelx.2.1 (fun I1 ob1 r' h1 h2=>RelS.xtr (cx:=cx) h1 h2 hrelx) he hK
  ·rename_i oo vv aa pp vw;have hrelx:=hρ x;rw[hrx]at hrelx;obtain⟨arr,harr,hrl⟩:=hrelx
   have hl:∃ u,arr.toList=[u]∧RelS cx I ob (.ref oo vv (aa::pp) vw) u:=by
    generalize arr.toList=l at hrl
    match l,hrl with
    | [u],hrl=>exact⟨u,rfl,hrl.1⟩
   obtain⟨u,hu,hrelx⟩:=hl;exact yfj (x:=x) (ax:=.agg [.ref (d+12) 0 [] vw]) hT hΓ h hρ hrelx.2.1 (fun I1 ob1 r' h1 h2=>⟨arr,harr,by rw[hu];exact⟨RelS.xtr (cx:=cx) h1 h2 hrelx,trivial⟩⟩) he hK
  ·exact(M.ev_fail (ob:=ob) he).elim
end
end Go.Proofs.Ytbjgiioppmkpiaa.Rx

namespace Go.Proofs.Ytbjgiioppmkpiaa.Rx
open Go Go.RowKit
def snoc:Path→Nat×Nat→Path
 | [],a=>[a]
 |b::p,a=>b::snoc p a
theorem zp_:∀ (p:Path) (a:Nat×Nat),snoc p a=p++[a]
 | [],_=>rfl
 |b::p,a=>by rw[snoc,zp_ p a];rfl
theorem zvm(p:Path)(a:Nat×Nat):∃ b q,snoc p a=b::q:=by cases p <;> exact⟨_,_,rfl⟩
theorem zl0{i k:Nat}:∀ {p:Path} {r r':Rw},zbe (snoc p (i,k)) r=some r'→∃ r1 b,zbe p r=some r1∧sub r1.t (r1.xs.getD i r1.t.dflt) k=some b∧zll b=some r'
 | [],r,r',h=>by
  simp only[snoc,zbe]at h;split at h
  ·rename_i b hb;split at h
   ·rename_i r1 hr1;injection h with h;subst h
    exact⟨r,b,rfl,hb,hr1⟩
   ·cases h
  ·cases h
 |(j,c)::p,r,r',h=>by
  simp only[snoc,zbe]at h;split at h
  ·rename_i b hb;split at h
   ·rename_i r1 hr1;obtain⟨r2,b2,h1,h2,h3⟩:=zl0 (p:=p) h;exact⟨r2,b2,by simp only[zbe,hb,hr1];exact h1,h2,h3⟩
   ·cases h
  ·cases h
theorem zr5{i k:Nat}:∀ {p:Path} {H:Path→Hd},pv H p→i<(H p).len→pv H (snoc p (i,k))
 | [],H,_,h=>⟨h,trivial⟩
 |(j,c)::p,H,hp,h=>⟨hp.1,zr5 (p:=p) (H:=fun q=>H ((j,c)::q)) hp.2 h⟩
theorem plus1(f:Nat)(h1:f / 1000000=0):(f+1000000) / 1000000=1∧(f+1000000) % 1000000=f:=by omega
theorem plus2(f:Nat)(h1:f / 1000000=0):(f+2000000) / 1000000=2∧(f+2000000) % 1000000=f:=by omega
theorem GamOK.one {P : Program} {Γ : Gam} (h : GamOK P Γ) {f' f : FuncId} {s : Sm} (hg : Γ f' = some s) (h1 : f' / 1000000 = 1) (h2 : f' % 1000000 = f) : (∃ fn c, P.funcs[f]? = some fn ∧ fn.body = some c ∧ (fn.name == "runtime.NumGoroutine") = false) ∧ zeh (CQ P f) s := by
 have h0:=h f' s hg;unfold ze6 at h0;rw[h1,h2]at h0;exact h0
theorem GamOK.two {P : Program} {Γ : Gam} (h : GamOK P Γ) {f' f : FuncId} {s : Sm} (hg : Γ f' = some s) (h1 : f' / 1000000 = 2) (h2 : f' % 1000000 = f) : (∃ fn c, P.funcs[f]? = some fn ∧ fn.body = some c ∧ (fn.name == "runtime.NumGoroutine") = false) ∧ zeh (CB P f) s := by
 have h0:=h f' s hg;unfold ze6 at h0;rw[h1,h2]at h0;exact h0
section
variable{P:Program}{cx:Cx}{I:In}{FF:Nat→List Nat}{ob:Ob}{w:World}
theorem OwR.hdr{r r':Rw}{H:Path→Hd}{v:Value}{F:List Nat}{p:Path}{i k:Nat}(h:OwR w r.e r.t H r.xs v F)(hnd:F.Nodup)(hp:zh5 H p)(hh:(H p).hole=false)(hi:i<(H p).len)
  (hr:zbe (snoc p (i,k)) r=some r'):∃ g b cells e u,(H p).A=some ⟨g,b,none⟩∧g∈F∧HC w g cells e∧cells[b+i*(H p).sz+k]? = some u ∧
   u = .slice (H (snoc p (i,k))).A (H (snoc p (i,k))).len (H (snoc p (i,k))).cap:=by
 obtain⟨r1,b1,h1,h2,h3⟩:=zl0 hr;obtain⟨v',Fa,F',Fb,rfl,ho,_⟩:=h.focus p hnd hp h1;have e0:p++[]=p:=List.append_nil p;obtain⟨g,bs,u,Ga,Fs,Gb,cells,hA,hsz,hF,hg,hc,hu,how,_⟩:=ho.cell (by simp only[e0];exact hh) (by simp only[e0];exact hi) h2;simp only[e0]at hA hsz;refine⟨g,bs,cells,r1.e,u,hA,?_,hc,by rw[hsz];exact hu,?_⟩
 ·rw[hF];simp[hg]
 ·obtain⟨bt,by_⟩:=b1
  cases bt with
  |row e1 t1 =>
   obtain⟨u',hu',ho'⟩:=how;injection hu' with hu'
   subst hu';have e1:p++[(i,k)]=snoc p (i,k):=(zp_ p (i,k)).symm;unfold OwRow at ho';split at ho'
   ·rw[ho'.2];simp only[e1]
   ·rw[ho'.1];simp only[e1]
  |_=>simp[zll]at h3
def ye7(o e cur:Nat)(p:Path)(r r':Rw)(ups:List (Nat×Ent)):Option (List (Nat×Ent)) :=
 match ups.any (fun u=>Nat.beq u.1 o) with
 |true=>none
 | false=>(match ydh ups e (.row r' 0 none) with
  | .row r2 v2 none=>(match r2.e == r'.e,zaq r2 r'.t with
   | true,some ys=>(match zbo p r (fun r3=>zaq ⟨r3.e,r'.t,ys⟩ r3.t) with
    |some xs=>some (preX o e cur p r r'++(ups++[(o,.row ⟨r.e,r.t,xs⟩ (cur+2) none),(e,.dead v2)]))
    |none=>none)
   |_,_=>none)
  |_=>none)
def zrq(o e cur:Nat)(p:Path)(r r':Rw)(g:Nat→AV→AV)(run:M (AV×List (Nat×Ent))):M (AV×List (Nat×Ent)):=fun ob =>
 (run (ob.puts (preX o e cur p r r'))).bind fun al=>(match ye7 o e cur p r r' al.1.2 with
  |some us=>.ret ((g cur al.1.1,us),al.2)
  |none=>.fail)
def xtrQ(e o v:Nat)(p:Path)(g:Nat→AV→AV)(run:M (AV×List (Nat×Ent))):M (AV×List (Nat×Ent)):=M.bind (M.get o) fun
 | .row r cur none=>M.bind (M.free e) fun _=>(match Nat.beq v cur,zbe p r with
  |true,some r'=>zrq o e cur p r r' g run
  |_,_=>M.fail)
 |_=>M.fail
theorem zrn(h:RelH cx I FF ob w){e o v:Nat}{a:Nat×Nat}{p:Path}{g:Nat→AV→AV}{run:M (AV×List (Nat×Ent))}{av:AV}{ups:List (Nat×Ent)}{lg:List Nat}(hpv:pv (I o v) (a::p))
  (he:(xtrQ e o v (a::p) g run ob).ev=some ((av,ups),lg)) :
  ∃ r r' I1 FF1 av1 ups1 lg1,ob o=some (.row r v none)∧zbe (a::p) r=some r'∧Ext I ob I1 (ob.puts (preX o e v (a::p) r r'))∧RelH cx I1 FF1 (ob.puts (preX o e v (a::p) r r')) w ∧
   I1 o (v+1)=cutH (I o v) (a::p)∧(∀ u,I1 e u=fun q=>I o v ((a::p)++q))∧e≠o∧(∀ q,(I o v q).hole=false) ∧
   (run (ob.puts (preX o e v (a::p) r r'))).ev=some ((av1,ups1),lg1)∧av=g v av1∧(∀ u∈ups1,u.1≠o) ∧
   ∀ I' FF' w',Ext I1 (ob.puts (preX o e v (a::p) r r')) I' ((ob.puts (preX o e v (a::p) r r')).puts ups1)→RelH cx I' FF' ((ob.puts (preX o e v (a::p) r r')).puts ups1) w' →
    ∃ I3 FF3,Ext I ob I3 (ob.puts ups)∧Ext I' ((ob.puts (preX o e v (a::p) r r')).puts ups1) I3 (ob.puts ups)∧RelH cx I3 FF3 (ob.puts ups) w' ∧
     I3 o (v+2) (a::p)=I o v (a::p)∧pv (I3 o (v+2)) (a::p)∧zce (ob.puts ups) o (v+2):=by
 unfold xtrQ at he;obtain⟨en,l1,l2,he1,he2,rfl⟩:=M.ev_bind he;have hob:=M.ev_get he1
 cases en with
 |box cs=>exact(M.ev_fail (ob:=ob) he2).elim
 |dead v=>exact(M.ev_fail (ob:=ob) he2).elim
 |iter _ _=>exact(M.ev_fail (ob:=ob) he2).elim
 |map _=>exact(M.ev_fail (ob:=ob) he2).elim
 |grp _ _ _=>exact(M.ev_fail (ob:=ob) he2).elim
 |lit _ _=>exact(M.ev_fail (ob:=ob) he2).elim
 |mit _ _ _=>exact(M.ev_fail (ob:=ob) he2).elim
 |gh _=>exact(M.ev_fail (ob:=ob) he2).elim
 |half _ _ _=>exact(M.ev_fail (ob:=ob) he2).elim
 |ro _=>exact(M.ev_fail (ob:=ob) he2).elim
 |mid _ _ _=>exact(M.ev_fail (ob:=ob) he2).elim
 |rv _ _=>exact(M.ev_fail (ob:=ob) he2).elim
 |row r cur hole =>
 cases hole with
 |some q=>exact(M.ev_fail (ob:=ob) he2).elim
 |none =>
 simp only at he2;obtain⟨_,l3,l4,he3,he4,rfl⟩:=M.ev_bind he2;have hfree:=M.ev_free he3
 cases hv:Nat.beq v cur with
 |false=>simp only[hv]at he4;exact(M.ev_fail (ob:=ob) he4).elim
 |true =>
 cases hrow:zbe (a::p) r with
 |none=>simp only[hv,hrow]at he4;exact(M.ev_fail (ob:=ob) he4).elim
 |some r' =>
 simp only[hv,hrow]at he4;have hvv:=Nat.eq_of_beq_eq_true hv;subst hvv;obtain⟨I1,FF1,x1,h1,hI1o,hI1e,hne⟩:=h.xtr hob hrow hpv hfree;unfold zrq at he4;rw[Tr.ev_bind]at he4
 cases hrun:(run (ob.puts (preX o e v (a::p) r r'))).ev with
 |none=>rw[hrun]at he4;cases he4
 |some al =>
 obtain⟨⟨av1,ups1⟩,lg1⟩:=al;rw[hrun]at he4;simp only[Option.bind_some]at he4;have hob1e:ob.puts (preX o e v (a::p) r r') e=some (.row r' 0 none):=by simp[preX,Ob.puts,Ob.put]
 have hob1o:ob.puts (preX o e v (a::p) r r') o=some (.row r (v+1) (some (a::p))):=by simp[preX,Ob.puts,Ob.put,hne.symm]
 cases hb:ye7 o e v (a::p) r r' ups1 with
 |none=>rw[hb]at he4;cases he4
 |some us =>
 rw[hb]at he4;simp only[Tr.ev_ret,Option.some.injEq,Prod.mk.injEq]at he4;obtain⟨⟨rfl,rfl⟩,_⟩:=he4;obtain⟨_,_,hhole,_⟩:=h.rel o _ hob
 have hnoh:∀ q,(I o v q).hole=false:=by
  intro q
  cases hq:(I o v q).hole with
  |false=>rfl
  |true=>exact absurd (hhole q hq) (by simp)
 unfold ye7 at hb
 cases hany:ups1.any (fun u=>Nat.beq u.1 o) with
 |true=>rw[hany]at hb;cases hb
 |false =>
 rw[hany]at hb;simp only at hb
 have hno:∀ u∈ups1,u.1≠o:=by
  intro u hu e;have:=List.any_eq_false.1 hany u hu;rw[e,Nat.beq_refl]at this;exact this rfl
 have hob2o:(ob.puts (preX o e v (a::p) r r')).puts ups1 o=some (.row r (v+1) (some (a::p))):=by rw[Ob.puts_other hno];exact hob1o
 have hob2e:=zhu (us:=ups1) hob1e;split at hb
 ·rename_i r2 v2 hl;rw[hl]at hob2e;split at hb
  ·rename_i ys hre hcast;split at hb
   ·rename_i xs hupd;injection hb with hb
    subst hb;have hr2:=zay hcast;have hre':r2.e=r'.e:=by simpa using hre
    rw[hre']at hr2;rw[hr2]at hob2e;refine⟨r,r',I1,FF1,av1,ups1,lg1,hob,hrow,x1,h1,hI1o,hI1e,hne,hnoh,hrun,rfl,hno,fun I' FF' w' x2 h2=>?_⟩
    have hIo:I' o (v+1)=cutH (I o v) (a::p):=by
     rw[x2.i o (v+1) ⟨_,hob1o,Nat.le_refl _⟩];exact hI1o
    have hroote:I' e v2 []=I o v (a::p):=by
     obtain⟨_,hrt,_⟩:=h2.rel e _ hob2e;rw[← hrt 0 (Nat.zero_le _),x2.i e 0 ⟨_,hob1e,Nat.le_refl _⟩,hI1e];simp
    obtain⟨I3,FF3,x3,h3,h4,h5⟩:=h2.back (f:=fun r3=>zaq ⟨r3.e,r'.t,ys⟩ r3.t) hne hob2o hob2e hrow hIo hnoh hpv hroote (by simp[zaq]) hupd
    have eq:ob.puts (preX o e v (a::p) r r'++(ups1++[(o,.row ⟨r.e,r.t,xs⟩ (v+2) none),(e,.dead v2)])) =
      ((ob.puts (preX o e v (a::p) r r')).puts ups1).puts [(o,.row ⟨r.e,r.t,xs⟩ (v+2) none),(e,.dead v2)]:=by
     rw[Ob.puts_append,Ob.puts_append]
    refine⟨I3,FF3,?_,?_,?_,h4,h5,?_⟩
    ·rw[eq];exact(x1.trans x2).trans x3
    ·rw[eq];exact x3
    ·rw[eq];exact h3
    ·rw[eq];exact⟨.row ⟨r.e,r.t,xs⟩ (v+2) none,by simp[Ob.puts,Ob.put,hne.symm],Nat.le_refl _⟩
   ·cases hb
  ·cases hb
 ·cases hb
theorem ym6{o v:Nat}{r:Rw}{hole:Option Path}(h:RelH cx I FF ob w)(ho:ob o=some (.row r v hole))(hn:(I o v []).hole=false) :
  RelS cx I ob (.ref o v [] none) (.slice (I o v []).A (I o v []).len (I o v []).cap):=by
 obtain⟨⟨v0,hown⟩,_⟩:=h.rel o _ ho;unfold OwR OwRow at hown;rw[if_neg (by simp[hn])]at hown;obtain⟨_,hl,hle,hmx,h5⟩:=hown;refine⟨⟨_,ho,Nat.le_refl _⟩,trivial,0,(I o v []).len,rfl,by omega,(I o v []).A,(I o v []).cap,rfl,hle,hmx,fun _=>⟨rfl,rfl⟩,?_⟩
 by_cases hc:(I o v []).cap=0
 ·exact .inl hc
 ·rw[if_neg hc]at h5;obtain⟨_,g,b,_,_,hA,_⟩:=h5;exact .inr ⟨by omega,g,b,hA,by rw[hA];simp⟩
def gB(o:Nat)(p:Path)(cur:Nat):AV→AV
 | .one s=>.tup [(true,[.ref o (cur+2) p none]),(false,[s])]
 |_=>.undef
def aQ(Γ:Gam)(n:Nat)(ρ:Operand→AV)(d:Nat):Op→Option (M (AV×List (Nat×Ent)))
 | .call c=>(match c.callee,c.args.toList with
  | .value (.func f),x :: xs=>(match ρ x with
   | .one (.ptr o v p i k)=>(match ze4 f,Γ (f + 1000000) with
    |true,some s=>some (xtrQ (d+12) o v (snoc p (i,k)) (fun _ a=>a) (zib s n (.one (.ref (d+12) 0 [] none)::xs.map ρ) d))
    |_,_=>none)
   | .agg [.ref o v (a :: p) none]=>(match ze4 f,Γ (f + 2000000) with
    |true,some s=>some (xtrQ (d+12) o v (a::p) (gB o (a::p)) (zib s n (.agg [.ref (d+12) 0 [] none]::xs.map ρ) d))
    |_,_=>none)
   |_=>none)
  |_,_=>none)
 |_=>none
theorem q_wp{Γ:Gam}(hΓ:GamOK P Γ)(h:RelH cx I FF ob w){n:Nat}{ρ:Operand→AV}{a:Act}(hρ:∀ x,RelA cx I ob (ρ x) (a.eval x)){d:Nat}{o:Oper}{m:M (AV×List (Nat×Ent))}(hm:aQ Γ n ρ d o.op=some m)
  {av:AV} {ups:List (Nat×Ent)} {lg:List Nat} (he:(m ob).ev=some ((av,ups),lg)) {K:Act→World→Prop} {Q:Exit→Act→World→Prop}
  (hK:∀ I' FF' w' u,Ext I ob I' (ob.puts ups)→RelH cx I' FF' (ob.puts ups) w'→RelA cx I' (ob.puts ups) av u→K (a.put o.dst u) w'):o.wp P a w K Q:=by
 generalize hop:o.op=op at hm;unfold aQ at hm;split at hm
 ·rename_i c;split at hm
  ·rename_i f x xs hcal hargs;have hargs':c.args.map a.eval=(a.eval x::xs.map a.eval).toArray:=by apply Array.ext';rw[Array.toList_map,hargs];rfl
   have hxs:∀ {I1:In} {ob1:Ob},Ext I ob I1 ob1→F2 (RelA cx I1 ob1) (xs.map ρ) (xs.map a.eval):=by
    intro I1 ob1 x1;clear hargs hargs' hm
    induction xs with
    |nil=>trivial
    |cons y l ih=>exact⟨(hρ y).ext x1,ih⟩
   have hen : ∀ {fn : Func} {cd : Code}, P.funcs[f]? = some fn → fn.body = some cd → (fn.name == "runtime.NumGoroutine") = false → (execOp a.eval o).run P w = .ok (.enter f (c.args.map a.eval)) w := by
    intro fn cd hf hb hnm;unfold execOp;simp only[hop,resolve,hcal,Act.eval,Deferred.ofValue,Sem.run_bind,Sem.run_pure,Result.andThen_ok,invoke,callFunc,run_program,hf,hnm,hb,Array.empty_append,Array.append_empty];simp
   split at hm
   ·rename_i oo vv p i k hrx;split at hm
    ·rename_i s hp hg;injection hm with hm
     subst hm;have hrel:=hρ x;rw[hrx]at hrel;obtain⟨hkn,hpv,hi,gg,bb,hA,hval⟩:=hrel;have hpv2:=zr5 (k:=k) hpv hi;obtain⟨a1,q1,hsn⟩:=zvm p (i,k);rw[hsn]at he hpv2;obtain⟨r,r',I1,FF1,av1,ups1,lg1,hob,hrow,x1,h1,hI1o,hI1e,hne,hnoh,hrun,rfl,hno,hback⟩:=zrn h hpv2 he;have hob1e:ob.puts (preX oo (d+12) vv (a1::q1) r r') (d+12)=some (.row r' 0 none):=by simp[preX,Ob.puts,Ob.put]
     have hob1o:ob.puts (preX oo (d+12) vv (a1::q1) r r') oo=some (.row r (vv+1) (some (a1::q1))):=by simp[preX,Ob.puts,Ob.put,hne.symm]
     have hI1e0:I1 (d+12) 0 []=I oo vv (a1::q1):=by rw[hI1e];simp
     have hr0:=ym6 h1 hob1e (by rw[hI1e0];exact hnoh _);rw[hI1e0]at hr0
     -- the cell
     obtain⟨⟨v1,hown1⟩,_⟩:=h1.rel oo _ hob1o;rw[hI1o]at hown1
     have hcutp:∀ q,q <+: p→cutH (I oo vv) (a1::q1) q=I oo vv q:=by
      intro q hq;unfold cutH
      have hne9:¬ q=a1::q1:=by
       intro e;have h9:=List.IsPrefix.length_le hq;rw[e,← hsn,zp_]at h9;have h10:(p++[(i,k)]).length=p.length+1:=List.length_append;rw[h10]at h9;exact Nat.not_succ_le_self _ h9
      exact if_neg hne9
     have hpk:zh5 (cutH (I oo vv) (a1::q1)) p:=zke hpv (fun q hq _=>by rw[hcutp q hq];exact⟨hnoh q,rfl⟩);have ep:cutH (I oo vv) (a1::q1) p=I oo vv p:=hcutp p List.prefix_rfl;rw[← hsn]at hrow;obtain⟨g,b,cells,e,u,hA1,hgF,hgc,hu,hue⟩:=hown1.hdr (h1.nd oo) hpk (by rw[ep];exact hnoh p) (by rw[ep];exact hi) hrow;rw[ep]at hA1 hu;rw[hA]at hA1;injection hA1 with hA1
     injection hA1 with e1 e2
     subst e1;subst e2
     have hue2:u = .slice (I oo vv (a1::q1)).A (I oo vv (a1::q1)).len (I oo vv (a1::q1)).cap:=by
      rw[hue,hsn];simp[cutH]
     have hpf:=plus1 f (zcc f hp).1;obtain⟨⟨fn,cd,hf,hb,hnm⟩,hH⟩:=hΓ.one hg hpf.1 hpf.2;obtain⟨F,hF,hC⟩:=zee (C:=CQ P f) (fun _ _ _ _ _ h hc=>CQ.mono h hc) hH h1 (as:=.one (.ref (d+12) 0 [] none)::xs.map ρ) (vs:=u::xs.map a.eval) ⟨by rw[hue2];exact hr0,hxs x1⟩ hrun;have hgw:gg<w.heap.size:=(h1.mine oo gg hgF).2.2;have hcl:w.cell? ⟨gg,bb+i*(I oo vv p).sz+k,none⟩=some u:=by rw[hgc.cell];exact hu
     have hcall:=hC gg _ u _ rfl hcl (fun hk=>hF oo hno gg hk hgF) hgw;unfold Oper.wp;rw[hen hf hb hnm,hargs',hval];refine Calls.mono hcall ?_;rintro e' w' ⟨u',rfl,I',FF',x2,h2,hrel2⟩;obtain⟨I3,FF3,x3,x4,h3,_⟩:=hback I' FF' w' x2 h2;exact hK I3 FF3 w' u' x3 h3 (hrel2.ext x4)
    ·cases hm
   ·rename_i oo vv a1 q1 hrx;split at hm
    ·rename_i s hp hg;injection hm with hm
     subst hm;have hrel:=hρ x;rw[hrx]at hrel;obtain⟨arr,harr,hrl⟩:=hrel
     have hl:∃ u,arr = #[u]∧RelS cx I ob (.ref oo vv (a1::q1) none) u:=by
      have hl2:∃ u,arr.toList=[u]∧RelS cx I ob (.ref oo vv (a1::q1) none) u:=by
       generalize arr.toList=l at hrl
       match l,hrl with
       | [u],hrl=>exact⟨u,rfl,hrl.1⟩
      obtain⟨u,hu,h0⟩:=hl2;exact⟨u,by apply Array.ext';exact hu,h0⟩
     obtain⟨u,rfl,hrelx⟩:=hl;obtain⟨r,r',I1,FF1,av1,ups1,lg1,hob,hrow,x1,h1,hI1o,hI1e,hne,hnoh,hrun,rfl,hno,hback⟩:=zrn h hrelx.2.1 he;have hob1e:ob.puts (preX oo (d+12) vv (a1::q1) r r') (d+12)=some (.row r' 0 none):=by simp[preX,Ob.puts,Ob.put]
     have hpf:=plus2 f (zcc f hp).1;obtain⟨⟨fn,cd,hf,hb,hnm⟩,hH⟩:=hΓ.two hg hpf.1 hpf.2;obtain⟨F,hF,hC⟩:=zee (C:=CB P f) (fun _ _ _ _ _ h hc=>CB.mono h hc) hH h1 (as:=.agg [.ref (d+12) 0 [] none]::xs.map ρ) (vs:=.agg #[u]::xs.map a.eval) ⟨⟨#[u],rfl,RelS.xtr (cx:=cx) hI1e hob1e hrelx,trivial⟩,hxs x1⟩ hrun;have hcall:=hC u _ rfl;unfold Oper.wp;rw[hen hf hb hnm,hargs',harr];refine Calls.mono hcall ?_;rintro e' w' ⟨rr,rfl,u',hu',I',FF',x2,h2,hrel2⟩;injection hu' with hu'
     subst hu';obtain⟨I3,FF3,x3,x4,h3,h4,h5,h6⟩:=hback I' FF' w' x2 h2;refine hK I3 FF3 w' _ x3 h3 ?_
     have href:RelS cx I3 (ob.puts ups) (.ref oo (vv+2) (a1::q1) none) u:=by
      obtain⟨_,_,h8⟩:=hrelx;refine⟨h6,h5,?_⟩;rw[h4];exact h8
     cases av1 with
     |one s1=>exact⟨#[.agg #[u],rr],rfl,⟨#[u],rfl,href,trivial⟩,⟨s1,rfl,(hrel2.ext x4)⟩,trivial⟩
     |_=>trivial
    ·cases hm
   ·cases hm
  ·cases hm
 ·cases hm
def yco:Path→Path→Bool
 | [],[]=>true
 |(i,c)::p,(j,k)::q=>(match Nat.beq i j,Nat.beq c k with|true,true=>yco p q|_,_=>false)
 |_,_=>false
theorem zr_:∀ {p q:Path},yco p q=true→p=q
 | [],[],_=>rfl
 |(i,c)::p,(j,k)::q,h=>by
  simp only[yco]at h;split at h
  ·rename_i h1 h2;rw[Nat.eq_of_beq_eq_true h1,Nat.eq_of_beq_eq_true h2,zr_ h]
  ·cases h
 | [],_::_,h=>by cases h
 |_::_,[],h=>by cases h
def layV:Path→Nat→Nat→Bool
 | [],_,_=>true
 |_::_,v,cur=>Nat.beq v cur
def aLay(o v v':Nat)(p:Path)(i k:Nat):M (AV×List (Nat×Ent)):=M.bind (M.get o) fun
 | .row r cur none=>(match layV p v cur,Nat.beq v' cur,zbe (snoc p (i,k)) r with
  |true,true,some _=>M.pure (.undef,[])
  |_,_,_=>M.fail)
 |_=>M.fail
def one1:AV→Option SV
 | .one s=>some s
 | .agg [s]=>some s
 |_=>none
def zg6(T:TB)(ρ:Operand→AV):Op→Option (M (AV×List (Nat×Ent)))
 | .store t x y=>(match ρ x,one1 (ρ y),T t with
  | .one (.ptr o v p i k),some (.ref o' v' q none),some ti=>(match Nat.beq o o',yco (snoc p (i,k)) q,Nat.beq ti.sz 1 with
   |true,true,true=>some (aLay o v v' p i k)
   |_,_,_=>none)
  |_,_,_=>none)
 |_=>none
theorem yjf{t:TypeId}{ti:TI}(hT:TIok P t ti)(hsz:ti.sz=1)(h:RelH cx I FF ob w){o v v':Nat}{p:Path}{i k:Nat}{x y u:Value}(hx:RelS cx I ob (.ptr o v p i k) x)(hy:RelS cx I ob (.ref o v' (snoc p (i,k)) none) u)
  (hyu:y.cells.toList=[u]) {av:AV} {ups:List (Nat×Ent)} {lg:List Nat} (he:(aLay o v v' p i k ob).ev=some ((av,ups),lg)):(Instr.storeAt t x y).run P w = .ok () w∧av = .undef∧ups=[]:=by
 obtain⟨en,l1,l2,he1,he2,rfl⟩:=M.ev_bind he;have hob:=M.ev_get he1
 cases en with
 |box cs=>exact(M.ev_fail (ob:=ob) he2).elim
 |dead v=>exact(M.ev_fail (ob:=ob) he2).elim
 |iter _ _=>exact(M.ev_fail (ob:=ob) he2).elim
 |map _=>exact(M.ev_fail (ob:=ob) he2).elim
 |grp _ _ _=>exact(M.ev_fail (ob:=ob) he2).elim
 |lit _ _=>exact(M.ev_fail (ob:=ob) he2).elim
 |mit _ _ _=>exact(M.ev_fail (ob:=ob) he2).elim
 |gh _=>exact(M.ev_fail (ob:=ob) he2).elim
 |half _ _ _=>exact(M.ev_fail (ob:=ob) he2).elim
 |ro _=>exact(M.ev_fail (ob:=ob) he2).elim
 |mid _ _ _=>exact(M.ev_fail (ob:=ob) he2).elim
 |rv _ _=>exact(M.ev_fail (ob:=ob) he2).elim
 |row r cur hole =>
 cases hole with
 |some q=>exact(M.ev_fail (ob:=ob) he2).elim
 |none =>
 simp only at he2
 cases hb1:layV p v cur with
 |false=>simp only[hb1]at he2;exact(M.ev_fail (ob:=ob) he2).elim
 |true =>
 cases hb2:Nat.beq v' cur with
 |false=>simp only[hb1,hb2]at he2;exact(M.ev_fail (ob:=ob) he2).elim
 |true =>
 cases hrow:zbe (snoc p (i,k)) r with
 |none=>simp only[hb1,hb2,hrow]at he2;exact(M.ev_fail (ob:=ob) he2).elim
 |some r' =>
  simp only[hb1,hb2,hrow]at he2;have hp:=M.ev_pure (ob:=ob) he2;injection hp with e1 e2
  refine⟨?_,e1.symm,e2.symm⟩;have hv':=Nat.eq_of_beq_eq_true hb2;subst hv'
  have hx':pv (I o v') p∧i<(I o v' p).len∧∃ g b,(I o v' p).A=some ⟨g,b,none⟩∧x = .pointer (some ⟨g,b+i*(I o v' p).sz+k,none⟩):=by
   obtain⟨hkn,hpv,hi,gg,bb,hA,hval⟩:=hx
   cases p with
   |nil =>
    obtain⟨e1,h1,h2⟩:=hkn;rw[hob]at h1;injection h1 with h1
    subst h1;obtain⟨_,hroot,_⟩:=h.rel o _ hob;have h3:=hroot v h2;rw[h3]at hi hA hval;exact⟨trivial,hi,gg,bb,hA,hval⟩
   |cons a q =>
    have hv:v=v':=Nat.eq_of_beq_eq_true hb1;subst hv;exact⟨hpv,hi,gg,bb,hA,hval⟩
  obtain⟨hpv,hi,gg,bb,hA,rfl⟩:=hx';obtain⟨_,_,off,len,hvw,_,A,c,hyv,_,_,hex,_⟩:=hy;obtain⟨hA2,hc2⟩:=hex rfl;obtain⟨⟨v0,hown⟩,_,hhole,_⟩:=h.rel o _ hob
  have hnoh:∀ q,(I o v' q).hole=false:=by
   intro q
   cases hq:(I o v' q).hole with
   |false=>rfl
   |true=>exact absurd (hhole q hq) (by simp)
  obtain⟨g,b,cells,e,u',hA1,hgF,hgc,hu,hue⟩:=hown.hdr (h.nd o) (zbz hpv (fun q _=>hnoh q)) (hnoh p) hi hrow;rw[hA]at hA1;injection hA1 with hA1
  injection hA1 with e1 e2
  subst e1;subst e2
  have hlen:len=(I o v' (snoc p (i,k))).len:=by
   simp only[Option.getD_none,Prod.mk.injEq]at hvw;exact hvw.2.symm
  have huu:u=u':=by rw[hyv,hue,hA2,hc2,hlen]
  subst huu;have hone:u.oneCell'=true:=by rw[hyv];rfl
  have hlt:=(Array.getElem?_eq_some_iff.1 hu).1;have hrun:=zcb hT (o:=bb+i*(I o v' p).sz+k) (v:=y) hgc (by rw[hyu];exact hsz.symm) (by rw[hyu];simp;omega) (by rw[hyu];intro x hx;rw[List.mem_singleton.1 hx];exact hone);rw[hrun];obtain⟨q,_,hg⟩:=hgc
  have hsame:(cells.toList.take (bb+i*(I o v' p).sz+k)++y.cells.toList++cells.toList.drop (bb+i*(I o v' p).sz+k+y.cells.toList.length)).toArray=cells:=by
   apply Array.ext';rw[hyu];apply List.ext_getElem?;intro j;have hsp:=zcv cells.toList [u] (bb+i*(I o v' p).sz+k) j (by simp;omega);rw[hsp];split
   ·rfl
   ·split
    ·rename_i h1 h2;have:j=bb+i*(I o v' p).sz+k:=by simp at h2;omega
     subst this;have h7:cells.toList[bb+i*(I o v' p).sz+k]? = some u:=by rw[Array.getElem?_toList];exact hu
     rw[h7,Nat.sub_self];rfl
    ·rfl
  rw[hsame,setRow_self w gg cells e q hg]
theorem yog{T:TB}(hT:TBok P T)(h:RelH cx I FF ob w){ρ:Operand→AV}{a:Act}(hρ:∀ x,RelA cx I ob (ρ x) (a.eval x)){o:Oper}{m:M (AV×List (Nat×Ent))}(hm:zg6 T ρ o.op=some m)
  {av:AV} {ups:List (Nat×Ent)} {lg:List Nat} (he:(m ob).ev=some ((av,ups),lg)) {K:Act→World→Prop} {Q:Exit→Act→World→Prop}
  (hK:∀ I' FF' w' u,Ext I ob I' (ob.puts ups)→RelH cx I' FF' (ob.puts ups) w'→RelA cx I' (ob.puts ups) av u→K (a.put o.dst u) w'):o.wp P a w K Q:=by
 obtain⟨dst,op,ty,pos,after,guard⟩:=o;simp only at hm;unfold zg6 at hm;split at hm
 ·rename_i t x y;split at hm
  ·rename_i oo v p i k o' v' q ti hrx hry ht;split at hm
   ·rename_i hb1 hb2 hb3;injection hm with hm
    subst hm;have e1:=Nat.eq_of_beq_eq_true hb1;have e2:=zr_ hb2;subst e1;subst e2;obtain⟨hti⟩:=hT.get ht;have hx:=hρ x;rw[hrx]at hx
    have hcs:zef (ρ y)=some [.ref oo v' (snoc p (i,k)) none]:=by
     cases hy:ρ y with
     |one s=>rw[hy]at hry;injection hry with hry;subst hry;rfl
     |agg cs =>
      rw[hy]at hry
      match cs,hry with
      | [s],hry=>injection hry with hry;subst hry;rfl
     |tup _=>rw[hy]at hry;cases hry
     |fn _ _=>rw[hy]at hry;cases hry
     |par _ _ _=>rw[hy]at hry;cases hry
     |undef=>rw[hy]at hry;cases hry
    have hr:=zed hcs (hρ y)
    obtain⟨u,hu,hrel⟩:∃ u,(a.eval y).cells.toList=[u]∧RelS cx I ob (.ref oo v' (snoc p (i,k)) none) u:=by
     generalize (a.eval y).cells.toList=l at hr
     match l,hr with
     | [u],hr=>exact⟨u,rfl,hr.1⟩
    obtain⟨hrun,rfl,rfl⟩:=yjf hti (Nat.eq_of_beq_eq_true hb3) h hx hrel hu he;unfold Oper.wp;have:(execOp a.eval ⟨dst,.store t x y,ty,pos,after,guard⟩).run P w = .ok .skip w:=by simp[execOp,hrun]
    rw[this];exact hK I FF w undef (Ext.refl I ob) h trivial
   ·cases hm
  ·cases hm
 ·cases hm
end
end Go.Proofs.Ytbjgiioppmkpiaa.Rx

namespace Go.Proofs.Ytbjgiioppmkpiaa.Rx
open Go Go.RowKit
def mget:List (ByteArray×Bool)→ByteArray→Bool
 | [],_=>false
 |x::m,s=>cond (decide (s=x.1)) x.2 (mget m s)
def mput:List (ByteArray×Bool)→ByteArray→Bool→List (ByteArray×Bool)
 | [],s,b=>[(s,b)]
 |x::m,s,b=>cond (decide (s=x.1)) ((s,b)::m) (x::mput m s b)
def zzh(d:Nat):M (AV×List (Nat×Ent)):=M.bind (M.free d) fun _=>M.pure (.one (.mapr d),[(d,.map [])])
def zn8(o:Nat)(s:ByteArray)(b:Bool):M (AV×List (Nat×Ent)):=M.bind (M.get o) fun
 | .map m=>M.pure (.undef,[(o,.map (mput m s b))])
 |_=>M.fail
def zzj(o:Nat)(s:ByteArray):M (AV×List (Nat×Ent)):=M.bind (M.get o) fun
 | .map m=>M.pure (.one (.bool (mget m s)),[])
 |_=>M.fail
def zzi(o:Nat):M (AV×List (Nat×Ent)):=M.bind (M.get o) fun
 | .map m=>M.pure (.one (.int .i64 (m.length:Int)),[])
 |_=>M.fail
def zd9(T:TB)(t:TypeId):Bool:=match T t with
 | some ti=>(match ti.d with
  | .map k e=>(match T k,T e with
   | some tk,some te=>(match tk.d,te.d,te.z with
    | .str,.bool,[.bool]=>true
    |_,_,_=>false)
   |_,_=>false)
  |_=>false)
 |none=>false
def zdm(T:TB)(ρ:Operand→AV)(d:Nat):Op→Option (M (AV×List (Nat×Ent)))
 | .makeMap t none=>(match zd9 T t with
  |true=>some (zzh d)
  |false=>none)
 | .mapUpdate t m k v=>(match zd9 T t,ρ m,ρ k,ρ v with
  |true,.one (.mapr o),.one (.str s),.one (.bool b)=>some (zn8 o s b)
  |_,_,_,_=>none)
 | .insert t m k v=>(match zd9 T t,ρ m,ρ k,ρ v with
  |true,.one (.mapr o),.one (.str s),.one (.bool b)=>some (zn8 o s b)
  |_,_,_,_=>none)
 | .lookup t m k false=>(match zd9 T t,ρ m,ρ k with
  |true,.one (.mapr o),.one (.str s)=>some (zzj o s)
  |_,_,_=>none)
 | .call c=>(match c.callee,c.argTypes.toList,c.args.toList with
  | .builtin .len,[t],[x]=>(match zd9 T t,ρ x with
   |true,.one (.mapr o)=>some (zzi o)
   |_,_=>none)
  |_,_,_=>none)
 |_=>none
section
variable{P:Program}{cx:Cx}{I:In}{FF:Nat→List Nat}{ob:Ob}{w:World}
theorem zhv{T:TB}(hT:TBok P T){t:TypeId}(h:zd9 T t=true):∃ k e,P.underlying t=some (.map k e)∧P.underlying k=some .string∧∃ te,Nonempty (TIok P e te)∧te.d = .bool∧te.z=[.bool]:=by
 unfold zd9 at h;split at h
 ·rename_i ti ht;split at h
  ·rename_i k e hd;split at h
   ·rename_i tk te hk he;split at h
    ·rename_i hdk hde hze;obtain⟨hti⟩:=hT.get ht;obtain⟨hki⟩:=hT.get hk;obtain⟨hei⟩:=hT.get he;refine⟨k,e,?_,hki.isStr hdk,te,⟨hei⟩,hde,hze⟩;have hf:=hti.fits;rw[hd]at hf;rw[hti.hd]
     cases hdd:hti.d with
     |map k' e' =>
      rw[hdd]at hf;simp only[TD.fits,Bool.and_eq_true,beq_iff_eq]at hf;rw[hf.1,hf.2]
     |_=>rw[hdd]at hf;simp[TD.fits]at hf
    ·cases h
   ·cases h
  ·cases h
 ·cases h
theorem ygm{v:Value}(h:zk v=some .bool):v = .bool false:=by
 unfold zk at h;split at h <;> first|rfl|(split at h <;> cases h)|cases h
theorem zuq{e:TypeId}{te:TI}(h:TIok P e te)(hd:te.d = .bool)(hz:te.z=[.bool])(w:World):(zeroValue e).run P w = .ok (.bool false) w:=by
 have hf:=h.fits;rw[hd]at hf
 have hdd:h.d = .bool:=by
  cases hx:h.d <;> rw[hx]at hf <;> simp[TD.fits]at hf <;> rfl
 have hv:h.z = .bool false:=by
  have hzs:=h.zs;rw[hz]at hzs;have hag:=h.agg;rw[hdd]at hag
  have hc:h.z.cells = #[h.z]:=by
   cases hx:h.z with
   |agg _=>rw[hx]at hag;cases hag
   |_=>rfl
  rw[hc]at hzs;exact ygm (by simpa using hzs)
 simp[zeroValue,typeInfo,h.hi,h.hz,hv]
theorem ba_ne{a b:ByteArray}(h:a≠b):(a == b)=false:=by
 rw[Bool.eq_false_iff];exact fun hh=>h ((MapKept.bytes_beq a b).1 hh)
theorem znx:∀ {es:List MapEntry} {m:List (ByteArray×Bool)} (s:ByteArray) (i:Nat),es.map (fun e=>(e.key,e.val))=m.map (fun x=>(Value.string x.1,Value.bool x.2)) →
  (Instr.findNow .string (.string s) es i=some none∧mget m s=false∧(∀ b,mput m s b=m++[(s,b)])) ∨
  (∃ j v,Instr.findNow .string (.string s) es i=some (some (i+j,.bool v))∧mget m s=v∧j<es.length∧(∃ e,es[j]? = some e∧e.key = .string s)∧∀ b,mput m s b=m.set j (s,b))
 | [],[],s,i,_=>.inl ⟨rfl,rfl,fun _=>rfl⟩
 |e::es,x::m,s,i,h=>by
  simp only[List.map_cons,List.cons.injEq,Prod.mk.injEq]at h;obtain⟨⟨h1,h2⟩,h3⟩:=h
  by_cases hs:s=x.1
  ·subst hs;refine .inr ⟨0,x.2,?_,by simp[mget],by simp,⟨e,rfl,h1⟩,fun b=>by simp[mput]⟩;have hb:(x.1 == x.1)=true:=(MapKept.bytes_beq _ _).2 rfl;simp only[Instr.findNow,h1,Instr.sameNow,h2,hb,Nat.add_zero]
  ·have hb:(s == x.1)=false:=ba_ne hs
   have hf:∀ k,Instr.findNow .string (.string s) (e::es) k=Instr.findNow .string (.string s) es (k+1):=fun k=>by
    simp only[Instr.findNow,h1,Instr.sameNow,hb]
   rcases znx s (i+1) h3 with ⟨a,b,c⟩|⟨j,v,a,b,c,d,f⟩
   ·exact .inl ⟨by rw[hf];exact a,by simp[mget,hs,b],fun bb=>by simp[mput,hs,c]⟩
   ·refine .inr ⟨j+1,v,by rw[hf,a];simp only[Nat.add_assoc,Nat.add_comm 1],by simp[mget,hs,b],by simp;omega,?_,fun bb=>by simp[mput,hs,f]⟩;simpa using d
 | [],_::_,s,i,h=>by simp at h
 |_::_,[],s,i,h=>by simp at h
theorem ztr(h:RelH cx I FF ob w){t:TypeId}{d:Nat}{av:AV}{ups:List (Nat×Ent)}{lg:List Nat}(he:(zzh d ob).ev=some ((av,ups),lg)) :
  Did P cx I ob w ((Instr.makeMap t none).run P w) av ups:=by
 obtain⟨_,l1,l2,h1,h2,rfl⟩:=M.ev_bind he;have hdd:=M.ev_free h1;have hp:=M.ev_pure (ob:=ob) h2;injection hp with e1 e2
 subst e1;subst e2;have x:Ext I ob (Inew I d (fun _=>⟨some ⟨w.heap.size,0,none⟩,0,0,0,false⟩)) (ob.put d (.map [])):=Ext.new hdd;have hf:=h.fresh;have hw:=h.world (zbx w (.map #[] 0) (fun _=>False)) (fun k hk=>hk.elim);refine⟨.map (some w.heap.size),w.alloc (.map #[] 0),_,zaj FF d [w.heap.size],run_makeMap_plain w t,x,?_,⟨⟨_,Ob.put_same _ _ _,Nat.le_refl _⟩,w.heap.size,by simp[Inew],rfl⟩⟩;refine hw.give (h.non d hdd) (fun e0 h0=>by rw[hdd]at h0;cases h0) x ?_ (by simp) ?_ ?_
 ·exact⟨w.heap.size,rfl,by simp[Inew],#[],0,heap_alloc_new w _,rfl⟩
 ·intro k hk o ho;have:k=w.heap.size:=by simpa using hk
  subst this;exact hf.2.2 o ho
 ·intro k hk;have:k=w.heap.size:=by simpa using hk
  subst this;exact⟨hf.1,hf.2.1,by simp⟩
theorem zw8(h:RelH cx I FF ob w){o:Nat}{m:List (ByteArray×Bool)}(hob:ob o=some (.map m)){v:Value}(hv:RelS cx I ob (.mapr o) v) :
  ∃ g es clock,v = .map (some g)∧FF o=[g]∧(I o 0 []).A=some ⟨g,0,none⟩∧w.heap[g]? = some (.map es clock)∧es.toList.map (fun e=>(e.key,e.val))=m.map (fun x=>(Value.string x.1,Value.bool x.2)):=by
 obtain⟨_,g,hA,rfl⟩:=hv;obtain⟨g',hF,hA',es,clock,hg,hes⟩:=h.rel o _ hob
 have hgg:g'=g:=by
  rw[hA]at hA';injection hA' with hA'
  injection hA' with hA'
  exact hA'.symm
 subst hgg;exact⟨g',es,clock,rfl,hF,hA,hg,hes⟩
theorem zqr{o:Nat}{ob:Ob}{f:List (ByteArray×Bool)→M (AV×List (Nat×Ent))}{r:AV×List (Nat×Ent)}{lg:List Nat}(he:((M.bind (M.get o) fun | .map m=>f m|_=>M.fail) ob).ev=some (r,lg)) :
  ∃ m l,ob o=some (.map m)∧(f m ob).ev=some (r,l):=by
 obtain⟨e,l1,l2,he1,he2,rfl⟩:=M.ev_bind he;have hob:=M.ev_get he1
 cases e with
 |map m=>exact⟨m,l2,hob,he2⟩
 |_=>exact(M.ev_fail (ob:=ob) he2).elim
theorem ztt{T:TB}(hT:TBok P T)(h:RelH cx I FF ob w){t:TypeId}(ht:zd9 T t=true){o:Nat}{s:ByteArray}{v:Value}(hv:RelS cx I ob (.mapr o) v){av:AV}{ups:List (Nat×Ent)}{lg:List Nat}
  (he:(zzj o s ob).ev=some ((av,ups),lg)):Did P cx I ob w ((Instr.lookup t v (.string s) false).run P w) av ups:=by
 obtain⟨m,l,hob,he2⟩:=zqr he;have hp:=M.ev_pure (ob:=ob) he2;injection hp with e1 e2
 subst e1;subst e2;obtain⟨g,es,clock,rfl,hF,hA,hg,hes⟩:=zw8 h hob hv;obtain⟨k,e,hu,hk,te,⟨hei⟩,hde,hze⟩:=zhv hT ht;refine⟨.bool (mget m s),w,I,FF,?_,Ext.refl _ _,h,rfl⟩;have hc:∀ b,(Instr.checkKey b 10000 k (.string s)).run P w = .ok () w:=fun b=>MapKept.run_checkKey (k:=.string s) hk (by simp[MapKept.IsKey]) b 9999;rcases znx s 0 hes with ⟨a,b,_⟩|⟨j,v,a,b,_⟩
 ·rw[b];simp[Instr.lookup,run_underlying hu,MapKept.run_getObj_map hg,hc,MapKept.run_findKey hk a,zuq hei hde hze,Result.andThen]
 ·rw[b];simp[Instr.lookup,run_underlying hu,MapKept.run_getObj_map hg,hc,MapKept.run_findKey hk a,Result.andThen]
theorem zts{T:TB}(hT:TBok P T)(h:RelH cx I FF ob w){t ty:TypeId}(ht:zd9 T t=true){o:Nat}{v:Value}(hv:RelS cx I ob (.mapr o) v){av:AV}{ups:List (Nat×Ent)}{lg:List Nat}
  (he:(zzi o ob).ev=some ((av,ups),lg)):Did P cx I ob w ((Builtin.len_ #[t] ty #[v]).run P w) av ups:=by
 obtain⟨m,l,hob,he2⟩:=zqr he;have hp:=M.ev_pure (ob:=ob) he2;injection hp with e1 e2
 subst e1;subst e2;obtain⟨g,es,clock,rfl,hF,hA,hg,hes⟩:=zw8 h hob hv;obtain⟨k,e,hu,hk,te,⟨hei⟩,hde,hze⟩:=zhv hT ht;refine⟨.int .i64 (m.length:Int),w,I,FF,?_,Ext.refl _ _,h,rfl⟩;have hl:es.size=m.length:=by simpa using congrArg List.length hes
 simp[Builtin.len_,run_underlying hu,MapKept.run_getObj_map hg,Result.andThen,goInt,hl]
theorem ztq{T:TB}(hT:TBok P T)(h:RelH cx I FF ob w){t:TypeId}(ht:zd9 T t=true){o:Nat}{s:ByteArray}{b:Bool}{v:Value}(hv:RelS cx I ob (.mapr o) v){av:AV}{ups:List (Nat×Ent)}{lg:List Nat}
  (he:(zn8 o s b ob).ev=some ((av,ups),lg)):av = .undef∧∃ w' I' FF',(Instr.mapUpdate t v (.string s) (.bool b)).run P w = .ok () w'∧Ext I ob I' (ob.puts ups)∧RelH cx I' FF' (ob.puts ups) w':=by
 obtain⟨m,l,hob,he2⟩:=zqr he;have hp:=M.ev_pure (ob:=ob) he2;injection hp with e1 e2
 subst e1;subst e2;obtain⟨g,es,clock,rfl,hF,hA,hg,hes⟩:=zw8 h hob hv;obtain⟨k,e,hu,hk,te,⟨hei⟩,hde,hze⟩:=zhv hT ht;have hc:∀ b,(Instr.checkKey b 10000 k (.string s)).run P w = .ok () w:=fun b=>MapKept.run_checkKey (k:=.string s) hk (by simp[MapKept.IsKey]) b 9999;have hsz:=(h.mine o g (by rw[hF];simp)).2.2
 have key:∀ es' clock',es'.toList.map (fun e=>(e.key,e.val))=(mput m s b).map (fun x=>(Value.string x.1,Value.bool x.2)) →
   ∃ I' FF',Ext I ob I' (ob.puts [(o,.map (mput m s b))])∧RelH cx I' FF' (ob.puts [(o,.map (mput m s b))]) { w with heap:=w.heap.setIfInBounds g (.map es' clock') }:=by
  intro es' clock' hes'
  let w':World:={ w with heap:=w.heap.setIfInBounds g (.map es' clock') }
  have hk:Kp w (fun k=>k=g) w':=⟨rfl,rfl,rfl,by simp [w'],fun k _ hk=>by
   show (w.heap.setIfInBounds g _)[k]? = _
   rw[Array.getElem?_setIfInBounds_ne (fun e=>hk e.symm)]⟩
  have ht:=h.take hob
  have hw:=ht.world hk (fun k hk=>by
   subst hk;refine⟨(h.mine o k (by rw[hF];simp)).2.1,fun o' ho'=>?_⟩;unfold zaj at ho';split at ho'
   ·cases ho'
   ·rename_i hne
    exact h.dj o o' (fun e=>hne e.symm) k (by rw[hF];simp) ho')
  have e2:∀ e:Ent,(ob.put o (.dead (Ent.map m).ver)).put o e=ob.put o e:=fun e=>by funext q;simp only[Ob.put];split <;> rfl
  have hx:Ext I ob I (ob.put o (.map (mput m s b))):=⟨fun _ _ _=>rfl,zak (fun e0 h0=>by rw[hob]at h0;injection h0 with h0;subst h0;exact Nat.le_refl _)⟩
  have hg':w'.heap[g]? = some (.map es' clock'):=by
   show (w.heap.setIfInBounds g _)[g]? = _;simp[hsz]
  have hgv:=hw.give (o:=o) (e:=.map (mput m s b)) (F:=[g]) (by simp[zaj]) (fun e0 h0=>by simp[Ob.put]at h0;subst h0;exact Nat.zero_le _)
   (I':=I) ⟨fun _ _ _=>rfl,zak (fun e0 h0=>by simp[Ob.put]at h0;subst h0;exact Nat.zero_le _)⟩
   ⟨g,rfl,hA,es',clock',hg',hes'⟩ (by simp) (fun q hq o' ho'=>by
    have:q=g:=by simpa using hq
    subst this;unfold zaj at ho';split at ho'
    ·cases ho'
    ·rename_i hne
     exact h.dj o o' (fun e=>hne e.symm) q (by rw[hF];simp) ho') (fun q hq=>by
    have:q=g:=by simpa using hq
    subst this;have:=h.mine o q (by rw[hF];simp)
    exact⟨this.1,this.2.1,by simpa [w'] using this.2.2⟩)
  rw[e2]at hgv;exact⟨I,_,hx,hgv⟩
 refine⟨rfl,?_⟩;rcases znx s 0 hes with ⟨a,_,c⟩|⟨j,v,a,_,hj,⟨e,hej,hek⟩,c⟩
 ·obtain⟨I',FF',x,hr⟩:=key (es.push { key:=.string s,val:=.bool b,born:=clock }) (clock+1) (by rw[c];simp[hes]);refine⟨_,I',FF',?_,x,hr⟩;simp[Instr.mapUpdate,run_underlying hu,MapKept.run_getObj_map hg,hc,MapKept.run_findKey hk a,MapKept.run_setObj_map _ hg,Result.andThen]
 ·have hes2:(es.modify j fun e=>{ e with key:=.string s,val:=.bool b }).toList.map (fun e=>(e.key,e.val))=(mput m s b).map (fun x=>(Value.string x.1,Value.bool x.2)):=by
   rw[c];apply List.ext_getElem?;intro q
   have hq:=congrArg (·[q]?) hes
   simp only[List.getElem?_map,Array.getElem?_toList,Array.getElem?_modify,List.getElem?_set]at hq ⊢
   by_cases hjq:j=q
   ·subst hjq
    have hjm:j<m.length:=by
     have:=congrArg List.length hes;simp at this;have hj':j<es.size:=by simpa using hj
     omega
    have hj':j<es.size:=by simpa using hj
    simp[hjm,hj']
   ·simp only[if_neg hjq];exact hq
  obtain⟨I',FF',x,hr⟩:=key _ clock hes2;refine⟨_,I',FF',?_,x,hr⟩
  have hst:(Instr.keyThatStays (((es[j]?).map (·.key)).getD (.string s)) (.string s)).run P w = .ok (.string s) w:=by
   have:es[j]? = some e:=by simpa using hej
   rw[this];simp only[Option.map_some,Option.getD_some,hek];exact MapKept.run_keyThatStays (d:=.string) (by simp[MapKept.IsKey])
  have a':Instr.findNow .string (.string s) es.toList 0=some (some (j,.bool v)):=by simpa using a
  simp[Instr.mapUpdate,run_underlying hu,MapKept.run_getObj_map hg,hc,MapKept.run_findKey hk a',hst,MapKept.run_setObj_map _ hg,Result.andThen]
theorem yoc{T:TB}(hT:TBok P T)(h:RelH cx I FF ob w){ρ:Operand→AV}{a:Act}(hρ:∀ x,RelA cx I ob (ρ x) (a.eval x)){d:Nat}{o:Oper}{m:M (AV×List (Nat×Ent))}(hm:zdm T ρ d o.op=some m){av:AV}{ups:List (Nat×Ent)}{lg:List Nat}
  (he:(m ob).ev=some ((av,ups),lg)) {K:Act→World→Prop} {Q:Exit→Act→World→Prop}
  (hK:∀ I' FF' w' u,Ext I ob I' (ob.puts ups)→RelH cx I' FF' (ob.puts ups) w'→RelA cx I' (ob.puts ups) av u→K (a.put o.dst u) w'):o.wp P a w K Q:=by
 have base:DidN cx I ob ((execOp a.eval o).run P w) av ups→o.wp P a w K Q:=by
  rintro ⟨w',I',FF',x,hr,hh⟩;unfold Oper.wp;rcases hh with ⟨u,hrun,hrel⟩|⟨hrun,hav⟩
  ·rw[hrun];exact hK I' FF' w' u x hr hrel
  ·rw[hrun];subst hav;exact hK I' FF' w' undef x hr trivial
 obtain⟨dst,op,ty,pos,after,guard⟩:=o;simp only at hm;unfold zdm at hm;have val:∀ {x:Operand} {s:SV},ρ x = .one s→RelS cx I ob s (a.eval x):=fun {x s} hx=>by have:=hρ x;rw[hx]at this;exact this
 have put:∀ {t:TypeId} {m' k v:Operand} {oo:Nat} {s:ByteArray} {b:Bool},zd9 T t=true→ρ m' = .one (.mapr oo)→ρ k = .one (.str s)→ρ v = .one (.bool b)→(zn8 oo s b ob).ev=some ((av,ups),lg) →
   DidN cx I ob ((do Instr.mapUpdate t (a.eval m') (a.eval k) (a.eval v);pure Next.skip:Sem Next).run P w) av ups:=by
  intro t m' k v oo s b ht h1 h2 h3 he;have e2:a.eval k = .string s:=val h2;have e3:a.eval v = .bool b:=val h3;obtain⟨hav,w',I',FF',hrun,x,hr⟩:=ztq (P:=P) hT h ht (val h1) he;exact⟨w',I',FF',x,hr,.inr ⟨by rw[e2,e3];simp[hrun],hav⟩⟩
 split at hm
 ·rename_i t;split at hm
  ·injection hm with hm
   subst hm;exact base (Did.next (s:=Instr.makeMap t none) (ztr h he))
  ·cases hm
 ·rename_i t m' k v;split at hm
  ·rename_i oo s b ht h1 h2 h3;injection hm with hm
   subst hm;exact base (put ht h1 h2 h3 he)
  ·cases hm
 ·rename_i t m' k v;split at hm
  ·rename_i oo s b ht h1 h2 h3;injection hm with hm
   subst hm;exact base (put ht h1 h2 h3 he)
  ·cases hm
 ·rename_i t m' k;split at hm
  ·rename_i oo s ht h1 h2;injection hm with hm
   subst hm;have e2:a.eval k = .string s:=val h2;exact base (Did.next (s:=Instr.lookup t (a.eval m') (a.eval k) false) (by rw[e2];exact ztt hT h ht (val h1) he))
  ·cases hm
 ·rename_i c;split at hm
  ·rename_i t x hcal hty hargs;split at hm
   ·rename_i oo ht h1;injection hm with hm
    subst hm
    have hex:execOp a.eval ⟨dst,.call c,ty,pos,after,guard⟩=Go.builtin .len c.argTypes ty (c.args.map fun | .const _=>true|_=>false) (c.args.map a.eval):=by
     simp only[execOp,resolve,hcal];rfl
    refine base ?_;rw[hex];have e1:c.argTypes = #[t]:=by apply Array.ext';exact hty
    have e2:c.args.map a.eval = #[a.eval x]:=by apply Array.ext';rw[Array.toList_map,hargs];rfl
    rw[e1,e2];exact Did.next (s:=Builtin.len_ #[t] ty #[a.eval x]) (zts hT h ht (val h1) he)
   ·cases hm
  ·cases hm
 ·cases hm
end
end Go.Proofs.Ytbjgiioppmkpiaa.Rx

namespace Go.Proofs.Ytbjgiioppmkpiaa.Rx
open Go Go.RowKit
def okOf:(rs:List RK)→zah rs→Option Bool
 | [_,.val .bool false],y=>some y.2.1
 |_,_=>none
def agg0:List AV→Option (List SV)
 | .agg cs::_=>some cs
 |_=>none
def aNo (s3:Sm) (n:Nat) (cs:List SV) (as:List AV) (d:Nat):M (AV × List (Nat × Ent)):=M.bind (zib s3 n as d) fun r=>(match r.1 with
 | .one (.bool b)=>M.bind (M.test (!b)) fun _=>M.pure (.tup [(true,cs),(false,[.bool false])],r.2)
 |_=>M.fail)
def zze(s s3:Sm)(n:Nat)(cs:List SV)(as:List AV)(d:Nat):M (AV×List (Nat×Ent)) :=
 M.bind (zui s.st s.ps as []) fun r=>M.bind (M.call (s.F n r.1)) fun y=>(match okOf s.rs y.1 with
  |some b=>M.split b (zib s n as d) (aNo s3 n cs as d)
  |none=>M.fail)
def aR(Γ:Gam)(n:Nat)(ρ:Operand→AV)(d:Nat):Op→Option (M (AV×List (Nat×Ent)))
 | .call c=>(match c.callee with
  | .value (.func f)=>(match ze4 f,Γ (f + 3000000),Γ f,agg0 (c.args.toList.map ρ) with
   |true,some s3,some s,some cs=>some (zze s s3 n cs (c.args.toList.map ρ) d)
   |_,_,_,_=>none)
  |_=>none)
 |_=>none
section
variable{P:Program}{cx:Cx}{I:In}{FF:Nat→List Nat}{ob:Ob}{w:World}
theorem plus3(f:Nat)(h1:f / 1000000=0):(f+3000000) / 1000000=3∧(f+3000000) % 1000000=f:=by omega
theorem GamOK.three {Γ : Gam} (h : GamOK P Γ) {f' f : FuncId} {s : Sm} (hg : Γ f' = some s) (h1 : f' / 1000000 = 3) (h2 : f' % 1000000 = f) : (∃ fn c, P.funcs[f]? = some fn ∧ fn.body = some c ∧ (fn.name == "runtime.NumGoroutine") = false) ∧ zeh (CS P f) s := by
 have h0:=h f' s hg;unfold ze6 at h0;rw[h1,h2]at h0;exact h0
theorem r_wp{Γ:Gam}(hΓ:GamOK P Γ)(h:RelH cx I FF ob w){n:Nat}{ρ:Operand→AV}{a:Act}(hρ:∀ x,RelA cx I ob (ρ x) (a.eval x)){d:Nat}{o:Oper}{m:M (AV×List (Nat×Ent))}(hm:aR Γ n ρ d o.op=some m)
  {av:AV} {ups:List (Nat×Ent)} {lg:List Nat} (he:(m ob).ev=some ((av,ups),lg)) {K:Act→World→Prop} {Q:Exit→Act→World→Prop}
  (hK:∀ I' FF' w' u,Ext I ob I' (ob.puts ups)→RelH cx I' FF' (ob.puts ups) w'→RelA cx I' (ob.puts ups) av u→K (a.put o.dst u) w'):o.wp P a w K Q:=by
 generalize hop:o.op=op at hm;unfold aR at hm;split at hm
 ·rename_i c;split at hm
  ·rename_i f hcal;split at hm
   ·rename_i s3 s cs hp hg3 hg hag;injection hm with hm
    subst hm
    have hv:F2 (RelA cx I ob) (c.args.toList.map ρ) (c.args.toList.map a.eval):=by
     clear hag he;generalize c.args.toList=l
     induction l with
     |nil=>trivial
     |cons x l ih=>exact⟨hρ x,ih⟩
    have e:(c.args.toList.map a.eval).toArray=c.args.map a.eval:=by apply Array.ext';simp
    obtain⟨⟨fn,cd,hf,hb,hnm⟩,hH⟩:=hΓ.plain hg hp;have hpf:=plus3 f (zcc f hp).1;obtain⟨_,hH3⟩:=hΓ.three hg3 hpf.1 hpf.2
    have hrun:(execOp a.eval o).run P w = .ok (.enter f (c.args.map a.eval)) w:=by
     unfold execOp;simp only[hop,resolve,hcal,Act.eval,Deferred.ofValue,Sem.run_bind,Sem.run_pure,Result.andThen_ok,invoke,callFunc,run_program,hf,hnm,hb,Array.empty_append,Array.append_empty];simp
    unfold zze at he;obtain⟨r,l1,l2,_,he2,rfl⟩:=M.ev_bind he;obtain⟨y,l3,l4,_,he4,rfl⟩:=M.ev_bind he2
    cases hok:okOf s.rs y.1 with
    |none=>simp only[hok]at he4;exact(M.ev_fail (ob:=ob) he4).elim
    |some b =>
     simp only[hok]at he4;rcases M.ev_split he4 with ⟨_,he5⟩|⟨_,he5⟩
     ·have hcall:=zn3 hH h hv he5;rw[e]at hcall;unfold Oper.wp;rw[hrun];refine Calls.mono hcall ?_;rintro e w' ⟨u,rfl,I',FF',x,hr,hrel⟩;exact hK I' FF' w' u x hr hrel
     ·unfold aNo at he5;obtain⟨⟨av1,ups1⟩,l5,l6,he6,he7,_⟩:=M.ev_bind he5
      cases av1 with
      |one sv =>
       cases sv with
       |bool bb =>
        simp only at he7;obtain⟨_,l7,l8,he8,he9,_⟩:=M.ev_bind he7;have hbb:bb=false:=by simpa using M.ev_test he8
        subst hbb;have hpu:=M.ev_pure (ob:=ob) he9;injection hpu with e1 e2
        subst e1;subst e2;obtain⟨F,_,hC⟩:=zee (C:=CS P f) (fun _ _ _ _ _ h hc=>CS.mono h hc) hH3 h hv he6
        cases hl:c.args.toList with
        |nil=>rw[hl]at hag;cases hag
        |cons x xs =>
         rw[hl]at hag hv hC
         have hx:ρ x = .agg cs:=by
          simp only[List.map_cons]at hag;unfold agg0 at hag;split at hag
          ·rename_i cs' _ hh;injection hag with hag
           subst hag;injection hh
          ·cases hag
         have hcall:=hC (a.eval x) (xs.map a.eval) rfl;have e':((x::xs).map a.eval).toArray=c.args.map a.eval:=by rw[← hl];exact e
         rw[e']at hcall;unfold Oper.wp;rw[hrun];refine Calls.mono hcall ?_;rintro e0 w' ⟨rr,rfl,u,hu,I',FF',x1,hr,hrel⟩;injection hu with hu
         subst hu;refine hK I' FF' w' _ x1 hr ⟨#[a.eval x,rr],rfl,?_,?_,trivial⟩
         ·have h0:=(hρ x).ext x1;rw[hx]at h0;exact h0
         ·exact⟨_,rfl,hrel⟩
       |_=>simp only at he7;exact(M.ev_fail (ob:=ob) he7).elim
      |_=>simp only at he7;exact(M.ev_fail (ob:=ob) he7).elim
   ·cases hm
  ·cases hm
 ·cases hm
end
end Go.Proofs.Ytbjgiioppmkpiaa.Rx

