/- Plain laws of those functions, no program in sight: the law answers true on all data. No condition. -/
import GoSem.Claim
import Derived.Test.YtdkaagpkeomhmaaJF1
set_option linter.unusedVariables false
set_option linter.unusedSimpArgs false
namespace Go.Proofs.Ytdkaagpkeomhmaa.Rx.Pu
open Go
theorem wr{x:Int}(h0:-9223372036854775808≤x)(h1:x≤9223372036854775807):IntKind.i64.wrap x=x:=by
 have e1:(2:Int) ^ IntKind.i64.bits=18446744073709551616:=rfl
 have e2:(2:Int) ^ (IntKind.i64.bits - 1)=9223372036854775808:=rfl
 have e3:IntKind.i64.signed=true:=rfl
 unfold IntKind.wrap
 simp only[e1,e2,e3,Bool.true_and,decide_eq_true_eq]
 split <;> omega
theorem zaa(i:Nat):((i:Int)).toNat=i:=rfl
theorem zv_{a b:Int}(ha:0≤a)(ha2:a<4611686018427387904)(hb:0≤b)(hb2:b<4611686018427387904) :
  0≤IntKind.i64.wrap ((BitVec.ofInt IntKind.i64.bits a ^^^ BitVec.ofInt IntKind.i64.bits b).toNat:Int):=by
 have e0:IntKind.i64.bits=64:=rfl
 obtain⟨m,rfl⟩:=Int.eq_ofNat_of_zero_le ha
 obtain⟨k,rfl⟩:=Int.eq_ofNat_of_zero_le hb
 have hm:m<2 ^ 62:=by omega
 have hk:k<2 ^ 62:=by omega
 have hx:m ^^^ k<2 ^ 62:=Nat.xor_lt_two_pow hm hk
 have e:(BitVec.ofInt IntKind.i64.bits (m:Int) ^^^ BitVec.ofInt IntKind.i64.bits (k:Int)).toNat=m ^^^ k:=by
  have h1:∀ j:Nat,j<2 ^ 62→(BitVec.ofInt IntKind.i64.bits (j:Int)).toNat=j:=by
   intro j hj
   rw[BitVec.toNat_ofInt]
   have e9:((2 ^ IntKind.i64.bits:Nat):Int)=18446744073709551616:=rfl
   rw[e9]
   omega
  rw[BitVec.toNat_xor,h1 m hm,h1 k hk]
 rw[e,wr (by omega) (by omega)]
 omega
theorem zen{a b:Int}(ha:0≤a)(hb:1≤b):0≤a.tmod b∧a.tmod b<b:=by
 rw[Int.tmod_eq_emod_of_nonneg ha]
 exact⟨Int.emod_nonneg _ (by omega),Int.emod_lt_of_pos _ (by omega)⟩
theorem zm0{a b:Int}(ha:0≤a)(hb:1≤b):0≤a.tdiv b∧a.tdiv b≤a:=by
 rw[Int.tdiv_eq_ediv_of_nonneg ha]
 exact⟨Int.ediv_nonneg ha (by omega),Int.ediv_le_self _ ha⟩
end Go.Proofs.Ytdkaagpkeomhmaa.Rx.Pu
namespace Go.Proofs.Ytdkaagpkeomhmaa.Rx.S
open Go Go.Proofs.Ytdkaagpkeomhmaa.Rx Go.Proofs.Ytdkaagpkeomhmaa.Rx.Pu
set_option maxRecDepth 100000
abbrev Pg:=List ByteArray×List Int
abbrev Ar:=Int×Int×Bool×Bool
abbrev Sp:=Bool×List Ar×List Ar
abbrev Me:=Pg×Pg×List Sp×Int
def isT(kd a:Int)(x:Ar):Bool:=decide (x.1=kd)&&decide (x.2.1=a)
def cnt(kd a:Int)(l:List Ar):Nat:=l.countP (isT kd a)
def told(kd a:Int)(S:List Sp):Nat:=(S.map fun s=>cnt kd a s.2.2).sum
def mapS(g:Ar→Ar)(S:List Sp):List Sp:=S.map fun s=>(s.1,s.2.1,s.2.2.map g)
def zbe(k a k' a':Int)(x:Ar):Ar:=if x.1=k∧x.2.1=a then (k',a',x.2.2.1,x.2.2.2) else x
def zbv(a:Int)(x:Ar):Ar:=if x.1=1∧x.2.1=a then (x.1,x.2.1,x.2.2.1,false) else x
theorem lt_t{i n:Nat}(h:i<n):decide ((i:Int)<(n:Int))=true:=by simp;omega
theorem lt_f(n:Nat):decide ((n:Int)<(n:Int))=false:=by simp
theorem ge_t(i:Nat):decide ((0:Int)≤(i:Int))=true:=by simp
theorem wS{i:Nat}(h:i≤1000000):IntKind.i64.wrap ((i:Int)+1)=((i+1:Nat):Int):=by rw[wr (by omega) (by omega)];omega
theorem zbo{α:Type}(pre:List α)(s:α)(post:List α)(d:α):(pre++s::post).getD pre.length d=s:=by simp
theorem zwr{α:Type}(pre:List α)(s s':α)(post:List α):(pre++s::post).set pre.length s'=pre++s'::post:=by simp
theorem yiq{α:Type}(pre:List α)(s:α)(post:List α):pre.length<(pre++s::post).length:=by simp
theorem zcv{α:Type}(pre:List α)(s:α)(post:List α):decide ((pre.length:Int)<((pre++s::post).length:Int))=true:=lt_t (yiq pre s post)
theorem znh(n:Nat)(g2:Int→Int→Int→Int→Int→Int→Int→List ByteArray→List Int→List ByteArray→List Int→List Sp→Option R174)(k a k' a' x6 x7:Int)(x8:List ByteArray)(x9:List Int)(x10:List ByteArray)(x11:List Int)(pre post:List Sp)(b:Bool)(ar:List Ar) :
  ∀ (rest done:List Ar) (m:Nat),rest.length<m→done.length+rest.length≤1000→zoq g2 n m k a k' a' (pre.length:Int) (done.length:Int) x6 x7 x8 x9 x10 x11 (pre++(b,ar,done++rest)::post)=g2 k a k' a' (IntKind.i64.wrap ((pre.length:Int)+1)) x6 x7 x8 x9 x10 x11 (pre++(b,ar,done++rest.map (zbe k a k' a'))::post)
 | [],done,0,h,_=>by simp at h
 | [],done,m+1,h,hl=>by
  show zex n _ _ _ _ _ _ _ _ _ _ _ _ _ _ _=_
  simp only[zex,ge_t,zcv,zaa,zbo,List.append_nil,lt_f,cond_true,cond_false,List.map_nil]
 |x::rest,done,0,h,_=>by simp at h
 |x::rest,done,m+1,h,hl=>by
  have ih:=znh n g2 k a k' a' x6 x7 x8 x9 x10 x11 pre post b ar rest (done++[zbe k a k' a' x]) m (by simp at h;omega) (by simp at hl ⊢;omega)
  simp only[List.length_append,List.length_cons,List.length_nil,List.append_assoc,List.cons_append,List.nil_append,Nat.zero_add]at ih
  show zex n _ _ _ _ _ _ _ _ _ _ _ _ _ _ _=_
  simp only[zex,ge_t,zcv,zaa,zbo,cond_true,zwr,wS (show done.length≤1000000 by simp at hl;omega)]
  rw[List.map_cons,← ih]
  by_cases h1:x.1=k
  ·by_cases h2:x.2.1=a
   ·simp only[h1,h2,decide_true,cond_true,zbe,and_self,if_true]
   ·simp only[h1,h2,decide_true,decide_false,cond_true,cond_false,zbe,and_false,if_false]
  ·simp only[h1,decide_false,cond_false,zbe,false_and,if_false]
theorem zni(n:Nat)(hn:2000≤n)(k a k' a' x5 x6:Int)(x7:List ByteArray)(x8:List Int)(x9:List ByteArray)(x10:List Int) :
  ∀ (post pre:List Sp) (m:Nat),post.length<m→pre.length+post.length≤1000→(∀ s∈post,s.2.2.length≤1000)→zld n m k a k' a' (pre.length:Int) x5 x6 x7 x8 x9 x10 (pre++post)=some ((((x7,x8),((x9,x10),(pre++mapS (zbe k a k' a') post,x5))),()),())
 | [],pre,0,h,_,_=>by simp at h
 | [],pre,m+1,h,hl,_=>by
  show zey n _ _ _ _ _ _ _ _ _ _ _ _ _=_
  simp only[zey,List.append_nil,lt_f,cond_false,mapS,List.map_nil]
 |s::post,pre,0,h,_,_=>by simp at h
 |s::post,pre,m+1,h,hl,hs=>by
  have ih:=zni n hn k a k' a' x5 x6 x7 x8 x9 x10 post (pre++[(s.1,s.2.1,s.2.2.map (zbe k a k' a'))]) m (by simp at h;omega) (by simp at hl ⊢;omega) (fun t ht=>hs t (List.mem_cons_of_mem _ ht))
  simp only[List.length_append,List.length_cons,List.length_nil,List.append_assoc,List.cons_append,List.nil_append,Nat.zero_add]at ih
  have hs0:=hs s List.mem_cons_self
  have h5:=znh n (zld n m) k a k' a' x5 x6 x7 x8 x9 x10 pre post s.1 s.2.1 s.2.2 [] n (by omega) (by simpa using hs0)
  simp only[List.nil_append]at h5
  show zey n _ _ _ _ _ _ _ _ _ _ _ _ _=_
  simp only[zey,zcv,cond_true]
  refine h5.trans ?_
  rw[wS (by simp at hl;omega),ih]
  simp only[mapS,List.map_cons]
theorem zw3(n:Nat)(hn:2000≤n)(M:Me)(k a k' a':Int)(hl:M.2.2.1.length≤1000)(hs:∀ s∈M.2.2.1,s.2.2.length≤1000):q174 n (M,k,a,k',a',())=some (((M.1,M.2.1,mapS (zbe k a k' a') M.2.2.1,M.2.2.2),()),()):=by
 have:=zni n hn k a k' a' M.2.2.2 0 M.1.1 M.1.2 M.2.1.1 M.2.1.2 M.2.2.1 [] n (by omega) (by simpa using hl) hs
 simp only[List.nil_append,List.length_nil]at this
 exact this
theorem znd(n:Nat)(g3:Int→Bool→Int→Int→Int→List ByteArray→List Int→List ByteArray→List Int→List Sp→Option R181)(a x4 x5:Int)(x6:List ByteArray)(x7:List Int)(x8:List ByteArray)(x9:List Int)(pre post:List Sp)(b:Bool)(ar:List Ar) :
  ∀ (rest done:List Ar) (m:Nat) (u:Bool),rest.length<m→done.length+rest.length≤1000→zoo g3 n m a u (pre.length:Int) (done.length:Int) x4 x5 x6 x7 x8 x9 (pre++(b,ar,done++rest)::post)=g3 a (u || rest.any fun x=>isT 1 a x&&x.2.2.2) (IntKind.i64.wrap ((pre.length:Int)+1)) x4 x5 x6 x7 x8 x9 (pre++(b,ar,done++rest.map (zbv a))::post)
 | [],done,0,u,h,_=>by simp at h
 | [],done,m+1,u,h,hl=>by
  show zeq n _ _ _ _ _ _ _ _ _ _ _ _ _=_
  simp only[zeq,ge_t,zcv,zaa,zbo,List.append_nil,lt_f,cond_true,cond_false,List.map_nil,List.any_nil,Bool.or_false]
 |x::rest,done,0,u,h,_=>by simp at h
 |x::rest,done,m+1,u,h,hl=>by
  have ih:=fun u'=>znd n g3 a x4 x5 x6 x7 x8 x9 pre post b ar rest (done++[zbv a x]) m u' (by simp at h;omega) (by simp at hl ⊢;omega)
  simp only[List.length_append,List.length_cons,List.length_nil,List.append_assoc,List.cons_append,List.nil_append,Nat.zero_add]at ih
  show zeq n _ _ _ _ _ _ _ _ _ _ _ _ _=_
  simp only[zeq,ge_t,zcv,zaa,zbo,cond_true,zwr,wS (show done.length≤1000000 by simp at hl;omega)]
  rw[List.map_cons,List.any_cons,← Bool.or_assoc,← ih]
  by_cases h1:x.1=1
  ·by_cases h2:x.2.1=a
   ·cases u <;> simp only[h1,h2,decide_true,cond_true,cond_false,zbv,isT,and_self,if_true,Bool.true_and,Bool.true_or,Bool.false_or,Bool.and_self]
   ·simp only[h1,h2,decide_true,decide_false,cond_true,cond_false,zbv,isT,and_false,if_false,Bool.and_false,Bool.false_and,Bool.or_false]
  ·simp only[h1,decide_false,cond_false,zbv,isT,false_and,if_false,Bool.false_and,Bool.or_false]
def zfr(a:Int)(S:List Sp):Bool:=S.any fun s=>s.2.2.any fun x=>isT 1 a x&&x.2.2.2
theorem zne(n:Nat)(hn:2000≤n)(a x3 x4:Int)(x5:List ByteArray)(x6:List Int)(x7:List ByteArray)(x8:List Int) :
  ∀ (post pre:List Sp) (m:Nat) (u:Bool),post.length<m→pre.length+post.length≤1000→(∀ s∈post,s.2.2.length≤1000)→zk_ n m a u (pre.length:Int) x3 x4 x5 x6 x7 x8 (pre++post)=some ((((x5,x6),((x7,x8),(pre++mapS (zbv a) post,x3))),(u || zfr a post,())),())
 | [],pre,0,u,h,_,_=>by simp at h
 | [],pre,m+1,u,h,hl,_=>by
  show zer n _ _ _ _ _ _ _ _ _ _ _=_
  simp only[zer,List.append_nil,lt_f,cond_false,mapS,List.map_nil,zfr,List.any_nil,Bool.or_false]
 |s::post,pre,0,u,h,_,_=>by simp at h
 |s::post,pre,m+1,u,h,hl,hs=>by
  have ih:=fun u'=>zne n hn a x3 x4 x5 x6 x7 x8 post (pre++[(s.1,s.2.1,s.2.2.map (zbv a))]) m u' (by simp at h;omega) (by simp at hl ⊢;omega) (fun t ht=>hs t (List.mem_cons_of_mem _ ht))
  simp only[List.length_append,List.length_cons,List.length_nil,List.append_assoc,List.cons_append,List.nil_append,Nat.zero_add]at ih
  have hs0:=hs s List.mem_cons_self
  have h5:=znd n (zk_ n m) a x3 x4 x5 x6 x7 x8 pre post s.1 s.2.1 s.2.2 [] n u (by omega) (by simpa using hs0)
  simp only[List.nil_append]at h5
  show zer n _ _ _ _ _ _ _ _ _ _ _=_
  simp only[zer,zcv,cond_true]
  refine h5.trans ?_
  rw[wS (by simp at hl;omega),ih]
  simp only[mapS,List.map_cons,zfr,List.any_cons,Bool.or_assoc]
theorem yh8(n:Nat)(hn:2000≤n)(M:Me)(a:Int)(hl:M.2.2.1.length≤1000)(hs:∀ s∈M.2.2.1,s.2.2.length≤1000):q181 n (M,a,())=some (((M.1,M.2.1,mapS (zbv a) M.2.2.1,M.2.2.2),(zfr a M.2.2.1,())),()):=by
 have:=zne n hn a M.2.2.2 0 M.1.1 M.1.2 M.2.1.1 M.2.1.2 M.2.2.1 [] n false (by omega) (by simpa using hl) hs
 simp only[List.nil_append,List.length_nil,Bool.false_or]at this
 exact this
theorem za2{kd a:Int}{x:Ar}:isT kd a x=true↔x.1=kd∧x.2.1=a:=by simp[isT]
theorem zrj(kd a:Int)(l:List Ar):cnt kd a l≤l.length:=List.countP_le_length
theorem zbq(kd a:Int)(s:Sp)(S:List Sp):told kd a (s::S)=cnt kd a s.2.2+told kd a S:=by simp[told]
theorem yaj(kd a:Int):told kd a []=0:=rfl
theorem zb0(kd a:Int)(x:Ar)(l:List Ar):cnt kd a (x::l)=cnt kd a l+(if isT kd a x then 1 else 0):=by simp[cnt,List.countP_cons]
theorem ykk{kd a:Int}{l:List Ar}{x:Ar}(hx:x∈l)(h:isT kd a x=true):0<cnt kd a l:=List.countP_pos_iff.2 ⟨x,hx,h⟩
theorem zcy{kd a:Int}:∀ {S:List Sp} {s:Sp} {x:Ar},s∈S→x∈s.2.2→isT kd a x=true→0<told kd a S
 |t::S,s,x,hs,hx,h=>by
  rw[zbq]
  rcases List.mem_cons.1 hs with rfl|hs
  ·have:=ykk hx h;omega
  ·have:=zcy hs hx h;omega
theorem zem(kd a:Int)(s':Sp):∀ (S:List Sp) (w:Nat),w<S.length→told kd a (S.set w s')+cnt kd a (S.getD w (false,[],[])).2.2=told kd a S+cnt kd a s'.2.2
 | [],w,h=>by simp at h
 |s::S,0,h=>by simp only[List.set_cons_zero,zbq,List.getD_cons_zero];omega
 |s::S,w+1,h=>by
  have:=zem kd a s' S w (by simp at h;omega)
  simp only[List.set_cons_succ,zbq,List.getD_cons_succ];omega
theorem zy9(kd a:Int)(y:Ar):∀ (l:List Ar) (p:Nat),p<l.length→cnt kd a (l.set p y)+(if isT kd a (l.getD p (0,0,false,false)) then 1 else 0)=cnt kd a l+(if isT kd a y then 1 else 0)
 | [],p,h=>by simp at h
 |x::l,0,h=>by simp only[List.set_cons_zero,zb0,List.getD_cons_zero];omega
 |x::l,p+1,h=>by
  have:=zy9 kd a y l p (by simp at h;omega)
  simp only[List.set_cons_succ,zb0,List.getD_cons_succ];omega
theorem ziu{kd a:Int}{g:Ar→Ar}(h:∀ x,isT kd a (g x)=isT kd a x):∀ l:List Ar,cnt kd a (l.map g)=cnt kd a l
 | []=>rfl
 |x::l=>by rw[List.map_cons,zb0,zb0,ziu h l,h]
theorem zdp{kd a:Int}{g:Ar→Ar}(h:∀ x,isT kd a (g x)=isT kd a x):∀ S:List Sp,told kd a (mapS g S)=told kd a S
 | []=>rfl
 |s::S=>by
  have:=zdp h S
  simp only[mapS,List.map_cons,zbq]at this ⊢
  rw[this,ziu h]
theorem ycz(kd a b:Int)(x:Ar):isT kd a (zbv b x)=isT kd a x:=by unfold zbv isT;split <;> rfl
theorem zpp(kd a b:Int)(S:List Sp):told kd a (mapS (zbv b) S)=told kd a S:=zdp (ycz kd a b) S
theorem zmr{kd i k a k' a':Int}(h1:¬(kd=k'∧i=a'))(h2:¬(kd=k∧i=a))(x:Ar):isT kd i (zbe k a k' a' x)=isT kd i x:=by
 unfold zbe
 split
 ·rename_i h
  have e1:isT kd i (k',a',x.2.2.1,x.2.2.2)=false:=by
   rw[Bool.eq_false_iff];intro hh;exact h1 ⟨(za2.1 hh).1.symm,(za2.1 hh).2.symm⟩
  have e2:isT kd i x=false:=by
   rw[Bool.eq_false_iff];intro hh;exact h2 ⟨(za2.1 hh).1.symm.trans h.1,(za2.1 hh).2.symm.trans h.2⟩
  rw[e1,e2]
 ·rfl
theorem zby{kd i k a k' a':Int}(h1:¬(kd=k'∧i=a'))(h2:¬(kd=k∧i=a))(S:List Sp):told kd i (mapS (zbe k a k' a') S)=told kd i S:=zdp (zmr h1 h2) S
theorem zhh{k a k' a':Int}(hne:¬(k=k'∧a=a')):∀ l:List Ar,cnt k a (l.map (zbe k a k' a'))=0
 | []=>rfl
 |x::l=>by
  rw[List.map_cons,zb0,zhh hne l]
  have:isT k a (zbe k a k' a' x)=false:=by
   rw[Bool.eq_false_iff];intro hh
   have:=za2.1 hh
   unfold zbe at this
   split at this
   ·exact hne ⟨this.1.symm,this.2.symm⟩
   ·rename_i h;exact h this
  rw[this];rfl
theorem zc7{k a k' a':Int}(hne:¬(k=k'∧a=a')):∀ S:List Sp,told k a (mapS (zbe k a k' a') S)=0
 | []=>rfl
 |s::S=>by
  have:=zc7 hne S
  simp only[mapS,List.map_cons,zbq]at this ⊢
  rw[this,zhh hne]
theorem zl6{k a k' a':Int}(hne:¬(k=k'∧a=a')):∀ l:List Ar,cnt k' a' (l.map (zbe k a k' a'))=cnt k' a' l+cnt k a l
 | []=>rfl
 |x::l=>by
  rw[List.map_cons,zb0,zl6 hne l,zb0,zb0]
  by_cases h:x.1=k∧x.2.1=a
  ·have e1:zbe k a k' a' x=(k',a',x.2.2.1,x.2.2.2):=by unfold zbe;rw[if_pos h]
   have e2:isT k' a' (zbe k a k' a' x)=true:=by rw[e1];exact za2.2 ⟨rfl,rfl⟩
   have e3:isT k' a' x=false:=by
    rw[Bool.eq_false_iff];intro hh
    have:=za2.1 hh
    exact hne ⟨h.1.symm.trans this.1,h.2.symm.trans this.2⟩
   have e4:isT k a x=true:=za2.2 h
   simp only[e2,e3,e4,if_true]
   simp
   omega
  ·have e1:zbe k a k' a' x=x:=by unfold zbe;rw[if_neg h]
   have e4:isT k a x=false:=by
    rw[Bool.eq_false_iff];intro hh;exact h (za2.1 hh)
   rw[e1,e4]
   simp
   omega
theorem zdz{k a k' a':Int}(hne:¬(k=k'∧a=a')):∀ S:List Sp,told k' a' (mapS (zbe k a k' a') S)=told k' a' S+told k a S
 | []=>rfl
 |s::S=>by
  have:=zdz hne S
  simp only[mapS,List.map_cons,zbq]at this ⊢
  rw[this,zl6 hne]
  omega
structure PgI(kd:Int)(P:Pg)(S:List Sp):Prop where
 l1:P.1.length=12
 l2:P.2.length=12
 c:∀ i:Nat,i<12→P.2.getD i 0=(told kd i S:Int)
 s:∀ i:Nat,i<12→P.2.getD i 0≠0→(P.1.getD i ByteArray.empty).size=4
def SlI(x:Ar):Prop:=0≤x.1∧x.1≤2∧(x.1≠0→0≤x.2.1∧x.2.1<12)
structure RwI(s:Sp):Prop where
 ar:s.2.1.length≤6
 lv:s.1=true→s.2.2.length=16
 dd:s.1=false→s.2.2=[]
 sl:∀ x∈s.2.2,SlI x
structure SpI(S:List Sp):Prop where
 len:S.length=5
 rw:∀ s∈S,RwI s
structure MI(m:Me):Prop where
 sp:SpI m.2.2.1
 ram:PgI 1 m.1 m.2.2.1
 swp:PgI 2 m.2.1 m.2.2.1
 h0:0≤m.2.2.2
 h1:m.2.2.2<12
theorem RwI.len{s:Sp}(h:RwI s):s.2.2.length≤16:=by
 cases hb:s.1 with
 |true=>rw[h.lv hb];decide
 |false=>rw[h.dd hb];decide
theorem zwe:∀ {S:List Sp},(∀ s∈S,RwI s)→∀ kd a,told kd a S≤16*S.length
 | [],_,kd,a=>Nat.zero_le _
 |s::S,h,kd,a=>by
  rw[zbq]
  have h1:=zwe (fun t ht=>h t (List.mem_cons_of_mem _ ht)) kd a
  have h2:=zrj kd a s.2.2
  have h3:=(h s List.mem_cons_self).len
  simp only[List.length_cons]
  omega
theorem SpI.told{S:List Sp}(h:SpI S)(kd a:Int):told kd a S≤80:=by
 have:=zwe h.rw kd a
 rw[h.len]at this
 exact this
theorem zai{α:Type}{l:List α}{i:Nat}{d:α}(h:i<l.length):l.getD i d∈l:=by
 rw[List.getD_eq_getElem?_getD,List.getElem?_eq_getElem h];exact List.getElem_mem h
theorem SpI.map{S:List Sp}(h:SpI S){g:Ar→Ar}(hg:∀ x,SlI x→SlI (g x)):SpI (mapS g S):=by
 refine⟨by simp[mapS,h.len],fun s hs=>?_⟩
 simp only[mapS,List.mem_map]at hs
 obtain⟨t,ht,rfl⟩:=hs
 have hr:=h.rw t ht
 refine⟨hr.ar,fun hb=>by simpa using hr.lv hb,fun hb=>by simp[hr.dd hb],fun x hx=>?_⟩
 obtain⟨y,hy,rfl⟩:=List.mem_map.1 hx
 exact hg y (hr.sl y hy)
theorem SpI.set{S:List Sp}(h:SpI S){w:Nat}{s:Sp}(hs:RwI s):SpI (S.set w s):=by
 refine⟨by simp[h.len],fun t ht=>?_⟩
 rcases List.mem_or_eq_of_mem_set ht with ht|rfl
 ·exact h.rw t ht
 ·exact hs
theorem RwI.set{s:Sp}(h:RwI s){p:Nat}{y:Ar}(hy:SlI y):RwI (s.1,s.2.1,s.2.2.set p y):=by
 refine⟨h.ar,fun hb=>by simpa using h.lv hb,fun hb=>by simp[h.dd hb],fun x hx=>?_⟩
 rcases List.mem_or_eq_of_mem_set hx with hx|rfl
 ·exact h.sl x hx
 ·exact hy
theorem yao{a:Int}{x:Ar}(h:SlI x):SlI (zbv a x):=by
 unfold zbv;split <;> exact h
theorem zth{k a k' a':Int}{x:Ar}(hk:0≤k'∧k'≤2)(ha:0≤a'∧a'<12)(h:SlI x):SlI (zbe k a k' a' x):=by
 unfold zbe;split
 ·exact⟨hk.1,hk.2,fun _=>ha⟩
 ·exact h
theorem zua(g:Ar→Ar)(S:List Sp):(mapS g S).length=S.length:=by simp[mapS]
theorem zqy(g f:Ar→Ar)(S:List Sp):mapS g (mapS f S)=mapS (fun x=>g (f x)) S:=by simp[mapS]
theorem zqx(g:Ar→Ar)(S:List Sp){w:Nat}(h:w<S.length):(mapS g S).getD w (false,[],[])=((S.getD w (false,[],[])).1,(S.getD w (false,[],[])).2.1,(S.getD w (false,[],[])).2.2.map g):=by
 simp[mapS,List.getD_eq_getElem?_getD,List.getElem?_eq_getElem h]
theorem ycm{g:Ar→Ar}{l:List Ar}{p:Nat}(h:p<l.length):(l.map g).getD p (0,0,false,false)=g (l.getD p (0,0,false,false)):=by
 simp[List.getD_eq_getElem?_getD,List.getElem?_eq_getElem h]
def ff(l:List Int):Nat:=l.findIdx fun x=>decide (x=0)
theorem zny{l:List Int}(h:ff l<l.length):l.getD (ff l) 0=0:=by
 have this:decide (l[ff l]=0)=true:=List.findIdx_getElem (w:=h)
 rw[List.getD_eq_getElem?_getD,List.getElem?_eq_getElem h]
 exact of_decide_eq_true this
theorem znj(n:Nat)(b:ByteArray)(t:List ByteArray)(l:List Int)(htl:t.length=l.length)(hs:l.length≤1000):∀ (rest done:List Int) (m:Nat),done++rest=l→rest.length<m →
  (∀ x∈done,x≠0)→zor n m b (done.length:Int) t l=some (if ff l<l.length then ((t.set (ff l) b,l.set (ff l) 1),((ff l:Int),())) else ((t,l),(-1,())),())
 | [],done,0,hd,h,_=>by simp at h
 | [],done,m+1,hd,h,hz=>by
  show zez n _ _ _ _ _=_
  have hd':done=l:=by simpa using hd
  subst hd'
  have hf:¬ ff done<done.length:=by
   intro hh
   have h1:=zny hh
   exact hz _ (zai hh) h1
  simp only[zez,lt_f,cond_false,if_neg hf]
 |x::rest,done,0,hd,h,_=>by simp at h
 |x::rest,done,m+1,hd,h,hz=>by
  have hl:done.length<l.length:=by rw[← hd];simp
  have hg:l.getD done.length 0=x:=by rw[← hd];simp
  show zez n _ _ _ _ _=_
  simp only[zez,lt_t hl,ge_t,cond_true,zaa,hg,lt_t (show done.length<t.length by omega)]
  by_cases hx:x=0
  ·have hf:ff l=done.length:=by
    rw[← hd,ff,List.findIdx_append,List.findIdx_eq_length_of_false (by simpa using hz)]
    simp[List.findIdx_cons,hx]
   simp only[hx,decide_true,cond_true,hf,if_pos hl]
  ·simp only[hx,decide_false,cond_false]
   have ih:=znj n b t l htl hs rest (done ++ [x]) m (by simpa using hd) (by simp at h; omega) (by
    intro y hy
    rcases List.mem_append.1 hy with hy|hy
    ·exact hz y hy
    ·rw[List.mem_singleton.1 hy];exact hx)
   simp only[List.length_append,List.length_cons,List.length_nil,Nat.zero_add]at ih
   rw[wS (by omega),ih]
theorem zoi(n:Nat)(hn:2000≤n)(P:Pg)(b:ByteArray)(htl:P.1.length=P.2.length)(hs:P.2.length≤1000):q172 n (P,b,())=some (if ff P.2<P.2.length then ((P.1.set (ff P.2) b,P.2.set (ff P.2) 1),((ff P.2:Int),())) else (P,(-1,())),()) :=
 znj n b P.1 P.2 htl hs P.2 [] n rfl (by omega) (fun _ h=>by simp at h)
theorem znf(n:Nat)(t:List ByteArray)(l:List Int)(hs:l.length≤1000):∀ (rest done:List Int) (m c:Nat),done++rest=l→rest.length<m→c≤done.length →
  zop n m (c:Int) (done.length:Int) t l=some ((((c+rest.countP fun x=>decide (x=0):Nat):Int),()),())
 | [],done,0,c,hd,h,_=>by simp at h
 | [],done,m+1,c,hd,h,hc=>by
  show zes n _ _ _ _ _=_
  have hd':done=l:=by simpa using hd
  subst hd'
  simp only[zes,lt_f,cond_false,List.countP_nil,Nat.add_zero]
 |x::rest,done,0,c,hd,h,_=>by simp at h
 |x::rest,done,m+1,c,hd,h,hc=>by
  have hl:done.length<l.length:=by rw[← hd];simp
  have hg:l.getD done.length 0=x:=by rw[← hd];simp
  have ih:=fun c' hc'=>znf n t l hs rest (done++[x]) m c' (by simpa using hd) (by simp at h;omega) hc'
  simp only[List.length_append,List.length_cons,List.length_nil,Nat.zero_add]at ih
  show zes n _ _ _ _ _=_
  simp only[zes,lt_t hl,ge_t,cond_true,zaa,hg,wS (show done.length≤1000000 by omega),wS (show c≤1000000 by omega),List.countP_cons]
  by_cases hx:x=0
  ·simp only[hx,decide_true,cond_true,if_true]
   rw[ih (c+1) (by omega)]
   congr 4;omega
  ·simp only[hx,decide_false,cond_false]
   rw[ih c (by omega)]
   simp
theorem yc7{l:List Int}:0<l.countP (fun x=>decide (x=0))↔ff l<l.length:=by
 rw[List.countP_pos_iff,ff,List.findIdx_lt_length]
theorem zw2(n:Nat)(hn:2000≤n)(P:Pg)(hs:P.2.length≤1000):∃ c:Nat,q180 n (P,())=some (((c:Int),()),())∧(0<c↔ff P.2<P.2.length):=by
 have:=znf n P.1 P.2 hs P.2 [] n 0 rfl (by omega) (Nat.le_refl _)
 refine⟨P.2.countP fun x=>decide (x=0),?_,yc7⟩
 simp only[Nat.zero_add]at this
 exact this
theorem zay{α:Type}(l:List α)(i j:Nat)(y d:α)(h:i<l.length):(l.set i y).getD j d=if j=i then y else l.getD j d:=by
 rw[List.getD_eq_getElem?_getD,List.getElem?_set,List.getD_eq_getElem?_getD]
 by_cases e:i=j
 ·subst e;simp[h]
 ·simp[e,Ne.symm e]
def Gd(b:Int)(g:Ar→Ar):Prop:=∀ x,(x.1≠1∨x.2.1=b)→(g x).1=x.1∧(g x).2.1=x.2.1
theorem ff_of{l:List Int}{i:Nat}(hi:i<l.length)(h:l.getD i 0=0):ff l<l.length:=by
 rw[ff,List.findIdx_lt_length]
 exact⟨l.getD i 0,zai hi,decide_eq_true h⟩
theorem nxt{h:Int}(h0:0≤h)(h1:h<12):(IntKind.i64.wrap (h+1)).tmod 12=(h+1) % 12:=by
 rw[wr (by omega) (by omega),Int.tmod_eq_emod_of_nonneg (by omega)]
theorem zpf(a:Int)(x:Ar):(zbv a x).1=x.1∧(zbv a x).2.1=x.2.1:=by unfold zbv;split <;> exact⟨rfl,rfl⟩
theorem zrx{a i:Int}{S:List Sp}(h:zfr i (mapS (zbv a) S)=true):i≠a∧zfr i S=true:=by
 unfold zfr mapS at h
 simp only[List.any_eq_true,List.mem_map]at h
 obtain⟨s,⟨t,ht,rfl⟩,x,hx,hu⟩:=h
 obtain⟨y,hy,rfl⟩:=List.mem_map.1 hx
 simp only[Bool.and_eq_true]at hu
 have h1:=za2.1 hu.1
 have hd:=zpf a y
 rw[hd.1,hd.2]at h1
 by_cases e:y.2.1=a
 ·have:(zbv a y).2.2.2=false:=by unfold zbv;rw[if_pos ⟨h1.1,e⟩]
  rw[this]at hu;exact absurd hu.2 (by simp)
 ·have e2:zbv a y=y:=by unfold zbv;rw[if_neg (fun hh=>e hh.2)]
  refine⟨fun hi=>e (h1.2.trans hi),?_⟩
  unfold zfr
  simp only[List.any_eq_true]
  exact⟨t,ht,y,hy,by rw[e2]at hu;simp[hu.1,hu.2]⟩
theorem MI.rows{M:Me}(h:MI M):∀ s∈M.2.2.1,s.2.2.length≤1000:=fun s hs=>by
 have:=(h.sp.rw s hs).len;omega
theorem MI.calm{R W:Pg}{S:List Sp}{h h':Int}(hM:MI (R,W,S,h))(a:Int)(hh:0≤h'∧h'<12):MI (R,W,mapS (zbv a) S,h'):=by
 refine⟨hM.sp.map fun x hx=>yao hx,⟨hM.ram.l1,hM.ram.l2,fun i hi=>?_,hM.ram.s⟩,⟨hM.swp.l1,hM.swp.l2,fun i hi=>?_,hM.swp.s⟩,hh.1,hh.2⟩
 ·simp only[zpp];exact hM.ram.c i hi
 ·simp only[zpp];exact hM.swp.c i hi
theorem MI.hand{R W:Pg}{S:List Sp}{h h':Int}(hM:MI (R,W,S,h))(hh:0≤h'∧h'<12):MI (R,W,S,h'):=⟨hM.sp,hM.ram,hM.swp,hh.1,hh.2⟩
theorem MI.out{R W:Pg}{S:List Sp}{h:Int}(hM:MI (R,W,S,h)){k:Nat}(hk:k<12)(hf:ff W.2<12) :
  MI ((R.1.set k (ByteArray.mk #[]),R.2.set k 0),(W.1.set (ff W.2) (R.1.getD k ByteArray.empty),(W.2.set (ff W.2) 1).set (ff W.2) (R.2.getD k 0)),mapS (zbe 1 k 2 (ff W.2)) S,h):=by
 have hne:¬((1:Int)=2∧(k:Int)=(ff W.2:Int)):=by omega
 have hl1:=hM.ram.l1
 have hl2:=hM.ram.l2
 have hw1:=hM.swp.l1
 have hw2:=hM.swp.l2
 simp only at hl1 hl2 hw1 hw2
 have hz:W.2.getD (ff W.2) 0=0:=zny (by omega)
 refine⟨hM.sp.map fun x hx=>zth (by omega) ⟨by omega,by omega⟩ hx,⟨by simpa using hl1,by simpa using hl2,fun i hi=>?_,fun i hi h0=>?_⟩,⟨by simpa using hw1,by simpa using hw2,fun i hi=>?_,fun i hi h0=>?_⟩,hM.h0,hM.h1⟩
 ·simp only
  rw[zay _ _ _ _ _ (by omega)]
  by_cases e:i=k
  ·subst e;rw[if_pos rfl,zc7 hne];rfl
  ·rw[if_neg e,zby (by omega) (by omega)];exact hM.ram.c i hi
 ·simp only at h0 ⊢
  rw[zay _ _ _ _ _ (by omega)]at h0 ⊢
  by_cases e:i=k
  ·rw[if_pos e]at h0;exact absurd rfl h0
  ·rw[if_neg e]at h0 ⊢;exact hM.ram.s i hi h0
 ·simp only
  rw[List.set_set,zay _ _ _ _ _ (by omega)]
  by_cases e:i=ff W.2
  ·rw[if_pos e,e,zdz hne]
   have h1:=hM.swp.c (ff W.2) hf
   have h2:=hM.ram.c k hk
   simp only at h1 h2
   rw[hz]at h1
   rw[h2];omega
  ·rw[if_neg e,zby (by omega) (by omega)];exact hM.swp.c i hi
 ·simp only at h0 ⊢
  rw[List.set_set,zay _ _ _ _ _ (by omega)]at h0
  rw[zay _ _ _ _ _ (by omega)]
  by_cases e:i=ff W.2
  ·rw[if_pos e]at h0 ⊢;exact hM.ram.s k hk h0
  ·rw[if_neg e]at h0 ⊢;exact hM.swp.s i hi h0
theorem zh7(n:Nat)(hn:2000≤n)(b:Int):∀ (m:Nat) (L:List Int) (h x2:Int) (R W:Pg) (S:List Sp),MI (R,W,S,h)→ff W.2<12→(∀ i,zfr i S=true→i≠b→0≤i→i<12→i∈L)→2*L.length+(if h=b then 1 else 0)<m →
  ∃ M':Me,zle n m b h x2 R.1 R.2 W.1 W.2 S=some ((M',(true,())),())∧MI M'∧ff M'.1.2<12∧∃ g,M'.2.2.1=mapS g S∧Gd b g
 |0,L,h,x2,R,W,S,hM,hf,hL,hm=>by omega
 |m+1,L,h,x2,R,W,S,hM,hf,hL,hm=>by
  have h0:=hM.h0
  have h1:=hM.h1
  simp only at h0 h1
  have hh:0≤(h+1) % 12∧(h+1) % 12<12:=by omega
  show ∃ M',zjl n _ _ _ _ _ _ _ _ _=_∧_
  simp only[zjl,nxt h0 h1]
  by_cases hb:h=b
  ·simp only[hb,decide_true,cond_true]
   refine zh7 n hn b m L _ x2 R W S (hM.hand (hb ▸ hh)) hf hL ?_
   rw[if_pos hb]at hm
   rw[if_neg (by omega)]
   omega
  ·simp only[hb,decide_false,cond_false]
   have hq:=yh8 n hn (R,W,S,(h+1) % 12) h (by have:=hM.sp.len;simp only at this ⊢;omega) hM.rows
   rw[hq]
   simp only[Option.bind_some]
   have hM2:=hM.calm h hh
   cases hu:zfr h S with
   |true =>
    simp only[cond_true]
    obtain ⟨M',e1,e2,e3,g,e4,e5⟩:=zh7 n hn b m (L.erase h) _ x2 R W (mapS (zbv h) S) hM2 hf (fun i hi hib hi0 hi1=>by
     have:=zrx hi
     exact(List.mem_erase_of_ne this.1).2 (hL i this.2 hib hi0 hi1)) (by
     rw[List.length_erase_of_mem (hL h hu hb h0 h1)]
     have:0<L.length:=List.length_pos_of_mem (hL h hu hb h0 h1)
     rw[if_neg hb]at hm
     split <;> omega)
    refine⟨M',e1,e2,e3,fun x=>g (zbv h x),?_,fun x hx=>?_⟩
    ·rw[e4,zqy]
    ·have hd:=zpf h x
     have:=e5 (zbv h x) (by rw[hd.1,hd.2];exact hx)
     rw[hd.1,hd.2]at this;exact this
   |false =>
    obtain⟨k,rfl⟩:=Int.eq_ofNat_of_zero_le h0
    have hk:k<12:=by omega
    have hl1:=hM.ram.l1
    have hl2:=hM.ram.l2
    have hw1:=hM.swp.l1
    have hw2:=hM.swp.l2
    simp only at hl1 hl2 hw1 hw2
    have hq2:=zoi n hn W (R.1.getD k ByteArray.empty) (by omega) (by omega)
    rw[if_pos (show ff W.2<W.2.length by omega)]at hq2
    have hq3:=zw3 n hn (R,(W.1.set (ff W.2) (R.1.getD k ByteArray.empty),(W.2.set (ff W.2) 1).set (ff W.2) (R.2.getD k 0)),mapS (zbv k) S,((k:Int)+1) % 12) 1 k 2 (ff W.2) (by have:=hM2.sp.len;simp only at this ⊢;omega) hM2.rows
    simp only[cond_false,ge_t,lt_t (show k<R.2.length by omega),lt_t (show k<R.1.length by omega),cond_true,zaa]
    rw[hq2]
    simp only[Option.bind_some,ge_t,cond_true,List.length_set,lt_t (show ff W.2<W.2.length by omega),zaa]
    rw[hq3]
    simp only[Option.bind_some,ge_t,cond_true,lt_t (show k<R.2.length by omega),lt_t (show k<R.1.length by omega),zaa]
    refine⟨_,rfl,hM2.out hk hf,?_,fun x=>zbe 1 k 2 (ff W.2) (zbv k x),zqy _ _ _,fun x hx=>?_⟩
    ·simp only
     have:=ff_of (l:=R.2.set k 0) (i:=k) (by simp;omega) (by rw[zay _ _ _ _ _ (by omega),if_pos rfl])
     simpa [hl2] using this
    ·have hd:=zpf k x
     have e:zbe 1 k 2 (ff W.2) (zbv k x)=zbv k x:=by unfold zbe;exact if_neg (by rw[hd.1,hd.2];omega)
     show (zbe 1 k 2 (ff W.2) (zbv k x)).1=_∧(zbe 1 k 2 (ff W.2) (zbv k x)).2.1=_
     rw[e];exact hd
theorem zw4(n:Nat)(hn:2000≤n)(M:Me)(b:Int)(hM:MI M) :
  (∃ M':Me,q171 n (M,b,())=some ((M',(true,())),())∧MI M'∧ff M'.1.2<12∧∃ g,M'.2.2.1=mapS g M.2.2.1∧Gd b g) ∨
  (q171 n (M,b,())=some ((M,(false,())),())∧zdr n (M,b,())=some ((false,()),(M,()))):=by
 obtain⟨c1,h1,h2⟩:=zw2 n hn M.1 (by rw[hM.ram.l2];decide)
 obtain⟨c2,h3,h4⟩:=zw2 n hn M.2.1 (by rw[hM.swp.l2];decide)
 rw[hM.ram.l2]at h2
 rw[hM.swp.l2]at h4
 have e0:q171 n (M,b,())=zdc n (zle n n) M b:=rfl
 have e3:zdr n (M,b,())=zcd n (zfv n n) M b:=rfl
 by_cases hc1:0<c1
 ·left
  refine⟨M,?_,hM,h2.1 hc1,fun x=>x,by simp[mapS],fun x _=>⟨rfl,rfl⟩⟩
  rw[e0,zdc,h1]
  simp only[Option.bind_some,show decide ((0:Int)<(c1:Int))=true by simp;omega,cond_true]
 ·by_cases hc2:0<c2
  ·left
   obtain ⟨M',a1,a2,a3,a4⟩:=zh7 n hn b n ((List.range 12).map fun (i:Nat)=>(i:Int)) M.2.2.2 0 M.1 M.2.1 M.2.2.1 hM (h4.1 hc2) (fun i _ _ h0 h1=>by
    simp only[List.mem_map,List.mem_range]
    exact⟨i.toNat,by omega,by omega⟩) (by simp;split <;> omega)
   refine⟨M',?_,a2,a3,a4⟩
   rw[e0,zdc,h1]
   simp only[Option.bind_some,show decide ((0:Int)<(c1:Int))=false by simp;omega,cond_false]
   rw[h3]
   simp only[Option.bind_some,show decide ((c2:Int)=0)=false by simp;omega,cond_false]
   exact a1
  ·right
   constructor
   ·rw[e0,zdc,h1]
    simp only[Option.bind_some,show decide ((0:Int)<(c1:Int))=false by simp;omega,cond_false]
    rw[h3]
    simp only[Option.bind_some,show decide ((c2:Int)=0)=true by simp;omega,cond_true]
   ·rw[e3,zcd,h1]
    simp only[Option.bind_some,show decide ((0:Int)<(c1:Int))=false by simp;omega,cond_false]
    rw[h3]
    simp only[Option.bind_some,show decide ((c2:Int)=0)=true by simp;omega,cond_true,decide_true]
abbrev rw'(S:List Sp)(w:Nat):Sp:=S.getD w (false,[],[])
abbrev sl(S:List Sp)(w p:Nat):Ar:=List.getD (List.getD S w (false,[],[])).2.2 p (0,0,false,false)
abbrev setS(S:List Sp)(w p:Nat)(y:Ar):List Sp:=S.set w ((S.getD w (false,[],[])).1,(S.getD w (false,[],[])).2.1,List.set (S.getD w (false,[],[])).2.2 p y)
def RS(S S':List Sp):Prop:=∀ w,(rw' S' w).1=(rw' S w).1∧(rw' S' w).2.1=(rw' S w).2.1∧(rw' S' w).2.2.length=(rw' S w).2.2.length
theorem RS.refl(S:List Sp):RS S S:=fun _=>⟨rfl,rfl,rfl⟩
theorem RS.trans{S T U:List Sp}(h:RS S T)(k:RS T U):RS S U:=fun w=>⟨(k w).1.trans (h w).1,(k w).2.1.trans (h w).2.1,(k w).2.2.trans (h w).2.2⟩
theorem RS.map(g:Ar→Ar)(S:List Sp):RS S (mapS g S):=fun w=>by
 by_cases h:w<S.length
 ·rw[rw',zqx g S h];exact⟨rfl,rfl,by simp⟩
 ·have e1:rw' (mapS g S) w=(false,[],[]):=by rw[rw',List.getD_eq_getElem?_getD,List.getElem?_eq_none (by rw[zua];omega)];rfl
  have e2:rw' S w=(false,[],[]):=by rw[rw',List.getD_eq_getElem?_getD,List.getElem?_eq_none (by omega)];rfl
  rw[e1,e2];exact⟨rfl,rfl,rfl⟩
theorem za4{α:Type}{l:List α}{i:Nat}{y d:α}(h:i<l.length):(l.set i y).getD i d=y:=by rw[zay _ _ _ _ _ h,if_pos rfl]
theorem getD_set_ne{α:Type}{l:List α}{i j:Nat}{y d:α}(h:i<l.length)(hn:j≠i):(l.set i y).getD j d=l.getD j d:=by rw[zay _ _ _ _ _ h,if_neg hn]
theorem RS.set(S:List Sp)(w p:Nat)(y:Ar)(hw:w<S.length):RS S (setS S w p y):=fun v=>by
 by_cases e:v=w
 ·subst e;rw[rw',setS,za4 hw];exact⟨rfl,rfl,by simp⟩
 ·rw[rw',setS,getD_set_ne hw e];exact⟨rfl,rfl,rfl⟩
theorem zbl(kd a:Int)(S:List Sp)(w p:Nat)(y:Ar)(hw:w<S.length)(hp:p<(rw' S w).2.2.length) :
  told kd a (setS S w p y)+(if isT kd a (sl S w p) then 1 else 0)=told kd a S+(if isT kd a y then 1 else 0):=by
 have h1:=zem kd a ((S.getD w (false,[],[])).1,(S.getD w (false,[],[])).2.1,List.set (S.getD w (false,[],[])).2.2 p y) S w hw
 have h2:=zy9 kd a y (S.getD w (false,[],[])).2.2 p hp
 simp only at h1
 simp only[setS,sl]
 omega
theorem SpI.setS{S:List Sp}(h:SpI S){w p:Nat}(hw:w<5){y:Ar}(hy:SlI y):SpI (setS S w p y) :=
 SpI.set h ((h.rw _ (zai (by rw[h.len];exact hw))).set hy)
theorem SpI.slI{S:List Sp}(h:SpI S){w p:Nat}(hw:w<5)(hp:p<(rw' S w).2.2.length):SlI (sl S w p) :=
 (h.rw _ (zai (by rw[h.len];exact hw))).sl _ (zai hp)
theorem zwk{g:Ar→Ar}{S:List Sp}{w p:Nat}(hw:w<S.length)(hp:p<(rw' S w).2.2.length):sl (mapS g S) w p=g (sl S w p):=by
 rw[sl,zqx g S hw];exact ycm hp
theorem zm1{S:List Sp}{w p:Nat}{y:Ar}(hw:w<S.length)(hp:p<(rw' S w).2.2.length):sl (setS S w p y) w p=y:=by
 rw[sl,setS,za4 hw];exact za4 hp
theorem zug{kd a:Int}{x y:Ar}(h:y.1=x.1∧y.2.1=x.2.1):isT kd a y=isT kd a x:=by unfold isT;rw[h.1,h.2]
theorem zj2{kd a:Int}{S:List Sp}{w p:Nat}{y:Ar}(hw:w<S.length)(hp:p<(rw' S w).2.2.length)(h:y.1=(sl S w p).1∧y.2.1=(sl S w p).2.1):told kd a (setS S w p y)=told kd a S:=by
 have:=zbl kd a S w p y hw hp
 rw[zug h]at this
 omega
theorem MI.setSame{M:Me}(hM:MI M){w p:Nat}{y:Ar}(hw:w<5)(hp:p<(rw' M.2.2.1 w).2.2.length)(h:y.1=(sl M.2.2.1 w p).1∧y.2.1=(sl M.2.2.1 w p).2.1):MI (M.1,M.2.1,setS M.2.2.1 w p y,M.2.2.2):=by
 have hw':w<M.2.2.1.length:=by rw[hM.sp.len];exact hw
 have hs:=hM.sp.slI hw hp
 have hy:SlI y:=by unfold SlI at hs ⊢;rw[h.1,h.2];exact hs
 refine⟨hM.sp.setS hw hy,⟨hM.ram.l1,hM.ram.l2,fun i hi=>?_,hM.ram.s⟩,⟨hM.swp.l1,hM.swp.l2,fun i hi=>?_,hM.swp.s⟩,hM.h0,hM.h1⟩
 ·rw[zj2 hw' hp h];exact hM.ram.c i hi
 ·rw[zj2 hw' hp h];exact hM.swp.c i hi
theorem zbs{kd a:Int}{x:Ar}(h:x.1≠kd):isT kd a x=false:=by
 rw[Bool.eq_false_iff];intro hh;exact h (za2.1 hh).1
theorem MI.take{M:Me}(hM:MI M){w p:Nat}{y:Ar}{t:ByteArray}(hw:w<5)(hp:p<(rw' M.2.2.1 w).2.2.length)(h0:(sl M.2.2.1 w p).1=0)(hf:ff M.1.2<12)(hy:y.1=1∧y.2.1=(ff M.1.2:Int))(ht:t.size=4) :
  MI ((M.1.1.set (ff M.1.2) t,M.1.2.set (ff M.1.2) 1),M.2.1,setS M.2.2.1 w p y,M.2.2.2):=by
 have hw':w<M.2.2.1.length:=by rw[hM.sp.len];exact hw
 have hl1:=hM.ram.l1
 have hl2:=hM.ram.l2
 have hy':SlI y:=by unfold SlI;rw[hy.1,hy.2];omega
 refine⟨hM.sp.setS hw hy',⟨by simpa using hl1,by simpa using hl2,fun i hi=>?_,fun i hi hz=>?_⟩,⟨hM.swp.l1,hM.swp.l2,fun i hi=>?_,hM.swp.s⟩,hM.h0,hM.h1⟩
 ·have h1:=zbl 1 i M.2.2.1 w p y hw' hp
  rw[zbs (x:=sl M.2.2.1 w p) (by rw[h0];decide)]at h1
  have h2:=hM.ram.c i hi
  simp only
  rw[zay _ _ _ _ _ (by omega)]
  by_cases e:i=ff M.1.2
  ·have e2:isT 1 i y=true:=za2.2 ⟨hy.1,by rw[hy.2,e]⟩
   rw[e2]at h1
   have h3:M.1.2.getD i 0=0:=by rw[e];exact zny (by omega)
   rw[if_pos e]
   simp at h1
   omega
  ·have e2:isT 1 i y=false:=by
    rw[Bool.eq_false_iff];intro hh
    have:=(za2.1 hh).2
    rw[hy.2]at this;omega
   rw[e2]at h1
   rw[if_neg e]
   simp at h1
   omega
 ·simp only at hz ⊢
  rw[zay _ _ _ _ _ (by omega)]at hz ⊢
  by_cases e:i=ff M.1.2
  ·rw[if_pos e];exact ht
  ·rw[if_neg e]at hz ⊢;exact hM.ram.s i hi hz
 ·have h1:=zbl 2 i M.2.2.1 w p y hw' hp
  rw[zbs (x:=sl M.2.2.1 w p) (by rw[h0];decide),zbs (x:=y) (by rw[hy.1];decide)]at h1
  have h2:=hM.swp.c i hi
  simp at h1
  simp only
  rw[h2,h1]
theorem MI.inn{R W:Pg}{S:List Sp}{h:Int}(hM:MI (R,W,S,h)){k:Nat}(hk:k<12)(hf:ff R.2<12) :
  MI ((R.1.set (ff R.2) (W.1.getD k ByteArray.empty),(R.2.set (ff R.2) 1).set (ff R.2) (W.2.getD k 0)),(W.1.set k (ByteArray.mk #[]),W.2.set k 0),mapS (zbe 2 k 1 (ff R.2)) S,h):=by
 have hne:¬((2:Int)=1∧(k:Int)=(ff R.2:Int)):=by omega
 have hl1:=hM.swp.l1
 have hl2:=hM.swp.l2
 have hw1:=hM.ram.l1
 have hw2:=hM.ram.l2
 simp only at hl1 hl2 hw1 hw2
 have hz:R.2.getD (ff R.2) 0=0:=zny (by omega)
 refine⟨hM.sp.map fun x hx=>zth (by omega) ⟨by omega,by omega⟩ hx,⟨by simpa using hw1,by simpa using hw2,fun i hi=>?_,fun i hi h0=>?_⟩,⟨by simpa using hl1,by simpa using hl2,fun i hi=>?_,fun i hi h0=>?_⟩,hM.h0,hM.h1⟩
 ·simp only
  rw[List.set_set,zay _ _ _ _ _ (by omega)]
  by_cases e:i=ff R.2
  ·rw[if_pos e,e,zdz hne]
   have h1:=hM.ram.c (ff R.2) hf
   have h2:=hM.swp.c k hk
   simp only at h1 h2
   rw[hz]at h1
   rw[h2];omega
  ·rw[if_neg e,zby (by omega) (by omega)];exact hM.ram.c i hi
 ·simp only at h0 ⊢
  rw[List.set_set,zay _ _ _ _ _ (by omega)]at h0
  rw[zay _ _ _ _ _ (by omega)]
  by_cases e:i=ff R.2
  ·rw[if_pos e]at h0 ⊢;exact hM.swp.s k hk h0
  ·rw[if_neg e]at h0 ⊢;exact hM.ram.s i hi h0
 ·simp only
  rw[zay _ _ _ _ _ (by omega)]
  by_cases e:i=k
  ·subst e;rw[if_pos rfl,zc7 hne];rfl
  ·rw[if_neg e,zby (by omega) (by omega)];exact hM.swp.c i hi
 ·simp only at h0 ⊢
  rw[zay _ _ _ _ _ (by omega)]at h0 ⊢
  by_cases e:i=k
  ·rw[if_pos e]at h0;exact absurd rfl h0
  ·rw[if_neg e]at h0 ⊢;exact hM.swp.s i hi h0
theorem yh_(n:Nat):∃ t:ByteArray,q173 n ()=some ((t,()),())∧t.size=4:=⟨_,rfl,by decide⟩
theorem zr7(n:Nat)(hn:2000≤n)(M:Me)(hM:MI M)(w p:Nat)(hw:w<5)(hp:p<(rw' M.2.2.1 w).2.2.length) :
  (∃ M':Me,q153 n (M,(w:Int),(p:Int),())=some ((M',(true,())),())∧MI M'∧RS M.2.2.1 M'.2.2.1∧(sl M'.2.2.1 w p).1=1) ∨
  (q153 n (M,(w:Int),(p:Int),())=some ((M,(false,())),())∧zfg n (M,(w:Int),(p:Int),())=some ((false,()),(M,()))):=by
 have hw':w<M.2.2.1.length:=by rw[hM.sp.len];exact hw
 have hsl:=hM.sp.slI hw hp
 have e0:q153 n (M,(w:Int),(p:Int),())=zgb n M w p:=rfl
 have e1:zfg n (M,(w:Int),(p:Int),())=zce n M w p:=rfl
 rw[e0,e1,zgb,zce]
 simp only[ge_t,lt_t hw',lt_t hp,cond_true,zaa]
 by_cases h1:(sl M.2.2.1 w p).1=1
 ·left
  simp only[h1,decide_true,Bool.not_true,cond_false]
  exact⟨_,rfl,hM.setSame hw hp ⟨h1.symm,rfl⟩,RS.set _ _ _ _ hw',by rw[zm1 hw' hp]⟩
 ·simp only[h1,decide_false,Bool.not_false,cond_true]
  rcases zw4 n hn M (-1) hM with ⟨M1,a1,a2,a3,g,a4,a5⟩|⟨a1,a2⟩
  ·left
   rw[a1]
   simp only[Option.bind_some,cond_true,Bool.not_true,cond_false]
   have hw1:w<M1.2.2.1.length:=by rw[a2.sp.len];exact hw
   have hp1:p<(rw' M1.2.2.1 w).2.2.length:=by
    have:=(RS.map g M.2.2.1 w).2.2;rw[← a4]at this;rw[this];exact hp
   have hg:sl M1.2.2.1 w p=g (sl M.2.2.1 w p):=by rw[a4];exact zwk hw' hp
   have hgd:=a5 (sl M.2.2.1 w p) (.inl h1)
   have hrs:RS M.2.2.1 M1.2.2.1:=by rw[a4];exact RS.map g _
   have hl1:=a2.ram.l1
   have hl2:=a2.ram.l2
   have hm1:=a2.swp.l1
   have hm2:=a2.swp.l2
   by_cases h0:(sl M.2.2.1 w p).1=0
   ·simp only[h0,decide_true,cond_true]
    obtain⟨t,t1,t2⟩:=yh_ n
    have hq:=zoi n hn M1.1 t (by omega) (by omega)
    rw[if_pos (by omega)]at hq
    rw[t1]
    simp only[Option.bind_some]
    rw[hq]
    simp only[Option.bind_some,ge_t,lt_t hw1,lt_t hp1,cond_true,zaa,List.length_set,za4 hw1]
    refine⟨_,rfl,?_⟩
    have hT:=a2.take (y:=(1,(ff M1.1.2:Int),true,true)) hw hp1 (by rw[hg,hgd.1,h0]) a3 ⟨rfl,rfl⟩ t2
    have e:∀ (z:Ar),(List.set M1.2.2.1 w ((List.getD M1.2.2.1 w (false,[],[])).1,(List.getD M1.2.2.1 w (false,[],[])).2.1,List.set (List.getD M1.2.2.1 w (false,[],[])).2.2 p z))=setS M1.2.2.1 w p z:=fun _=>rfl
    simp only[List.set_set,za4 hp1]
    exact⟨hT,hrs.trans (RS.set _ _ _ _ hw1),congrArg (·.1) (zm1 (y:=(1,(ff M1.1.2:Int),true,true)) hw1 hp1)⟩
   ·have h2:(sl M.2.2.1 w p).1=2:=by have:=hsl.1;have:=hsl.2.1;omega
    have hat:=hsl.2.2 h0
    simp only[h0,decide_false,cond_false]
    obtain⟨k,hk⟩:=Int.eq_ofNat_of_zero_le hat.1
    have hk2:k<12:=by omega
    have hq:=zoi n hn M1.1 (M1.2.1.1.getD k ByteArray.empty) (by omega) (by omega)
    rw[if_pos (by omega)]at hq
    have hI:=a2.inn (R:=M1.1) (W:=M1.2.1) (S:=M1.2.2.1) (h:=M1.2.2.2) hk2 a3
    have hq3:=zw3 n hn ((M1.1.1.set (ff M1.1.2) (M1.2.1.1.getD k ByteArray.empty),(M1.1.2.set (ff M1.1.2) 1).set (ff M1.1.2) (M1.2.1.2.getD k 0)),M1.2.1,M1.2.2.1,M1.2.2.2) 2 k 1 (ff M1.1.2) (by have:=a2.sp.len;simp only at this ⊢;omega) a2.rows
    have hw3:w<(mapS (zbe 2 k 1 (ff M1.1.2)) M1.2.2.1).length:=by rw[zua];exact hw1
    have hp3:p<(rw' (mapS (zbe 2 k 1 (ff M1.1.2)) M1.2.2.1) w).2.2.length:=by rw[(RS.map _ M1.2.2.1 w).2.2];exact hp1
    simp only[hk,ge_t,lt_t (show k<M1.2.1.1.length by omega),lt_t (show k<M1.2.1.2.length by omega),cond_true,zaa]
    rw[hq]
    simp only[Option.bind_some,ge_t,cond_true,List.length_set,lt_t (show ff M1.1.2<M1.1.2.length by omega),zaa]
    rw[hq3]
    simp only[Option.bind_some,ge_t,cond_true,List.length_set,lt_t (show k<M1.2.1.1.length by omega),lt_t (show k<M1.2.1.2.length by omega),zaa,lt_t hw3,lt_t hp3]
    refine⟨_,rfl,hI.setSame hw hp3 ⟨rfl,rfl⟩,(hrs.trans (RS.map _ _)).trans (RS.set _ _ _ _ hw3),?_⟩
    have e:sl (mapS (zbe 2 k 1 (ff M1.1.2)) M1.2.2.1) w p=zbe 2 k 1 (ff M1.1.2) (g (sl M.2.2.1 w p)):=by rw[zwk hw1 hp1,hg]
    have e2:(zbe 2 k 1 (ff M1.1.2) (g (sl M.2.2.1 w p))).1=1:=by
     unfold zbe;rw[if_pos ⟨by rw[hgd.1,h2],by rw[hgd.2,hk]⟩]
    have:=zm1 (y:=((sl (mapS (zbe 2 k 1 (ff M1.1.2)) M1.2.2.1) w p).1,(sl (mapS (zbe 2 k 1 (ff M1.1.2)) M1.2.2.1) w p).2.1,(sl (mapS (zbe 2 k 1 (ff M1.1.2)) M1.2.2.1) w p).2.2.1,true)) hw3 hp3
    exact(congrArg (·.1) this).trans ((congrArg (·.1) e).trans e2)
  ·right
   rw[a1,a2]
   simp only[Option.bind_some,cond_false,Bool.not_false,cond_true,decide_true]
   exact⟨trivial,trivial⟩
theorem zb2(n:Nat)(a b c:Int):q69 n (a,b,c,())=some ((decide (b≤a)&&decide (a≤c),()),()):=by
 show zi0 n a b c=_
 rw[zi0]
 by_cases h:b≤a <;> simp[h]
def inA(b:Int)(x:Ar):Bool:=decide (x.1≤b)&&decide (b≤IntKind.i64.wrap (IntKind.i64.wrap (x.1+x.2.1) - 1))
def at2(l:List Ar)(b:Int):Int:=if l.findIdx (inA b)<l.length then (l.findIdx (inA b):Int) else -1
theorem zl8(l:List Ar)(b:Int):-1≤at2 l b∧at2 l b<l.length:=by unfold at2;split <;> omega
theorem zqh(n:Nat)(b:Int)(l:List Ar)(hs:l.length≤1000):∀ (rest done:List Ar) (m:Nat),done++rest=l→rest.length<m→(∀ x∈done,inA b x=false)→zt1 n m l b (done.length:Int)=some ((at2 l b,()),())
 | [],done,0,hd,h,_=>by simp at h
 | [],done,m+1,hd,h,hz=>by
  have hd':done=l:=by simpa using hd
  subst hd'
  have hf:¬ done.findIdx (inA b)<done.length:=by
   rw[List.findIdx_lt_length]
   rintro ⟨x,hx,hh⟩
   rw[hz x hx]at hh;cases hh
  show zhq n _ _ _ _=_
  simp only[zhq,lt_f,cond_false,at2,if_neg hf]
 |x::rest,done,0,hd,h,_=>by simp at h
 |x::rest,done,m+1,hd,h,hz=>by
  have hl:done.length<l.length:=by rw[← hd];simp
  have hg:l.getD done.length (0,0,false,false)=x:=by rw[← hd];simp
  show zhq n _ _ _ _=_
  simp only[zhq,lt_t hl,ge_t,cond_true,zaa,hg]
  rw[zb2]
  simp only[Option.bind_some]
  by_cases hx:inA b x=true
  ·have hf:l.findIdx (inA b)=done.length:=by
    rw[← hd,List.findIdx_append,List.findIdx_eq_length_of_false hz]
    simp[List.findIdx_cons,hx]
   have hx':=hx
   unfold inA at hx'
   rw[hx']
   simp only[cond_true,at2,hf,if_pos hl]
  ·have hx2:inA b x=false:=by simpa using hx
   have hx':=hx2
   unfold inA at hx'
   rw[hx']
   simp only[cond_false]
   have ih:=zqh n b l hs rest (done ++ [x]) m (by simpa using hd) (by simp at h; omega) (by
    intro y hy
    rcases List.mem_append.1 hy with hy|hy
    ·exact hz y hy
    ·rw[List.mem_singleton.1 hy];exact hx2)
   simp only[List.length_append,List.length_cons,List.length_nil,Nat.zero_add]at ih
   rw[wS (by omega),ih]
theorem zqd(n:Nat)(hn:2000≤n)(l:List Ar)(b:Int)(hs:l.length≤1000):q71 n (l,b,())=some ((at2 l b,()),()) :=
 zqh n b l hs l [] n rfl (by omega) (fun _ h=>by simp at h)
theorem zw7(n:Nat)(P:Pg)(h1:P.1.length≤1000)(h2:P.2.length≤1000):q123 n (P,())=some ((P,()),()):=by
 show zge n P=_
 have e1:decide ((0+List.length P.1)*(16:Nat)≤140737488355328)=true:=by simp;omega
 have e2:decide ((0+List.length P.2)*(8:Nat)≤140737488355328)=true:=by simp;omega
 simp only[zge,e1,e2,cond_true]
theorem zqj(n:Nat)(x1:List ByteArray)(x2:List Int)(x3:List ByteArray)(x4:List Int)(x6 x7 x8:Int)(x9:List ByteArray)(x10:List Int)(x11:List ByteArray)(x12:List Int)(S:List Sp)(hs:S.length≤1000)(hS:∀ s∈S,s.2.1.length≤1000∧s.2.2.length≤1000) :
  ∀ (rest done:List Sp) (m:Nat),done++rest=S→rest.length<m→zqk n m (done.length:Int) x1 x2 x3 x4 S x6 x7 x8 x9 x10 x11 x12 done=some ((((x9,x10),((x11,x12),(S,x8))),()),())
 | [],done,0,hd,h=>by simp at h
 | [],done,m+1,hd,h=>by
  have hd':done=S:=by simpa using hd
  subst hd'
  show zhs n _ _ _ _ _ _ _ _ _ _ _ _ _ _ _=_
  simp only[zhs,lt_f,cond_false]
 |s::rest,done,0,hd,h=>by simp at h
 |s::rest,done,m+1,hd,h=>by
  have hl:done.length<S.length:=by rw[← hd];simp
  have hg:S.getD done.length (false,[],[])=s:=by rw[← hd];simp
  have hb:=hS s (by rw[← hd];simp)
  have e1:decide ((0+s.2.1.length)*(24:Nat)≤140737488355328)=true:=by simp;omega
  have e2:decide ((0+s.2.2.length)*(24:Nat)≤140737488355328)=true:=by simp;omega
  have e3:decide ((done.length+1)*(56:Nat)≤140737488355328)=true:=by simp;omega
  show zhs n _ _ _ _ _ _ _ _ _ _ _ _ _ _ _=_
  simp only[zhs,lt_t hl,ge_t,cond_true,zaa,hg,List.length_cons,List.length_nil,Nat.zero_add]at e1 e2 ⊢
  simp only[e1,e2,e3,cond_true]
  have ih:=zqj n x1 x2 x3 x4 x6 x7 x8 x9 x10 x11 x12 S hs hS rest (done++[s]) m (by simpa using hd) (by simp at h;omega)
  simp only[List.length_append,List.length_cons,List.length_nil,Nat.zero_add]at ih
  rw[wS (by omega)]
  exact ih
theorem ym0(n:Nat)(hn:2000≤n)(M:Me)(h1:M.1.1.length≤1000∧M.1.2.length≤1000)(h2:M.2.1.1.length≤1000∧M.2.1.2.length≤1000)(hs:M.2.2.1.length≤1000)(hS:∀ s∈M.2.2.1,s.2.1.length≤1000∧s.2.2.length≤1000):q56 n (M,())=some ((M,()),()):=by
 show zi8 n (zqk n n) M=_
 rw[zi8,zw7 n M.1 h1.1 h1.2]
 simp only[Option.bind_some]
 rw[zw7 n M.2.1 h2.1 h2.2]
 simp only[Option.bind_some]
 exact zqj n M.1.1 M.1.2 M.2.1.1 M.2.1.2 M.2.2.2 0 M.2.2.2 M.1.1 M.1.2 M.2.1.1 M.2.1.2 M.2.2.1 hs hS M.2.2.1 [] n rfl (by omega)
theorem MI.copy{M:Me}(hM:MI M)(n:Nat)(hn:2000≤n):q56 n (M,())=some ((M,()),()):=by
 have h1:=hM.ram.l1
 have h2:=hM.ram.l2
 have h3:=hM.swp.l1
 have h4:=hM.swp.l2
 have h5:=hM.sp.len
 refine ym0 n hn M (by omega) (by omega) (by omega) fun s hs=>?_
 have hr:=hM.sp.rw s hs
 have:=hr.ar
 have:=hr.len
 omega
structure PgC(P:Pg)(c:Nat→Nat):Prop where
 l1:P.1.length=12
 l2:P.2.length=12
 c:∀ i:Nat,i<12→P.2.getD i 0=(c i:Int)
 s:∀ i:Nat,i<12→P.2.getD i 0≠0→(P.1.getD i ByteArray.empty).size=4
theorem PgI.toC{kd:Int}{P:Pg}{S:List Sp}(h:PgI kd P S):PgC P (fun i=>told kd i S):=⟨h.l1,h.l2,h.c,h.s⟩
theorem PgC.toI{kd:Int}{P:Pg}{S:List Sp}{c:Nat→Nat}(h:PgC P c)(hc:∀ i,i<12→c i=told kd i S):PgI kd P S:=⟨h.l1,h.l2,fun i hi=>by rw[h.c i hi,hc i hi],h.s⟩
def giv(P:Pg)(k:Nat):Pg:=(if P.2.getD k 0 - 1=0 then P.1.set k (ByteArray.mk #[]) else P.1,P.2.set k (P.2.getD k 0 - 1))
theorem PgC.giv{P:Pg}{c:Nat→Nat}(h:PgC P c){k:Nat}(hk:k<12)(hc:1≤c k):PgC (giv P k) (fun i=>if i=k then c i - 1 else c i):=by
 have l1:=h.l1
 have l2:=h.l2
 refine⟨?_,by simp[S.giv,l2],fun i hi=>?_,fun i hi hz=>?_⟩
 ·unfold S.giv;simp only;split <;> simp[l1]
 ·simp only[S.giv]
  rw[zay _ _ _ _ _ (by omega)]
  by_cases e:i=k
  ·subst e;rw[if_pos rfl,if_pos rfl,h.c i hi];omega
  ·rw[if_neg e,if_neg e];exact h.c i hi
 ·simp only[S.giv]at hz ⊢
  rw[zay _ _ _ _ _ (by omega)]at hz
  by_cases e:i=k
  ·subst e
   rw[if_pos rfl]at hz
   rw[if_neg hz]
   have:=h.c i hi
   exact h.s i hi (by omega)
  ·rw[if_neg e]at hz
   have:=h.s i hi hz
   split
   ·rw[zay _ _ _ _ _ (by omega),if_neg e];exact this
   ·exact this
theorem PgC.take{P:Pg}{c:Nat→Nat}(h:PgC P c)(hf:ff P.2<12){t:ByteArray}(ht:t.size=4):PgC (P.1.set (ff P.2) t,P.2.set (ff P.2) 1) (fun i=>if i=ff P.2 then 1 else c i):=by
 have l1:=h.l1
 have l2:=h.l2
 refine⟨by simpa using l1,by simpa using l2,fun i hi=>?_,fun i hi hz=>?_⟩
 ·simp only
  rw[zay _ _ _ _ _ (by omega)]
  by_cases e:i=ff P.2
  ·rw[if_pos e,if_pos e];rfl
  ·rw[if_neg e,if_neg e];exact h.c i hi
 ·simp only at hz ⊢
  rw[zay _ _ _ _ _ (by omega)]at hz ⊢
  by_cases e:i=ff P.2
  ·rw[if_pos e];exact ht
  ·rw[if_neg e]at hz ⊢;exact h.s i hi hz
theorem zr6(n:Nat)(P:Pg)(k:Nat)(h1:k<P.1.length)(h2:k<P.2.length)(hr:0≤P.2.getD k 0∧P.2.getD k 0<1000):q160 n (P,(k:Int),())=some ((giv P k,()),()):=by
 show zf7 n P k=_
 rw[zf7]
 simp only[ge_t,lt_t h1,lt_t h2,cond_true,zaa,List.length_set,za4 h2]
 rw[wr (by omega) (by omega)]
 by_cases e:P.2.getD k 0 - 1=0
 ·simp only[e,decide_true,cond_true,giv,if_true]
 ·simp only[e,decide_false,cond_false,giv,if_false]
theorem MI.own{M:Me}(hM:MI M){w p k:Nat}{y:Ar}(hw:w<5)(hp:p<(rw' M.2.2.1 w).2.2.length)(hk:k<12)(h0:(sl M.2.2.1 w p).1=1∧(sl M.2.2.1 w p).2.1=(k:Int))(hf:ff M.1.2<12)(hy:y.1=1∧y.2.1=(ff M.1.2:Int)) :
  MI (giv (M.1.1.set (ff M.1.2) (M.1.1.getD k ByteArray.empty),M.1.2.set (ff M.1.2) 1) k,M.2.1,setS M.2.2.1 w p y,M.2.2.2)∧M.1.2.getD k 0≠0∧k≠ff M.1.2:=by
 have hw':w<M.2.2.1.length:=by rw[hM.sp.len];exact hw
 have hl2:=hM.ram.l2
 have hy':SlI y:=by unfold SlI;rw[hy.1,hy.2];omega
 have hpos:0<told 1 k M.2.2.1:=zcy (zai hw') (zai hp) (za2.2 h0)
 have hck:=hM.ram.c k hk
 have hnz:M.1.2.getD k 0≠0:=by omega
 have hne:k≠ff M.1.2:=fun e=>hnz (by rw[e];exact zny (by omega))
 have hz:told 1 (ff M.1.2) M.2.2.1=0:=by
  have h1:=hM.ram.c (ff M.1.2) hf
  have h2:M.1.2.getD (ff M.1.2) 0=0:=zny (by omega)
  omega
 have hC:=(hM.ram.toC.take hf (hM.ram.s k hk hnz)).giv hk (by rw[if_neg hne];exact hpos)
 refine⟨⟨hM.sp.setS hw hy',hC.toI fun i hi=>?_,⟨hM.swp.l1,hM.swp.l2,fun i hi=>?_,hM.swp.s⟩,hM.h0,hM.h1⟩,hnz,hne⟩
 ·have h1:=zbl 1 i M.2.2.1 w p y hw' hp
  have e1:isT 1 i (sl M.2.2.1 w p)=decide (i=k):=by
   unfold isT;rw[h0.1,h0.2]
   by_cases e:i=k
   ·simp[e]
   ·simp[e];omega
  have e2:isT 1 i y=decide (i=ff M.1.2):=by
   unfold isT;rw[hy.1,hy.2]
   by_cases e:i=ff M.1.2
   ·simp[e]
   ·simp[e];omega
  rw[e1,e2]at h1
  by_cases e:i=k
  ·subst e
   simp[hne]at h1
   simp[hne]
   omega
  ·by_cases e3:i=ff M.1.2
   ·rw[← e3]at hz
    simp only[e3,e,hz,decide_true,if_true]at h1 ⊢
    simp[Ne.symm hne]at h1 ⊢
    rw[e3]at hz
    omega
   ·simp[e,e3]at h1 ⊢
    omega
 ·have h1:=zbl 2 i M.2.2.1 w p y hw' hp
  rw[zbs (x:=sl M.2.2.1 w p) (by rw[h0.1];decide),zbs (x:=y) (by rw[hy.1];decide)]at h1
  have h2:=hM.swp.c i hi
  simp at h1
  simp only
  rw[h2,h1]
theorem yia(n:Nat)(hn:2000≤n)(M:Me)(hM:MI M)(w p:Nat)(hw:w<5)(hp:p<(rw' M.2.2.1 w).2.2.length)(h1:(sl M.2.2.1 w p).1=1) :
  (∃ M':Me,q154 n (M,(w:Int),(p:Int),())=some ((M',(true,())),())∧MI M'∧RS M.2.2.1 M'.2.2.1∧(sl M'.2.2.1 w p).1=1)∨q154 n (M,(w:Int),(p:Int),())=some ((M,(false,())),()):=by
 have hw':w<M.2.2.1.length:=by rw[hM.sp.len];exact hw
 have hsl:=hM.sp.slI hw hp
 have hat:=hsl.2.2 (by rw[h1];decide)
 obtain⟨k,hk⟩:=Int.eq_ofNat_of_zero_le hat.1
 have hk2:k<12:=by omega
 have hl1:=hM.ram.l1
 have hl2:=hM.ram.l2
 have e0:q154 n (M,(w:Int),(p:Int),())=zga n M w p:=rfl
 rw[e0,zga]
 simp only[ge_t,lt_t hw',lt_t hp,cond_true,zaa,hk,lt_t (show k<M.1.2.length by omega)]
 have hsame:∃ M':Me,some ((((M.1,(M.2.1,(setS M.2.2.1 w p ((sl M.2.2.1 w p).1,(k:Int),true,(sl M.2.2.1 w p).2.2.2),M.2.2.2))),(true,())),()):R154)=some ((M',(true,())),())∧MI M'∧RS M.2.2.1 M'.2.2.1∧(sl M'.2.2.1 w p).1=1 :=
  ⟨_,rfl,hM.setSame hw hp ⟨rfl,hk.symm⟩,RS.set _ _ _ _ hw',by rw[zm1 hw' hp];exact h1⟩
 cases ho:(sl M.2.2.1 w p).2.2.1 with
 |true =>
  simp only[Bool.not_true,cond_false]
  exact .inl hsame
 |false =>
  simp only[Bool.not_false,cond_true]
  by_cases hr:1<M.1.2.getD k 0
  ·simp only[hr,decide_true,cond_true]
   rcases zw4 n hn M k hM with ⟨M1,a1,a2,a3,g,a4,a5⟩|⟨a1,a2⟩
   ·left
    rw[a1]
    simp only[Option.bind_some,cond_true,Bool.not_true,cond_false]
    have hw1:w<M1.2.2.1.length:=by rw[a2.sp.len];exact hw
    have hp1:p<(rw' M1.2.2.1 w).2.2.length:=by
     have:=(RS.map g M.2.2.1 w).2.2;rw[← a4]at this;rw[this];exact hp
    have hg:sl M1.2.2.1 w p=g (sl M.2.2.1 w p):=by rw[a4];exact zwk hw' hp
    have hgd:=a5 (sl M.2.2.1 w p) (.inr hk)
    have hrs:RS M.2.2.1 M1.2.2.1:=by rw[a4];exact RS.map g _
    have hm1:=a2.ram.l1
    have hm2:=a2.ram.l2
    obtain⟨o1,o2,o3⟩:=a2.own (y:=(1,(ff M1.1.2:Int),true,(sl M.2.2.1 w p).2.2.2)) hw hp1 hk2 ⟨by rw[hg,hgd.1,h1],by rw[hg,hgd.2,hk]⟩ a3 ⟨rfl,rfl⟩
    have hq:=zoi n hn M1.1 (M1.1.1.getD k ByteArray.empty) (by omega) (by omega)
    rw[if_pos (by omega)]at hq
    have hck:=a2.ram.c k hk2
    have htl:=a2.sp.told 1 k
    have hq2:=zr6 n (M1.1.1.set (ff M1.1.2) (M1.1.1.getD k ByteArray.empty),M1.1.2.set (ff M1.1.2) 1) k (by simp; omega) (by simp; omega) (by
     simp only
     rw[getD_set_ne (by omega) o3]
     omega)
    simp only[ge_t,lt_t (show k<M1.1.1.length by omega),cond_true,zaa]
    rw[hq]
    simp only[Option.bind_some]
    rw[hq2]
    simp only[Option.bind_some,ge_t,lt_t hw1,lt_t hp1,cond_true,zaa,h1]
    exact⟨_,rfl,o1,hrs.trans (RS.set _ _ _ _ hw1),congrArg (·.1) (zm1 (y:=(1,(ff M1.1.2:Int),true,(sl M.2.2.1 w p).2.2.2)) hw1 hp1)⟩
   ·right
    rw[a1,a2]
    simp only[Option.bind_some,cond_false,Bool.not_false,cond_true]
  ·simp only[hr,decide_false,cond_false]
   exact .inl hsame
theorem zjp(n:Nat)(x:Ar):∃ b,q158 n (x,())=some ((b,()),()):=by
 show ∃ b,zdd n x=_
 rw[zdd,zb2]
 simp only[Option.bind_some]
 cases (decide ((0:Int)≤x.1)&&decide (x.1≤15)) with
 |false=>exact⟨_,rfl⟩
 |true=>simp only[cond_true];rw[zb2];exact⟨_,rfl⟩
theorem zlj(n:Nat)(l:List Ar)(hs:l.length≤1000):∀ (d k m:Nat),k+d=l.length→d<m→∃ b,zda n m l (k:Int)=some ((b,()),())∧(b=true→l.length≤6)
 |_,k,0,_,h=>by omega
 |0,k,m+1,hk,h=>by
  obtain rfl:k=l.length:=by omega
  show ∃ b,zbb n _ _ _=_∧_
  simp only[zbb,lt_f,cond_false]
  exact⟨_,rfl,fun hb=>by have:=of_decide_eq_true hb;omega⟩
 |d+1,k,m+1,hk,h=>by
  have hl:k<l.length:=by omega
  obtain⟨b,ih⟩:=zlj n l hs d (k+1) m (by omega) (by omega)
  show ∃ b,zbb n _ _ _=_∧_
  simp only[zbb,lt_t hl,ge_t,cond_true,zaa]
  obtain⟨b1,e1⟩:=zjp n ((l.getD k (0,0,false,false)).1,(l.getD k (0,0,false,false)).2.1,(l.getD k (0,0,false,false)).2.2.1,(l.getD k (0,0,false,false)).2.2.2)
  rw[e1]
  simp only[Option.bind_some]
  cases b1 with
  |false=>exact⟨_,rfl,fun hb=>by cases hb⟩
  |true =>
   simp only[Bool.not_true,cond_false,wS (show k≤1000000 by omega)]
   cases k with
   |zero=>exact⟨_,ih⟩
   |succ k =>
    have e2:IntKind.i64.wrap (((k+1:Nat):Int) - 1)=(k:Int):=by rw[wr (by omega) (by omega)];omega
    have e3:decide ((0:Int)<((k+1:Nat):Int))=true:=decide_eq_true (by omega)
    simp only[e2,e3,cond_true,ge_t,lt_t (show k<l.length by omega),zaa]
    cases decide ((l.getD (k+1) (0,0,false,false)).1<IntKind.i64.wrap ((l.getD k (0,0,false,false)).1+(l.getD k (0,0,false,false)).2.1)) with
    |true=>exact⟨_,rfl,fun hb=>by cases hb⟩
    |false=>exact⟨_,ih⟩
theorem zha(n:Nat)(hn:2000≤n)(l:List Ar)(hs:l.length≤1000):∃ b,q127 n (l,())=some ((b,()),())∧(b=true→l.length≤6):=zlj n l hs l.length 0 n (by omega) (by omega)
theorem ztp(n:Nat)(x:Ar)(b c:Int):∃ y ok,q175 n (x,b,c,())=some ((y,(ok,())),()):=by
 show ∃ y ok,zf6 n x b c=_
 rw[zf6]
 cases decide ((if c<IntKind.i64.wrap (IntKind.i64.wrap (x.1+x.2.1) - 1) then c else IntKind.i64.wrap (IntKind.i64.wrap (x.1+x.2.1) - 1))<if b > x.1 then b else x.1) with
 |true=>exact⟨_,_,rfl⟩
 |false=>exact⟨_,_,rfl⟩
theorem zlh(n:Nat)(l:List Ar)(hs:l.length≤1000)(x1 x2:Int):∀ (d k m:Nat) (x4:List Ar),k+d=l.length→d<m→x4.length≤2*k→∃ r,zot n m l x1 x2 (k:Int) x4=some ((r,()),())∧r.length≤2*l.length
 |_,k,0,x4,_,h,_=>by omega
 |0,k,m+1,x4,hk,h,hx=>by
  obtain rfl:k=l.length:=by omega
  show ∃ r,ze1 n _ _ _ _ _ _=_∧_
  simp only[ze1,lt_f,cond_false]
  exact⟨_,rfl,hx⟩
 |d+1,k,m+1,x4,hk,h,hx=>by
  have hl:k<l.length:=by omega
  have ih:=fun y hy=>zlh n l hs x1 x2 d (k+1) m y (by omega) (by omega) hy
  show ∃ r,ze1 n _ _ _ _ _ _=_∧_
  simp only[ze1,lt_t hl,ge_t,cond_true,zaa]
  obtain⟨y1,o1,e1⟩:=ztp n ((l.getD k (0,0,false,false)).1,(l.getD k (0,0,false,false)).2.1,(l.getD k (0,0,false,false)).2.2.1,(l.getD k (0,0,false,false)).2.2.2) 0 (IntKind.i64.wrap (x1 - 1))
  obtain⟨y2,o2,e2⟩:=ztp n ((l.getD k (0,0,false,false)).1,(l.getD k (0,0,false,false)).2.1,(l.getD k (0,0,false,false)).2.2.1,(l.getD k (0,0,false,false)).2.2.2) (IntKind.i64.wrap (x2+1)) 15
  rw[e1]
  simp only[Option.bind_some]
  rw[e2]
  have c1:decide ((x4.length+1)*(24:Nat)≤140737488355328)=true:=by simp;omega
  have c2:decide ((x4.length+1+1)*(24:Nat)≤140737488355328)=true:=by simp;omega
  simp only[Option.bind_some,wS (show k≤1000000 by omega),List.length_cons,List.length_nil,Nat.zero_add,List.length_append,c1,c2,cond_true]
  cases o1 <;> cases o2 <;> exact ih _ (by first|omega|(simp;omega))
theorem ya5(n:Nat)(hn:2000≤n)(l:List Ar)(hs:l.length≤1000)(b c:Int):∃ r,q159 n (l,b,c,())=some ((r,()),())∧r.length≤2*l.length:=zlh n l hs b c l.length 0 n [] (by omega) (by omega) (by simp)
theorem ya9(n:Nat)(hn:2000≤n)(l:List Ar)(hs:l.length≤6)(b c:Int):∃ r ok,q121 n (l,b,c,())=some ((r,(ok,())),())∧(ok=true→r.length≤6):=by
 show ∃ r ok,zgg n l b c=_∧_
 obtain⟨b1,e1,_⟩:=zha n hn l (by omega)
 obtain⟨b2,e2⟩:=zjp n (b,c,false,false)
 obtain⟨r,e3,e4⟩:=ya5 n hn l (by omega) b (IntKind.i64.wrap (IntKind.i64.wrap (b+c) - 1))
 obtain⟨b5,e5,e6⟩:=zha n hn r (by omega)
 rw[zgg,e1]
 simp only[Option.bind_some]
 cases b1 with
 |false=>exact⟨_,_,rfl,fun h=>by cases h⟩
 |true =>
  simp only[Bool.not_true,cond_false]
  rw[e2]
  simp only[Option.bind_some]
  cases b2 with
  |false=>exact⟨_,_,rfl,fun h=>by cases h⟩
  |true =>
   simp only[Bool.not_true,cond_false]
   rw[e3]
   simp only[Option.bind_some]
   rw[e5]
   simp only[Option.bind_some]
   cases b5 with
   |false=>exact⟨_,_,rfl,fun h=>by cases h⟩
   |true=>exact⟨_,_,rfl,fun _=>e6 rfl⟩
theorem zlf(n:Nat)(l:List Ar)(hs:l.length≤1000)(x3 x4:Int)(x5 x6:Bool):∀ (d k m:Nat) (x1:Bool) (x7:List Ar),k+d=l.length→d<m→x7.length≤2*k→∃ r,zos n m l x1 (k:Int) x3 x4 x5 x6 x7=some ((r,()),())∧r.length≤2*l.length+1
 |_,k,0,x1,x7,_,h,_=>by omega
 |0,k,m+1,x1,x7,hk,h,hx=>by
  obtain rfl:k=l.length:=by omega
  have c1:decide ((x7.length+1)*(24:Nat)≤140737488355328)=true:=by simp;omega
  show ∃ r,ze0 n _ _ _ _ _ _ _ _ _=_∧_
  simp only[ze0,lt_f,cond_false,List.length_cons,List.length_nil,Nat.zero_add,c1,cond_true]
  cases x1
  ·exact⟨_,rfl,by simp;omega⟩
  ·exact⟨_,rfl,by omega⟩
 |d+1,k,m+1,x1,x7,hk,h,hx=>by
  have hl:k<l.length:=by omega
  have ih:=fun b y hy=>zlf n l hs x3 x4 x5 x6 d (k+1) m b y (by omega) (by omega) hy
  have c1:decide ((x7.length+1)*(24:Nat)≤140737488355328)=true:=by simp;omega
  have c2:decide ((x7.length+1+1)*(24:Nat)≤140737488355328)=true:=by simp;omega
  show ∃ r,ze0 n _ _ _ _ _ _ _ _ _=_∧_
  simp only[ze0,lt_t hl,ge_t,cond_true,zaa,List.length_cons,List.length_nil,Nat.zero_add,List.length_append,c1,c2,wS (show k≤1000000 by omega)]
  cases x1
  ·simp only[Bool.not_false,cond_true]
   cases decide (x3≤(l.getD k (0,0,false,false)).1) <;> simp only[cond_true,cond_false] <;> exact ih _ _ (by first|omega|(simp;omega))
  ·simp only[Bool.not_true,cond_false]
   exact ih _ _ (by first|omega|(simp;omega))
theorem ya8(n:Nat)(hn:2000≤n)(l:List Ar)(hs:l.length≤6)(x:Ar):∃ r ok,q152 n (l,x,())=some ((r,(ok,())),())∧(ok=true→r.length≤6):=by
 show ∃ r ok,zgc n l x=_∧_
 obtain⟨b1,e1,_⟩:=zha n hn l (by omega)
 obtain⟨b2,e2⟩:=zjp n x
 obtain⟨r,e3,e4⟩:∃ r,q170 n (l,x,())=some ((r,()),())∧r.length≤2*l.length+1:=zlf n l (by omega) x.1 x.2.1 x.2.2.1 x.2.2.2 l.length 0 n false [] (by omega) (by omega) (by simp)
 obtain⟨b5,e5,e6⟩:=zha n hn r (by omega)
 rw[zgc,e1]
 simp only[Option.bind_some]
 cases b1 with
 |false=>exact⟨_,_,rfl,fun h=>by cases h⟩
 |true =>
  simp only[Bool.not_true,cond_false]
  rw[e2]
  simp only[Option.bind_some]
  cases b2 with
  |false=>exact⟨_,_,rfl,fun h=>by cases h⟩
  |true =>
   simp only[Bool.not_true,cond_false]
   rw[e3]
   simp only[Option.bind_some]
   rw[e5]
   simp only[Option.bind_some]
   cases b5 with
   |false=>exact⟨_,_,rfl,fun h=>by cases h⟩
   |true=>exact⟨_,_,rfl,fun _=>e6 rfl⟩
theorem MI.lose1{M:Me}(hM:MI M){w p k:Nat}(hw:w<5)(hp:p<(rw' M.2.2.1 w).2.2.length)(hk:k<12)(h0:(sl M.2.2.1 w p).1=1∧(sl M.2.2.1 w p).2.1=(k:Int)) :
  MI (giv M.1 k,M.2.1,setS M.2.2.1 w p (0,0,false,false),M.2.2.2):=by
 have hw':w<M.2.2.1.length:=by rw[hM.sp.len];exact hw
 have hpos:0<told 1 k M.2.2.1:=zcy (zai hw') (zai hp) (za2.2 h0)
 refine⟨hM.sp.setS hw (by unfold SlI;simp),(hM.ram.toC.giv hk hpos).toI fun i hi=>?_,⟨hM.swp.l1,hM.swp.l2,fun i hi=>?_,hM.swp.s⟩,hM.h0,hM.h1⟩
 ·have h1:=zbl 1 i M.2.2.1 w p (0,0,false,false) hw' hp
  rw[zbs (x:=(0,0,false,false)) (by decide)]at h1
  have e1:isT 1 i (sl M.2.2.1 w p)=decide (i=k):=by
   unfold isT;rw[h0.1,h0.2]
   by_cases e:i=k
   ·simp[e]
   ·simp[e];omega
  rw[e1]at h1
  by_cases e:i=k
  ·simp[e]at h1 ⊢;omega
  ·simp[e]at h1 ⊢;omega
 ·have h1:=zbl 2 i M.2.2.1 w p (0,0,false,false) hw' hp
  rw[zbs (x:=(0,0,false,false)) (by decide),zbs (x:=sl M.2.2.1 w p) (by rw[h0.1];decide)]at h1
  have h2:=hM.swp.c i hi
  simp at h1
  simp only
  rw[h2,h1]
theorem MI.lose2{M:Me}(hM:MI M){w p k:Nat}(hw:w<5)(hp:p<(rw' M.2.2.1 w).2.2.length)(hk:k<12)(h0:(sl M.2.2.1 w p).1=2∧(sl M.2.2.1 w p).2.1=(k:Int)) :
  MI (M.1,giv M.2.1 k,setS M.2.2.1 w p (0,0,false,false),M.2.2.2):=by
 have hw':w<M.2.2.1.length:=by rw[hM.sp.len];exact hw
 have hpos:0<told 2 k M.2.2.1:=zcy (zai hw') (zai hp) (za2.2 h0)
 refine⟨hM.sp.setS hw (by unfold SlI;simp),⟨hM.ram.l1,hM.ram.l2,fun i hi=>?_,hM.ram.s⟩,(hM.swp.toC.giv hk hpos).toI fun i hi=>?_,hM.h0,hM.h1⟩
 ·have h1:=zbl 1 i M.2.2.1 w p (0,0,false,false) hw' hp
  rw[zbs (x:=(0,0,false,false)) (by decide),zbs (x:=sl M.2.2.1 w p) (by rw[h0.1];decide)]at h1
  have h2:=hM.ram.c i hi
  simp at h1
  simp only
  rw[h2,h1]
 ·have h1:=zbl 2 i M.2.2.1 w p (0,0,false,false) hw' hp
  rw[zbs (x:=(0,0,false,false)) (by decide)]at h1
  have e1:isT 2 i (sl M.2.2.1 w p)=decide (i=k):=by
   unfold isT;rw[h0.1,h0.2]
   by_cases e:i=k
   ·simp[e]
   ·simp[e];omega
  rw[e1]at h1
  by_cases e:i=k
  ·simp[e]at h1 ⊢;omega
  ·simp[e]at h1 ⊢;omega
theorem MI.lose0{M:Me}(hM:MI M){w p:Nat}(hw:w<5)(hp:p<(rw' M.2.2.1 w).2.2.length)(h0:(sl M.2.2.1 w p).1=0) :
  MI (M.1,M.2.1,setS M.2.2.1 w p (0,0,false,false),M.2.2.2):=by
 have hw':w<M.2.2.1.length:=by rw[hM.sp.len];exact hw
 refine⟨hM.sp.setS hw (by unfold SlI;simp),⟨hM.ram.l1,hM.ram.l2,fun i hi=>?_,hM.ram.s⟩,⟨hM.swp.l1,hM.swp.l2,fun i hi=>?_,hM.swp.s⟩,hM.h0,hM.h1⟩
 ·have h1:=zbl 1 i M.2.2.1 w p (0,0,false,false) hw' hp
  rw[zbs (x:=(0,0,false,false)) (by decide),zbs (x:=sl M.2.2.1 w p) (by rw[h0];decide)]at h1
  have h2:=hM.ram.c i hi
  simp at h1
  simp only
  rw[h2,h1]
 ·have h1:=zbl 2 i M.2.2.1 w p (0,0,false,false) hw' hp
  rw[zbs (x:=(0,0,false,false)) (by decide),zbs (x:=sl M.2.2.1 w p) (by rw[h0];decide)]at h1
  have h2:=hM.swp.c i hi
  simp at h1
  simp only
  rw[h2,h1]
def lose(M:Me)(w p:Nat):Me :=
 if (sl M.2.2.1 w p).1=1 then (giv M.1 (sl M.2.2.1 w p).2.1.toNat,M.2.1,setS M.2.2.1 w p (0,0,false,false),M.2.2.2)
 else if (sl M.2.2.1 w p).1=2 then (M.1,giv M.2.1 (sl M.2.2.1 w p).2.1.toNat,setS M.2.2.1 w p (0,0,false,false),M.2.2.2)
 else (M.1,M.2.1,setS M.2.2.1 w p (0,0,false,false),M.2.2.2)
theorem zr8(n:Nat)(M:Me)(hM:MI M)(w p:Nat)(hw:w<5)(hp:p<(rw' M.2.2.1 w).2.2.length) :
  q122 n (M,(w:Int),(p:Int),())=some ((lose M w p,()),())∧MI (lose M w p)∧RS M.2.2.1 (lose M w p).2.2.1:=by
 have hw':w<M.2.2.1.length:=by rw[hM.sp.len];exact hw
 have hsl:=hM.sp.slI hw hp
 have e0:q122 n (M,(w:Int),(p:Int),())=zgf n M w p:=rfl
 rw[e0,zgf]
 simp only[ge_t,lt_t hw',lt_t hp,cond_true,zaa]
 have hr1:=hM.ram.l1
 have hr2:=hM.ram.l2
 have hs1:=hM.swp.l1
 have hs2:=hM.swp.l2
 by_cases h1:(sl M.2.2.1 w p).1=1
 ·have hat:=hsl.2.2 (by rw[h1];decide)
  obtain⟨k,hk⟩:=Int.eq_ofNat_of_zero_le hat.1
  have hk2:k<12:=by omega
  have hc:=hM.ram.c k hk2
  have ht:=hM.sp.told 1 k
  have hq:=zr6 n M.1 k (by omega) (by omega) (by omega)
  simp only[h1,decide_true,cond_true,hk,lose,if_true,zaa]
  rw[hq]
  exact⟨rfl,hM.lose1 hw hp hk2 ⟨h1,hk⟩,RS.set _ _ _ _ hw'⟩
 ·by_cases h2:(sl M.2.2.1 w p).1=2
  ·have hat:=hsl.2.2 (by rw[h2];decide)
   obtain⟨k,hk⟩:=Int.eq_ofNat_of_zero_le hat.1
   have hk2:k<12:=by omega
   have hc:=hM.swp.c k hk2
   have ht:=hM.sp.told 2 k
   have hq:=zr6 n M.2.1 k (by omega) (by omega) (by omega)
   simp only[h1,h2,decide_true,decide_false,cond_true,cond_false,hk,lose,if_true,if_false,zaa]
   rw[hq]
   exact⟨rfl,hM.lose2 hw hp hk2 ⟨h2,hk⟩,RS.set _ _ _ _ hw'⟩
  ·have h0:(sl M.2.2.1 w p).1=0:=by have:=hsl.1;have:=hsl.2.1;omega
   simp only[h1,h2,decide_false,cond_false,lose,if_false]
   exact⟨trivial,hM.lose0 hw hp h0,RS.set _ _ _ _ hw'⟩
structure MW(M:Me):Prop where
 a1:M.1.1.length≤100
 a2:M.1.2.length≤100
 b1:M.2.1.1.length≤100
 b2:M.2.1.2.length≤100
 s:M.2.2.1.length≤100
 r:∀ s∈M.2.2.1,s.2.1.length≤100∧s.2.2.length≤100
theorem MI.mw{M:Me}(h:MI M):MW M:=by
 have h1:=h.ram.l1
 have h2:=h.ram.l2
 have h3:=h.swp.l1
 have h4:=h.swp.l2
 have h5:=h.sp.len
 refine⟨by omega,by omega,by omega,by omega,by omega,fun s hs=>?_⟩
 have hr:=h.sp.rw s hs
 have:=hr.ar
 have:=hr.len
 omega
theorem zb4{a b:Bool}:(a&&b)=true↔a=true∧b=true:=by simp
theorem zlp(n:Nat)(t:List ByteArray)(l:List Int)(htl:t.length=l.length)(hs:l.length≤1000):∀ (d k m:Nat),k+d=l.length→d<m→∃ b,zdt n m (k:Int) t l=some ((b,()),())∧(b=true→∀ i,k≤i→i<l.length→l.getD i 0≠0→(t.getD i ByteArray.empty).size=4)
 |_,k,0,_,h=>by omega
 |0,k,m+1,hk,h=>by
  obtain rfl:k=t.length:=by omega
  show ∃ b,zcf n _ _ _ _=_∧_
  simp only[zcf,lt_f,cond_false]
  exact⟨_,rfl,fun _ i h1 h2=>by omega⟩
 |d+1,k,m+1,hk,h=>by
  obtain⟨b,e,ih⟩:=zlp n t l htl hs d (k+1) m (by omega) (by omega)
  show ∃ b,zcf n _ _ _ _=_∧_
  simp only[zcf,lt_t (show k<l.length by omega),lt_t (show k<t.length by omega),ge_t,cond_true,zaa,zb2 n (l.getD k 0) 0 99,Option.bind_some,wS (show k≤1000000 by omega)]
  by_cases h0:l.getD k 0=0
  ·simp only[h0,decide_true,cond_true]
   cases decide ((((t.getD k ByteArray.empty).size:Nat):Int)=0) with
   |false =>
    exact⟨_,rfl,fun hb=>by cases hb⟩
   |true =>
    refine⟨b,e,fun hb i h1 h2 h3=>?_⟩
    by_cases hi:i=k
    ·subst hi;exact absurd h0 h3
    ·exact ih hb i (by omega) h2 h3
  ·simp only[h0,decide_false,cond_false]
   cases (decide ((0:Int)≤l.getD k 0)&&decide (l.getD k 0≤99)) with
   |false=>exact⟨_,rfl,fun hb=>by cases hb⟩
   |true =>
    simp only[Bool.not_true,cond_false]
    by_cases h4:(((t.getD k ByteArray.empty).size:Nat):Int)=4
    ·simp only[h4,decide_true,Bool.not_true,cond_false]
     refine⟨b,e,fun hb i h1 h2 h3=>?_⟩
     by_cases hi:i=k
     ·subst hi;omega
     ·exact ih hb i (by omega) h2 h3
    ·simp only[h4,decide_false,Bool.not_false,cond_true]
     exact⟨_,rfl,fun hb=>by cases hb⟩
theorem zom(n:Nat)(hn:2000≤n)(P:Pg)(h1:P.1.length≤1000)(h2:P.2.length≤1000):∃ b,q117 n (P,())=some ((b,()),())∧(b=true→P.1.length=P.2.length∧∀ i,i<P.2.length→P.2.getD i 0≠0→(P.1.getD i ByteArray.empty).size=4):=by
 show ∃ b,zbr n _ P=_∧_
 rw[zbr]
 by_cases hl:((P.1.length:Int)=(P.2.length:Int))
 ·have hl':P.1.length=P.2.length:=by omega
  simp only[hl,decide_true,Bool.not_true,cond_false]
  rw[zb2]
  simp only[Option.bind_some]
  cases (decide ((1:Int)≤(P.2.length:Int))&&decide ((P.2.length:Int)≤12)) with
  |false=>exact⟨_,rfl,fun hb=>by cases hb⟩
  |true =>
   obtain⟨b,e,ih⟩:=zlp n P.1 P.2 hl' h2 P.2.length 0 n (by omega) (by omega)
   exact⟨b,e,fun hb=>⟨hl',fun i hi=>ih hb i (Nat.zero_le _) hi⟩⟩
 ·simp only[hl,decide_false,Bool.not_false,cond_true]
  exact⟨_,rfl,fun hb=>by cases hb⟩
theorem zln(n:Nat)(hn:2000≤n)(x1:Bool)(ar:List Ar)(ha:ar.length≤1000)(l:List Ar)(hl:l.length=16):∀ (d k m:Nat),k+d=16→d<m→∃ b,zf2 n m (k:Int) x1 ar l=some ((b,()),())∧(b=true→∀ i,k≤i→i<16→0≤(l.getD i (0,0,false,false)).1∧(l.getD i (0,0,false,false)).1≤2)
 |_,k,0,_,h=>by omega
 |0,k,m+1,hk,h=>by
  obtain rfl:k=16:=by omega
  show ∃ b,zb9 n _ _ _ _ _=_∧_
  simp only[zb9]
  exact⟨_,rfl,fun _ i h1 h2=>by omega⟩
 |d+1,k,m+1,hk,h=>by
  obtain⟨b,e,ih⟩:=zln n hn x1 ar ha l hl d (k+1) m (by omega) (by omega)
  have hr:=zl8 ar k
  show ∃ b,zb9 n _ _ _ _ _=_∧_
  simp only[zb9,show decide ((k:Int)<16)=true from decide_eq_true (by omega),lt_t (show k<l.length by omega),ge_t,cond_true,zaa,zb2 n (l.getD k (0,0,false,false)).1 1 2,zqd n hn ar k ha,Option.bind_some,wS (show k≤1000000 by omega)]
  have hstep:(0≤(l.getD k (0,0,false,false)).1∧(l.getD k (0,0,false,false)).1≤2)→∃ b,zf2 n m ((k+1:Nat):Int) x1 ar l=some ((b,()),())∧(b=true→∀ i,k≤i→i<16→0≤(l.getD i (0,0,false,false)).1∧(l.getD i (0,0,false,false)).1≤2):=fun hx =>
   ⟨b,e,fun hb i h1 h2=>by
    by_cases hi:i=k
    ·subst hi;exact hx
    ·exact ih hb i (by omega) h2⟩
  by_cases h0:(l.getD k (0,0,false,false)).1=0
  ·simp only[h0,decide_true,cond_true]
   cases (true&&(decide ((l.getD k (0,0,false,false)).2.1=0)&&((l.getD k (0,0,false,false)).2.2.1 == false&&((l.getD k (0,0,false,false)).2.2.2 == false&&true)))) with
   |false=>exact⟨_,rfl,fun hb=>by cases hb⟩
   |true=>exact hstep (by omega)
  ·simp only[h0,decide_false,cond_false]
   by_cases h1:at2 ar k<0
   ·simp only[h1,decide_true,cond_true]
    exact⟨_,rfl,fun hb=>by cases hb⟩
   ·obtain⟨j,hj⟩:=Int.eq_ofNat_of_zero_le (show 0≤at2 ar k by omega)
    simp only[h1,decide_false,cond_false]
    by_cases h2:1≤(l.getD k (0,0,false,false)).1∧(l.getD k (0,0,false,false)).1≤2
    ·simp only[h2.1,h2.2,decide_true,Bool.and_self,Bool.not_true,cond_false,hj,ge_t,lt_t (show j<ar.length by omega),cond_true,zaa]
     cases (ar.getD j (0,0,false,false)).2.2.2 with
     |false=>exact hstep (by omega)
     |true =>
      simp only[cond_true]
      cases (l.getD k (0,0,false,false)).2.2.1 with
      |false=>exact⟨_,rfl,fun hb=>by cases hb⟩
      |true=>exact hstep (by omega)
    ·have:(decide (1≤(l.getD k (0,0,false,false)).1)&&decide ((l.getD k (0,0,false,false)).1≤2))=false:=by
      rw[Bool.eq_false_iff];intro hh
      have:=zb4.1 hh
      exact h2 ⟨of_decide_eq_true this.1,of_decide_eq_true this.2⟩
     simp only[this,Bool.not_false,cond_true]
     exact⟨_,rfl,fun hb=>by cases hb⟩
theorem ya_(n:Nat)(hn:2000≤n)(s:Sp)(ha:s.2.1.length≤1000)(hs:s.2.2.length≤1000):∃ b,q118 n (s,())=some ((b,()),())∧(b=true→(s.1=false→s.2.1=[]∧s.2.2=[])∧(s.1=true→s.2.1.length≤6∧s.2.2.length=16∧∀ i,i<16→0≤(s.2.2.getD i (0,0,false,false)).1∧(s.2.2.getD i (0,0,false,false)).1≤2)):=by
 show ∃ b,zdf n _ s=_∧_
 rw[zdf]
 cases hb:s.1 with
 |false =>
  simp only[Bool.not_false,cond_true]
  by_cases h1:((s.2.1.length:Int)=0)
  ·simp only[h1,decide_true,cond_true]
   refine⟨_,rfl,fun hd=>⟨fun _=>⟨List.length_eq_zero_iff.1 (by omega),List.length_eq_zero_iff.1 (by have:=of_decide_eq_true hd;omega)⟩,fun h=>by cases h⟩⟩
  ·simp only[h1,decide_false,cond_false]
   exact⟨_,rfl,fun hd=>by cases hd⟩
 |true =>
  simp only[Bool.not_true,cond_false]
  obtain⟨b1,e1,f1⟩:=zha n hn s.2.1 ha
  rw[e1]
  simp only[Option.bind_some]
  cases b1 with
  |false=>exact⟨_,rfl,fun hd=>by cases hd⟩
  |true =>
   simp only[Bool.not_true,cond_false]
   by_cases h1:((s.2.2.length:Int)=16)
   ·simp only[h1,decide_true,Bool.not_true,cond_false]
    obtain⟨b,e,ih⟩:=zln n hn true s.2.1 ha s.2.2 (by omega) 16 0 n (by omega) (by omega)
    exact⟨b,e,fun hd=>⟨fun h=>(by cases h),fun _=>⟨f1 rfl,by omega,fun i hi=>ih hd i (Nat.zero_le _) hi⟩⟩⟩
   ·simp only[h1,decide_false,Bool.not_false,cond_true]
    exact⟨_,rfl,fun hd=>by cases hd⟩
theorem zno(n:Nat)(g3:Int→Int→Int→Int→List ByteArray→List Int→List ByteArray→List Int→List Sp→Int→Option R119)(kd a x10:Int)(x5:List ByteArray)(x6:List Int)(x7:List ByteArray)(x8:List Int)(pre post:List Sp)(b:Bool)(ar:List Ar) :
  ∀ (rest done:List Ar) (m c:Nat),rest.length<m→done.length+rest.length≤1000→c+rest.length≤1000000→zow g3 n m kd a (c:Int) (pre.length:Int) (done.length:Int) x5 x6 x7 x8 (pre++(b,ar,done++rest)::post) x10=g3 kd a ((c+cnt kd a rest:Nat):Int) (IntKind.i64.wrap ((pre.length:Int)+1)) x5 x6 x7 x8 (pre++(b,ar,done++rest)::post) x10
 | [],done,0,c,h,_,_=>by simp at h
 | [],done,m+1,c,h,hl,_=>by
  show ze5 n _ _ _ _ _ _ _ _ _ _ _ _ _=_
  simp only[ze5,ge_t,zcv,zaa,zbo,List.append_nil,lt_f,cond_true,cond_false,cnt,List.countP_nil,Nat.add_zero]
 |x::rest,done,0,c,h,_,_=>by simp at h
 |x::rest,done,m+1,c,h,hl,hc=>by
  have ih:=fun c' hc'=>zno n g3 kd a x10 x5 x6 x7 x8 pre post b ar rest (done++[x]) m c' (by simp at h;omega) (by simp at hl ⊢;omega) hc'
  simp only[List.length_append,List.length_cons,List.length_nil,List.append_assoc,List.cons_append,List.nil_append,Nat.zero_add]at ih
  simp only[List.length_cons]at hc
  show ze5 n _ _ _ _ _ _ _ _ _ _ _ _ _=_
  simp only[ze5,ge_t,zcv,zaa,zbo,cond_true,wS (show done.length≤1000000 by simp at hl;omega),wS (show c≤1000000 by omega)]
  rw[zb0]
  by_cases h1:x.1=kd
  ·by_cases h2:x.2.1=a
   ·have:isT kd a x=true:=za2.2 ⟨h1,h2⟩
    simp only[h1,h2,decide_true,cond_true,this,if_true]
    rw[ih (c+1) (by omega)]
    congr 1;omega
   ·have:isT kd a x=false:=by rw[Bool.eq_false_iff];intro hh;exact h2 (za2.1 hh).2
    simp only[h1,h2,decide_true,decide_false,cond_true,cond_false,this]
    rw[ih c (by omega)]
    simp
  ·have:isT kd a x=false:=zbs h1
   simp only[h1,decide_false,cond_false,this]
   rw[ih c (by omega)]
   simp
theorem znp(n:Nat)(hn:2000≤n)(kd a x9:Int)(x4:List ByteArray)(x5:List Int)(x6:List ByteArray)(x7:List Int) :
  ∀ (post pre:List Sp) (m c:Nat),post.length<m→pre.length+post.length≤1000→(∀ s∈post,s.2.2.length≤1000)→c≤1000*pre.length→zlm n m kd a (c:Int) (pre.length:Int) x4 x5 x6 x7 (pre++post) x9=some ((((c+told kd a post:Nat):Int),()),())
 | [],pre,0,c,h,_,_,_=>by simp at h
 | [],pre,m+1,c,h,hl,_,_=>by
  show ze6 n _ _ _ _ _ _ _ _ _ _ _=_
  simp only[ze6,List.append_nil,lt_f,cond_false,yaj,Nat.add_zero]
 |s::post,pre,0,c,h,_,_,_=>by simp at h
 |s::post,pre,m+1,c,h,hl,hs,hc=>by
  have ih:=fun c' hc'=>znp n hn kd a x9 x4 x5 x6 x7 post (pre++[s]) m c' (by simp at h;omega) (by simp at hl ⊢;omega) (fun t ht=>hs t (List.mem_cons_of_mem _ ht)) hc'
  simp only[List.length_append,List.length_cons,List.length_nil,List.append_assoc,List.cons_append,List.nil_append,Nat.zero_add]at ih
  have hs0:=hs s List.mem_cons_self
  have hcl:=zrj kd a s.2.2
  simp only[List.length_cons]at hl
  have h5:=zno n (zlm n m) kd a x9 x4 x5 x6 x7 pre post s.1 s.2.1 s.2.2 [] n c (by omega) (by simpa using hs0) (by omega)
  simp only[List.nil_append]at h5
  show ze6 n _ _ _ _ _ _ _ _ _ _ _=_
  simp only[ze6,zcv,cond_true]
  refine h5.trans ?_
  rw[wS (by omega),ih (c+cnt kd a s.2.2) (by omega),zbq]
  congr 4;omega
theorem zol(n:Nat)(hn:2000≤n)(M:Me)(hM:MW M)(kd a:Int):q119 n (M,kd,a,())=some (((told kd a M.2.2.1:Int),()),()):=by
 have h1:=hM.s
 have h2:=hM.r
 have:=znp n hn kd a M.2.2.2 M.1.1 M.1.2 M.2.1.1 M.2.1.2 M.2.2.1 [] n 0 (by omega) (by simp;omega) (fun s hs=>by have:=h2 s hs;omega) (by simp)
 simp only[List.nil_append,List.length_nil,Nat.zero_add]at this
 exact this
theorem zoj(n:Nat)(hn:2000≤n)(s:Sp)(ha:s.2.1.length≤1000)(b:Int):q157 n (s,b,())=some ((decide (0≤at2 s.2.1 b)&&(s.2.1.getD (at2 s.2.1 b).toNat (0,0,false,false)).2.2.2,()),()):=by
 have hr:=zl8 s.2.1 b
 show zf8 n s b=_
 rw[zf8,zqd n hn s.2.1 b ha]
 simp only[Option.bind_some]
 by_cases h:0≤at2 s.2.1 b
 ·simp only[h,hr.2,decide_true,cond_true,Bool.true_and]
 ·simp only[h,decide_false,cond_false,Bool.false_and]
theorem zlk(n:Nat)(hn:2000≤n)(g5:Int→Int→Int→Bool→Bool→Int→List ByteArray→List Int→List ByteArray→List Int→List Sp→Int→Option R120)(kd a x12:Int)(x7:List ByteArray)(x8:List Int)(x9:List ByteArray)(x10:List Int)(pre post:List Sp)(s:Sp)(ha:s.2.1.length≤1000)(hs:s.2.2.length≤1000) :
  ∀ (d k m c:Nat) (u v:Bool),k+d=s.2.2.length→d<m→c+d≤100000→∃ c' u' v',c'≤c+d∧zf0 g5 n m kd a (c:Int) u v (pre.length:Int) (k:Int) x7 x8 x9 x10 (pre++s::post) x12=g5 kd a ((c':Nat):Int) u' v' (IntKind.i64.wrap ((pre.length:Int)+1)) x7 x8 x9 x10 (pre++s::post) x12
 |_,k,0,c,u,v,_,h,_=>by omega
 |0,k,m+1,c,u,v,hk,h,hc=>by
  obtain rfl:k=s.2.2.length:=by omega
  show ∃ c' u' v',_∧zb7 n _ _ _ _ _ _ _ _ _ _ _ _ _ _ _=_
  simp only[zb7,ge_t,zcv,zaa,zbo,lt_f,cond_true,cond_false]
  exact⟨c,u,v,by omega,rfl⟩
 |d+1,k,m+1,c,u,v,hk,h,hc=>by
  have hl:k<s.2.2.length:=by omega
  have ih:=fun c' u' v' hc'=>zlk n hn g5 kd a x12 x7 x8 x9 x10 pre post s ha hs d (k+1) m c' u' v' (by omega) (by omega) hc'
  show ∃ c' u' v',_∧zb7 n _ _ _ _ _ _ _ _ _ _ _ _ _ _ _=_
  simp only[zb7,ge_t,zcv,zaa,zbo,cond_true,lt_t hl,wS (show k≤1000000 by omega),wS (show c≤1000000 by omega),zoj n hn (s.1,s.2.1,s.2.2) ha,Option.bind_some]
  have up:∀ u' v',∃ c'' u'' v'',c''≤c+(d+1)∧zf0 g5 n m kd a ((c+1:Nat):Int) u' v' (pre.length:Int) ((k+1:Nat):Int) x7 x8 x9 x10 (pre++s::post) x12=g5 kd a ((c'':Nat):Int) u'' v'' (IntKind.i64.wrap ((pre.length:Int)+1)) x7 x8 x9 x10 (pre++s::post) x12:=fun u' v'=>by
   obtain⟨c1,u1,v1,h1,h2⟩:=ih (c+1) u' v' (by omega)
   exact⟨c1,u1,v1,by omega,h2⟩
  have st:∃ c'' u'' v'',c''≤c+(d+1)∧zf0 g5 n m kd a ((c:Nat):Int) u v (pre.length:Int) ((k+1:Nat):Int) x7 x8 x9 x10 (pre++s::post) x12=g5 kd a ((c'':Nat):Int) u'' v'' (IntKind.i64.wrap ((pre.length:Int)+1)) x7 x8 x9 x10 (pre++s::post) x12:=by
   obtain⟨c1,u1,v1,h1,h2⟩:=ih c u v (by omega)
   exact⟨c1,u1,v1,by omega,h2⟩
  cases decide ((s.2.2.getD k (0,0,false,false)).1=kd) with
  |false=>exact st
  |true =>
   cases decide ((s.2.2.getD k (0,0,false,false)).2.1=a) with
   |false=>exact st
   |true=>cases u <;> cases v <;> exact up _ _
theorem zll(n:Nat)(hn:2000≤n)(kd a x11:Int)(x6:List ByteArray)(x7:List Int)(x8:List ByteArray)(x9:List Int) :
  ∀ (post pre:List Sp) (m c:Nat) (u v:Bool),post.length<m→pre.length+post.length≤100→(∀ s∈post,s.2.1.length≤100∧s.2.2.length≤100)→c≤100*pre.length→∃ b,zf1 n m kd a (c:Int) u v (pre.length:Int) x6 x7 x8 x9 (pre++post) x11=some ((b,()),())
 | [],pre,0,c,u,v,h,_,_,_=>by simp at h
 | [],pre,m+1,c,u,v,h,hl,_,_=>by
  show ∃ b,zb8 n _ _ _ _ _ _ _ _ _ _ _ _ _=_
  simp only[zb8,List.append_nil,lt_f,cond_false]
  cases decide ((c:Int)<2) <;> cases u <;> exact⟨_,rfl⟩
 |s::post,pre,0,c,u,v,h,_,_,_=>by simp at h
 |s::post,pre,m+1,c,u,v,h,hl,hs,hc=>by
  have ih:=fun c' u' v' hc'=>zll n hn kd a x11 x6 x7 x8 x9 post (pre++[s]) m c' u' v' (by simp at h;omega) (by simp at hl ⊢;omega) (fun t ht=>hs t (List.mem_cons_of_mem _ ht)) hc'
  simp only[List.length_append,List.length_cons,List.length_nil,List.append_assoc,List.cons_append,List.nil_append,Nat.zero_add]at ih
  have hs0:=hs s List.mem_cons_self
  simp only[List.length_cons]at hl
  obtain⟨c',u',v',h1,h2⟩:=zlk n hn (zf1 n m) kd a x11 x6 x7 x8 x9 pre post s (by omega) (by omega) s.2.2.length 0 n c u v (by omega) (by omega) (by omega)
  show ∃ b,zb8 n _ _ _ _ _ _ _ _ _ _ _ _ _=_
  simp only[zb8,zcv,cond_true]
  obtain⟨b,hb⟩:=ih c' u' v' (by omega)
  refine⟨b,h2.trans ?_⟩
  rw[wS (by omega)]
  exact hb
theorem ztr(n:Nat)(hn:2000≤n)(M:Me)(hM:MW M)(kd a:Int):∃ b,q120 n (M,kd,a,())=some ((b,()),()):=by
 have h1:=hM.s
 have:=zll n hn kd a M.2.2.2 M.1.1 M.1.2 M.2.1.1 M.2.1.2 M.2.2.1 [] n 0 false false (by omega) (by simp;omega) hM.r (by simp)
 simp only[List.nil_append,List.length_nil]at this
 exact this
def AtOk(x:Ar):Prop:=x.1≠0→0≤x.2.1∧x.2.1<12
theorem yfx(x:Int)(b:Bool)(h:(decide ((0:Int)≤x)&&decide (x≤IntKind.i64.wrap (12 - 1)))=true):0≤x∧x<12:=by
 rw[wr (by omega) (by omega)]at h
 have:=zb4.1 h
 have h1:=of_decide_eq_true this.1
 have h2:=of_decide_eq_true this.2
 omega
theorem zm8(n:Nat)(g4:Int→List ByteArray→List Int→List ByteArray→List Int→List Sp→Int→Option R53)(x7:Int)(x2:List ByteArray)(x3:List Int)(x4:List ByteArray)(x5:List Int)(S:List Sp)(w:Nat)(hw:w<S.length)(hw2:w≤1000)(hs:(rw' S w).2.2.length≤1000) :
  ∀ (d k m:Nat),k+d=(rw' S w).2.2.length→d<m→zcr g4 n m (w:Int) (k:Int) x2 x3 x4 x5 S x7=some ((false,()),())∨(zcr g4 n m (w:Int) (k:Int) x2 x3 x4 x5 S x7=g4 ((w+1:Nat):Int) x2 x3 x4 x5 S x7∧∀ i,k≤i→i<(rw' S w).2.2.length→AtOk (sl S w i))
 |_,k,0,_,h=>by omega
 |0,k,m+1,hk,h=>by
  obtain rfl:k=(rw' S w).2.2.length:=by omega
  right
  constructor
  ·show zc8 n _ _ _ _ _ _ _ _ _ _=_
   simp only[zc8,ge_t,lt_t hw,cond_true,zaa,lt_f,cond_false,wS (show w≤1000000 by omega)]
  ·intro i h1 h2;omega
 |d+1,k,m+1,hk,h=>by
  have hl:k<(rw' S w).2.2.length:=by omega
  have ih:=zm8 n g4 x7 x2 x3 x4 x5 S w hw hw2 hs d (k+1) m (by omega) (by omega)
  have nxt:AtOk (sl S w k)→zcr g4 n m (w:Int) ((k+1:Nat):Int) x2 x3 x4 x5 S x7=some ((false,()),())∨(zcr g4 n m (w:Int) ((k+1:Nat):Int) x2 x3 x4 x5 S x7=g4 ((w+1:Nat):Int) x2 x3 x4 x5 S x7∧∀ i,k≤i→i<(rw' S w).2.2.length→AtOk (sl S w i)):=fun hx=>by
   rcases ih with e|⟨e,hh⟩
   ·exact .inl e
   ·refine .inr ⟨e,fun i h1 h2=>?_⟩
    by_cases hi:i=k
    ·subst hi;exact hx
    ·exact hh i (by omega) h2
  have e0:zcr g4 n (m+1) (w:Int) (k:Int) x2 x3 x4 x5 S x7=zc8 n (zcr g4 n m) g4 (w:Int) (k:Int) x2 x3 x4 x5 S x7:=rfl
  rw[e0,zc8]
  simp only[ge_t,lt_t hw,cond_true,zaa,lt_t hl,zb2 n (sl S w k).2.1 0 (IntKind.i64.wrap (12 - 1)),Option.bind_some,wS (show k≤1000000 by omega)]
  by_cases h0:(sl S w k).1=0
  ·simp only[h0,decide_true,Bool.not_true,cond_false]
   simp only[show decide ((0:Int)=2)=false from rfl,cond_false]
   exact nxt fun hx=>absurd h0 hx
  ·simp only[h0,decide_false,Bool.not_false,cond_true]
   cases hb:(decide ((0:Int)≤(sl S w k).2.1)&&decide ((sl S w k).2.1≤IntKind.i64.wrap (12 - 1))) with
   |false =>
    cases decide ((sl S w k).1=2) <;> exact .inl rfl
   |true =>
    have:=yfx _ true hb
    cases decide ((sl S w k).1=2) <;> exact nxt fun _=>this
theorem zk4(n:Nat)(hn:2000≤n)(M:Me)(hM:MW M)(hl:M.2.1.2.length=12):∀ (d k m:Nat),k+d=12→d<m→∃ b,zk6 n m (k:Int) M.1.1 M.1.2 M.2.1.1 M.2.1.2 M.2.2.1 M.2.2.2=some ((b,()),())∧(b=true→∀ i:Nat,k≤i→i<12→M.2.1.2.getD i 0=(told 2 i M.2.2.1:Int))
 |_,k,0,_,h=>by omega
 |0,k,m+1,hk,h=>by
  obtain rfl:k=12:=by omega
  show ∃ b,zb5 n _ _ _ _ _ _ _ _=_∧_
  simp only[zb5]
  exact⟨_,rfl,fun _ i h1 h2=>by omega⟩
 |d+1,k,m+1,hk,h=>by
  obtain⟨b,e,ih⟩:=zk4 n hn M hM hl d (k+1) m (by omega) (by omega)
  obtain⟨b2,e2⟩:=ztr n hn M hM 2 k
  show ∃ b,zb5 n _ _ _ _ _ _ _ _=_∧_
  simp only[zb5,show decide ((k:Int)<12)=true from decide_eq_true (by omega),cond_true]
  rw[zol n hn ((M.1.1,M.1.2),(M.2.1.1,M.2.1.2),M.2.2.1,M.2.2.2) hM]
  simp only[Option.bind_some,ge_t,lt_t (show k<M.2.1.2.length by omega),cond_true,zaa]
  by_cases hc:((told 2 k M.2.2.1:Nat):Int)=M.2.1.2.getD k 0
  ·simp only[hc,decide_true,Bool.not_true,cond_false]
   rw[e2]
   simp only[Option.bind_some,wS (show k≤1000000 by omega)]
   cases b2 with
   |false=>exact⟨_,rfl,fun hb=>by cases hb⟩
   |true =>
    refine⟨b,e,fun hb i h1 h2=>?_⟩
    by_cases hi:i=k
    ·subst hi;exact hc.symm
    ·exact ih hb i (by omega) h2
  ·simp only[hc,decide_false,Bool.not_false,cond_true]
   exact⟨_,rfl,fun hb=>by cases hb⟩
theorem zk7(n:Nat)(hn:2000≤n)(M:Me)(hM:MW M)(hl1:M.1.2.length=12)(hl:M.2.1.2.length=12):∀ (d k m:Nat),k+d=12→d<m→∃ b,zk9 n m (k:Int) M.1.1 M.1.2 M.2.1.1 M.2.1.2 M.2.2.1 M.2.2.2=some ((b,()),())∧(b=true→(∀ i:Nat,k≤i→i<12→M.1.2.getD i 0=(told 1 i M.2.2.1:Int))∧∀ i:Nat,i<12→M.2.1.2.getD i 0=(told 2 i M.2.2.1:Int))
 |_,k,0,_,h=>by omega
 |0,k,m+1,hk,h=>by
  obtain rfl:k=12:=by omega
  obtain⟨b,e,ih⟩:=zk4 n hn M hM hl 12 0 n (by omega) (by omega)
  show ∃ b,zb6 n _ _ _ _ _ _ _ _ _=_∧_
  simp only[zb6]
  exact⟨b,e,fun hb=>⟨fun i h1 h2=>by omega,fun i h2=>ih hb i (Nat.zero_le _) h2⟩⟩
 |d+1,k,m+1,hk,h=>by
  obtain⟨b,e,ih⟩:=zk7 n hn M hM hl1 hl d (k+1) m (by omega) (by omega)
  obtain⟨b2,e2⟩:=ztr n hn M hM 1 k
  show ∃ b,zb6 n _ _ _ _ _ _ _ _ _=_∧_
  simp only[zb6,show decide ((k:Int)<12)=true from decide_eq_true (by omega),cond_true]
  rw[zol n hn ((M.1.1,M.1.2),(M.2.1.1,M.2.1.2),M.2.2.1,M.2.2.2) hM]
  simp only[Option.bind_some,ge_t,lt_t (show k<M.1.2.length by omega),cond_true,zaa]
  by_cases hc:((told 1 k M.2.2.1:Nat):Int)=M.1.2.getD k 0
  ·simp only[hc,decide_true,Bool.not_true,cond_false]
   rw[e2]
   simp only[Option.bind_some,wS (show k≤1000000 by omega)]
   cases b2 with
   |false=>exact⟨_,rfl,fun hb=>by cases hb⟩
   |true =>
    refine⟨b,e,fun hb=>⟨fun i h1 h2=>?_,(ih hb).2⟩⟩
    by_cases hi:i=k
    ·subst hi;exact hc.symm
    ·exact(ih hb).1 i (by omega) h2
  ·simp only[hc,decide_false,Bool.not_false,cond_true]
   exact⟨_,rfl,fun hb=>by cases hb⟩
theorem zm_(n:Nat)(hn:2000≤n)(M:Me)(hM:MW M)(hl1:M.1.2.length=12)(hl:M.2.1.2.length=12)(h5:M.2.2.1.length=5):∀ (d k m:Nat),k+d=5→d<m→∃ b,zk3 n m (k:Int) M.1.1 M.1.2 M.2.1.1 M.2.1.2 M.2.2.1 M.2.2.2=some ((b,()),())∧(b=true→(∀ w:Nat,k≤w→w<5→RwI (rw' M.2.2.1 w))∧(∀ i:Nat,i<12→M.1.2.getD i 0=(told 1 i M.2.2.1:Int))∧∀ i:Nat,i<12→M.2.1.2.getD i 0=(told 2 i M.2.2.1:Int))
 |_,k,0,_,h=>by omega
 |0,k,m+1,hk,h=>by
  obtain rfl:k=5:=by omega
  obtain⟨b,e,ih⟩:=zk7 n hn M hM hl1 hl 12 0 n (by omega) (by omega)
  show ∃ b,zc9 n _ _ _ _ _ _ _ _ _=_∧_
  simp only[zc9]
  exact⟨b,e,fun hb=>⟨fun i h1 h2=>by omega,fun i h2=>(ih hb).1 i (Nat.zero_le _) h2,(ih hb).2⟩⟩
 |d+1,k,m+1,hk,h=>by
  obtain⟨b,e,ih⟩:=zm_ n hn M hM hl1 hl h5 d (k+1) m (by omega) (by omega)
  have hw:k<M.2.2.1.length:=by omega
  have hr:(rw' M.2.2.1 k).2.1.length≤100∧(rw' M.2.2.1 k).2.2.length≤100:=hM.r _ (zai hw)
  obtain⟨b2,e2,f2⟩:=ya_ n hn (rw' M.2.2.1 k) (by omega) (by omega)
  show ∃ b,zc9 n _ _ _ _ _ _ _ _ _=_∧_
  simp only[zc9,show decide ((k:Int)<5)=true from decide_eq_true (by omega),cond_true,ge_t,lt_t hw,zaa]
  rw[e2]
  simp only[Option.bind_some]
  cases b2 with
  |false=>exact⟨_,rfl,fun hb=>by cases hb⟩
  |true =>
   simp only[Bool.not_true,cond_false]
   rcases zm8 n (zk3 n m) M.2.2.2 M.1.1 M.1.2 M.2.1.1 M.2.1.2 M.2.2.1 k hw (by omega) (by omega) (rw' M.2.2.1 k).2.2.length 0 n (by omega) (by omega) with e3|⟨e3,e4⟩
   ·exact⟨_,e3,fun hb=>by cases hb⟩
   ·refine⟨b,e3.trans e,fun hb=>⟨fun w h1 h2=>?_,(ih hb).2⟩⟩
    by_cases hi:w=k
    ·subst hi
     have f3:=f2 rfl
     cases hv:(rw' M.2.2.1 w).1 with
     |false =>
      have:=f3.1 hv
      exact⟨by rw[this.1];simp,fun hh=>(by rw[hv]at hh;cases hh),fun _=>this.2,fun x hx=>by rw[this.2]at hx;cases hx⟩
     |true =>
      have:=f3.2 hv
      refine⟨this.1,fun _=>this.2.1,fun hh=>(by rw[hv]at hh;cases hh),fun x hx=>?_⟩
      obtain⟨i,hi,rfl⟩:=List.getElem_of_mem hx
      have eg:(rw' M.2.2.1 w).2.2[i]=sl M.2.2.1 w i:=by rw[sl,List.getD_eq_getElem?_getD,List.getElem?_eq_getElem hi];rfl
      have t1:=this.2.2 i (by omega)
      have t2:=e4 i (Nat.zero_le _) hi
      rw[eg]
      exact⟨t1.1,t1.2,t2⟩
    ·exact(ih hb).1 w (by omega) h2
theorem zw1(n:Nat)(hn:2000≤n)(M:Me)(hM:MW M):∃ b,q53 n (M,())=some ((b,()),())∧(b=true→MI M):=by
 show ∃ b,zeo n _ M=_∧_
 rw[zeo]
 have ha1:=hM.a1
 have ha2:=hM.a2
 have hb1:=hM.b1
 have hb2:=hM.b2
 obtain⟨c1,e1,f1⟩:=zom n hn M.1 (by omega) (by omega)
 obtain⟨c2,e2,f2⟩:=zom n hn M.2.1 (by omega) (by omega)
 rw[e1]
 simp only[Option.bind_some]
 cases c1 with
 |false=>exact⟨_,rfl,fun hb=>by cases hb⟩
 |true =>
  simp only[Bool.not_true,cond_false]
  rw[e2]
  simp only[Option.bind_some]
  cases c2 with
  |false=>exact⟨_,rfl,fun hb=>by cases hb⟩
  |true =>
   simp only[Bool.not_true,cond_false]
   by_cases h1:((M.1.2.length:Int)=12)
   ·by_cases h2:((M.2.1.2.length:Int)=12)
    ·by_cases h3:((M.2.2.1.length:Int)=5)
     ·simp only[h1,h2,h3,decide_true,Bool.not_true,cond_false]
      rw[zb2]
      simp only[Option.bind_some]
      cases hh:(decide ((0:Int)≤M.2.2.2)&&decide (M.2.2.2≤11)) with
      |false=>exact⟨_,rfl,fun hb=>by cases hb⟩
      |true =>
       simp only[Bool.not_true,cond_false]
       obtain⟨b,e,f⟩:=zm_ n hn M hM (by omega) (by omega) (by omega) 5 0 n (by omega) (by omega)
       refine⟨b,e,fun hb=>?_⟩
       have ff:=f hb
       have g1:=f1 rfl
       have g2:=f2 rfl
       have hh:=zb4.1 hh
       have hh1:=of_decide_eq_true hh.1
       have hh2:=of_decide_eq_true hh.2
       refine⟨⟨by omega,fun s hs=>?_⟩,⟨by omega,by omega,ff.2.1,fun i hi=>g1.2 i (by omega)⟩,⟨by omega,by omega,ff.2.2,fun i hi=>g2.2 i (by omega)⟩,hh1,by omega⟩
       obtain⟨i,hi,rfl⟩:=List.getElem_of_mem hs
       have eg:M.2.2.1[i]=rw' M.2.2.1 i:=by rw[rw',List.getD_eq_getElem?_getD,List.getElem?_eq_getElem hi];rfl
       rw[eg]
       exact ff.1 i (Nat.zero_le _) (by omega)
     ·simp only[h1,h2,h3,decide_true,decide_false,Bool.not_true,Bool.not_false,cond_false,cond_true]
      exact⟨_,rfl,fun hb=>by cases hb⟩
    ·simp only[h1,h2,decide_true,decide_false,Bool.not_true,Bool.not_false,cond_false,cond_true]
     exact⟨_,rfl,fun hb=>by cases hb⟩
   ·simp only[h1,decide_true,decide_false,Bool.not_true,Bool.not_false,cond_false,cond_true]
    exact⟨_,rfl,fun hb=>by cases hb⟩
def Bys(l:List Int):Prop:=(∀ x∈l,0≤x∧x<256)∧l.length≤2000
theorem Bys.get{l:List Int}(h:Bys l)(i:Nat):0≤l.getD i 0∧l.getD i 0<256:=by
 rw[List.getD_eq_getElem?_getD]
 cases hi:l[i]? with
 |none=>simp
 |some x=>exact h.1 x (List.mem_of_getElem? hi)
theorem ym7(n:Nat){l:List Int}(hl:Bys l){pos b:Int}(hp:0≤pos∧pos<1000000)(hb:1≤b) :
  ∃ v:Int,p48 n (l,pos) b=some ((v,()),((l,pos+1),()))∧0≤v∧v<b:=by
 have e1:IntKind.i64.wrap (pos+1)=pos+1:=wr (by omega) (by omega)
 have e2:IntKind.i64.wrap (pos+1 - 1)=pos:=(wr (x:=pos+1 - 1) (by omega) (by omega)).trans (by omega)
 have e3:IntKind.i64.wrap (pos*7)=pos*7:=wr (by omega) (by omega)
 have e4:IntKind.i64.wrap (pos*7+3)=pos*7+3:=wr (by omega) (by omega)
 have e5:IntKind.i64.wrap (pos*29)=pos*29:=wr (by omega) (by omega)
 have hlen:=hl.2
 show ∃ v:Int,zjc n (l,pos) b=_∧_
 have hb1:¬ b<1:=by omega
 have hb2:¬ b=0:=by omega
 simp only[zjc,e1,e2,e3,e4,e5,hb1,hb2,decide_false,cond_false,Bool.not_false,cond_true]
 by_cases h0:(l.length:Int)=0
 ·simp only[h0,decide_true,cond_true]
  exact⟨0,rfl,by omega,by omega⟩
 ·have hl1:(1:Int)≤l.length:=by omega
  simp only[h0,decide_false,cond_false,Bool.not_false,cond_true]
  by_cases h1:pos<(l.length:Int)
  ·have hp0:(0:Int)≤pos:=hp.1
   simp only[h1,hp0,decide_true,cond_true]
   have hg:=hl.get pos.toNat
   rw[wr (by omega) (by omega)]
   exact⟨_,rfl,zen hg.1 hb⟩
  ·simp only[h1,decide_false,cond_false]
   have t1:=zen (a:=pos) (b:=l.length) hp.1 hl1
   have t2:=zen (a:=pos*7+3) (b:=l.length) (by omega) hl1
   have t3:=zm0 (a:=pos) (b:=l.length) hp.1 hl1
   simp only[t1.1,t1.2,t2.1,t2.2,decide_true,cond_true]
   have g1:=hl.get (pos.tmod l.length).toNat
   have g2:=hl.get ((pos*7+3).tmod l.length).toNat
   generalize l.getD (pos.tmod l.length).toNat 0=y1 at *
   generalize l.getD ((pos*7+3).tmod l.length).toNat 0=y2 at *
   generalize pos.tdiv l.length=q at *
   have w1:IntKind.i64.wrap y1=y1:=wr (by omega) (by omega)
   have w2:IntKind.i64.wrap (y1*131)=y1*131:=wr (by omega) (by omega)
   have w3:IntKind.i64.wrap y2=y2:=wr (by omega) (by omega)
   have w4:IntKind.i64.wrap (y2*1117)=y2*1117:=wr (by omega) (by omega)
   have w5:IntKind.i64.wrap (y1*131+y2*1117)=y1*131+y2*1117:=wr (by omega) (by omega)
   have w6:IntKind.i64.wrap (y1*131+y2*1117+pos*29)=y1*131+y2*1117+pos*29:=wr (by omega) (by omega)
   have w7:IntKind.i64.wrap q=q:=wr (by omega) (by omega)
   have w8:IntKind.i64.wrap (q*53)=q*53:=wr (by omega) (by omega)
   have w9:IntKind.i64.wrap (y1*131+y2*1117+pos*29+q*53)=y1*131+y2*1117+pos*29+q*53:=wr (by omega) (by omega)
   simp only[w1,w2,w3,w4,w5,w6,w7,w8,w9]
   have hS:0≤y1*131+y2*1117+pos*29+q*53∧y1*131+y2*1117+pos*29+q*53<1000000000000:=by omega
   generalize y1*131+y2*1117+pos*29+q*53=S at *
   have hd:=zm0 (a:=S) (b:=64) hS.1 (by omega)
   have w10:IntKind.i64.wrap (S.tdiv 64)=S.tdiv 64:=wr (by omega) (by omega)
   simp only[w10]
   exact⟨_,rfl,zen (zv_ hS.1 (by omega) hd.1 (by omega)) hb⟩
theorem ym8(n:Nat){l:List Int}(hl:∀ x∈l,0≤x∧x<256):∃ l',p45 n l=some (((l',0),()),())∧Bys l':=by
 show ∃ l',zje n l=_∧_
 simp only[zje]
 by_cases h:(2000:Int)<l.length
 ·have h2:(2000:Int)≤l.length:=by omega
  simp only[h,h2,decide_true,cond_true]
  refine⟨_,rfl,fun x hx=>hl x (List.mem_of_mem_take hx),?_⟩
  rw[List.length_take]
  exact Nat.min_le_left _ _
 ·simp only[h,decide_false,cond_false]
  exact⟨_,rfl,hl,by omega⟩
structure Rd(r:List Int×Int)(b:Nat):Prop where
 l:Bys r.1
 h0:0≤r.2
 h1:r.2≤(b:Int)
theorem Rd.pick{r:List Int×Int}{b:Nat}(h:Rd r b)(hb:b<900000)(n:Nat)(k:Int)(hk:1≤k):∃ v:Int,q48 n (r,k,())=some ((v,()),((r.1,r.2+1),()))∧0≤v∧v<k∧Rd (r.1,r.2+1) (b+1):=by
 have h1:=h.h0
 have h2:=h.h1
 obtain⟨v,e,hv⟩:=ym7 n (l:=r.1) h.l (pos:=r.2) (b:=k) ⟨h.h0,by omega⟩ hk
 exact⟨v,e,hv.1,hv.2,h.l,by simp only;omega,by simp only;omega⟩
theorem Rd.up{r:List Int×Int}{b c:Nat}(h:Rd r b)(hc:b≤c):Rd r c:=⟨h.l,h.h0,by have:=h.h1;omega⟩
theorem yfn(n:Nat)(M:Me)(w:Nat)(hw:w<M.2.2.1.length)(hs:M.2.2.1.length≤1000):q54 n (M,(w:Int),())=some (((rw' M.2.2.1 w).1,()),()):=by
 have e0:q54 n (M,(w:Int),())=zi_ n M w:=rfl
 rw[e0,zi_,zb2]
 have e1:IntKind.i64.wrap ((M.2.2.1.length:Int) - 1)=(M.2.2.1.length:Int) - 1:=wr (by omega) (by omega)
 have e2:decide ((w:Int)≤(M.2.2.1.length:Int) - 1)=true:=decide_eq_true (by omega)
 simp only[Option.bind_some,e1,e2,ge_t,lt_t hw,Bool.and_self,cond_true,zaa]
def frf(S:List Sp):Int:=if S.findIdx (fun s=>!s.1)<S.length then (S.findIdx (fun s=>!s.1):Int) else -1
theorem zqg(n:Nat)(x1:List ByteArray)(x2:List Int)(x3:List ByteArray)(x4:List Int)(x6:Int)(S:List Sp)(hs:S.length≤1000):∀ (rest done:List Sp) (m:Nat),done++rest=S→rest.length<m→(∀ s∈done,(!s.1)=false)→zt0 n m (done.length:Int) x1 x2 x3 x4 S x6=some ((frf S,()),())
 | [],done,0,hd,h,_=>by simp at h
 | [],done,m+1,hd,h,hz=>by
  have hd':done=S:=by simpa using hd
  subst hd'
  have hf:¬ done.findIdx (fun s=>!s.1)<done.length:=by
   rw[List.findIdx_lt_length]
   rintro ⟨x,hx,hh⟩
   rw[hz x hx]at hh;cases hh
  show zhp n _ _ _ _ _ _ _ _=_
  simp only[zhp,lt_f,cond_false,frf,if_neg hf]
 |x::rest,done,0,hd,h,_=>by simp at h
 |x::rest,done,m+1,hd,h,hz=>by
  have hl:done.length<S.length:=by rw[← hd];simp
  have hg:S.getD done.length (false,[],[])=x:=by rw[← hd];simp
  show zhp n _ _ _ _ _ _ _ _=_
  simp only[zhp,lt_t hl,ge_t,cond_true,zaa,hg]
  cases hx:(!x.1) with
  |true =>
   have hf:S.findIdx (fun s=>!s.1)=done.length:=by
    rw[← hd,List.findIdx_append,List.findIdx_eq_length_of_false hz]
    simp[List.findIdx_cons,hx]
   simp only[cond_true,frf,hf,if_pos hl]
  |false =>
   simp only[cond_false]
   have ih:=zqg n x1 x2 x3 x4 x6 S hs rest (done ++ [x]) m (by simpa using hd) (by simp at h; omega) (by
    intro y hy
    rcases List.mem_append.1 hy with hy|hy
    ·exact hz y hy
    ·rw[List.mem_singleton.1 hy];exact hx)
   simp only[List.length_append,List.length_cons,List.length_nil,Nat.zero_add]at ih
   rw[wS (by omega),ih]
theorem zw0(n:Nat)(hn:2000≤n)(M:Me)(hs:M.2.2.1.length≤1000):q93 n (M,())=some ((frf M.2.2.1,()),()) :=
 zqg n M.1.1 M.1.2 M.2.1.1 M.2.1.2 M.2.2.2 M.2.2.1 hs M.2.2.1 [] n rfl (by omega) (fun _ h=>by simp at h)
theorem zl4(S:List Sp):(frf S = -1∧frf S<0)∨∃ t:Nat,frf S=(t:Int)∧t<S.length∧(rw' S t).1=false:=by
 by_cases h:S.findIdx (fun s=>!s.1)<S.length
 ·refine .inr ⟨S.findIdx (fun s=>!s.1),by unfold frf;rw[if_pos h],h,?_⟩
  have this:(!(S[S.findIdx (fun s=>!s.1)]).1)=true:=List.findIdx_getElem (w:=h)
  rw[rw',List.getD_eq_getElem?_getD,List.getElem?_eq_getElem h]
  simpa using this
 ·refine .inl ⟨by unfold frf;rw[if_neg h],by unfold frf;rw[if_neg h];decide⟩
theorem MI.fill{M:Me}(hM:MI M){t:Nat}(ht:t<5)(hd:(rw' M.2.2.1 t).1=false):MI (M.1,M.2.1,M.2.2.1.set t (true,[],List.replicate (Int.toNat 16) (0,0,false,false)),M.2.2.2):=by
 have ht':t<M.2.2.1.length:=by rw[hM.sp.len];exact ht
 have hz:=(hM.sp.rw _ (zai (d:=(false,[],[])) ht')).dd hd
 have hc:∀ kd a:Int,kd≠0→told kd a (M.2.2.1.set t (true,[],List.replicate (Int.toNat 16) (0,0,false,false)))=told kd a M.2.2.1:=fun kd a hk=>by
  have h1:=zem kd a (true,[],List.replicate (Int.toNat 16) (0,0,false,false)) M.2.2.1 t ht'
  have h2:cnt kd a (List.replicate (Int.toNat 16) ((0,0,false,false):Ar))=0:=by
   unfold cnt
   rw[List.countP_eq_zero]
   intro x hx
   rw[(List.mem_replicate.1 hx).2]
   simp[isT,Ne.symm hk]
  have h3:cnt kd a (M.2.2.1.getD t (false,[],[])).2.2=0:=by rw[hz];rfl
  simp only at h1
  omega
 refine⟨SpI.set hM.sp ⟨by simp,fun _=>by simp,fun h=>(by cases h),fun x hx=>?_⟩,⟨hM.ram.l1,hM.ram.l2,fun i hi=>?_,hM.ram.s⟩,⟨hM.swp.l1,hM.swp.l2,fun i hi=>?_,hM.swp.s⟩,hM.h0,hM.h1⟩
 ·rw[(List.mem_replicate.1 hx).2];unfold SlI;simp
 ·simp only;rw[hc 1 i (by decide)];exact hM.ram.c i hi
 ·simp only;rw[hc 2 i (by decide)];exact hM.swp.c i hi
theorem yh6(n:Nat)(hn:2000≤n)(M:Me)(hM:MI M):∃ M' r ok,q28 n (M,())=some ((M',(r,(ok,()))),())∧(ok=true→MI M'):=by
 have e0:q28 n (M,())=zep n M:=rfl
 have h5:=hM.sp.len
 obtain⟨b,e1,_⟩:=zw1 n hn M hM.mw
 rw[e0,zep,e1]
 simp only[Option.bind_some]
 cases b with
 |false=>exact⟨_,_,_,rfl,fun h=>by cases h⟩
 |true =>
  simp only[Bool.not_true,cond_false]
  rw[zw0 n hn M (by omega)]
  simp only[Option.bind_some]
  rcases zl4 M.2.2.1 with ⟨_,h⟩|⟨t,h,ht,hd⟩
  ·simp only[h,decide_true,cond_true]
   exact⟨_,_,_,rfl,fun h=>by cases h⟩
  ·simp only[h,show decide ((t:Int)<0)=false from decide_eq_false (by omega),cond_false]
   rw[hM.copy n hn]
   simp only[Option.bind_some,ge_t,lt_t ht,cond_true,zaa]
   exact⟨_,_,_,rfl,fun _=>hM.fill (by omega) hd⟩
theorem MI.areas{M:Me}(hM:MI M){w:Nat}(hw:w<5){a:List Ar}(ha:a.length≤6):MI (M.1,M.2.1,M.2.2.1.set w ((rw' M.2.2.1 w).1,a,(rw' M.2.2.1 w).2.2),M.2.2.2):=by
 have hw':w<M.2.2.1.length:=by rw[hM.sp.len];exact hw
 have hr:=hM.sp.rw _ (zai (d:=(false,[],[])) hw')
 have hc:∀ kd i:Int,told kd i (M.2.2.1.set w ((rw' M.2.2.1 w).1,a,(rw' M.2.2.1 w).2.2))=told kd i M.2.2.1:=fun kd i=>by
  have h1:=zem kd i ((rw' M.2.2.1 w).1,a,(rw' M.2.2.1 w).2.2) M.2.2.1 w hw'
  simp only[rw']at h1 ⊢
  omega
 refine⟨SpI.set hM.sp ⟨ha,hr.lv,hr.dd,hr.sl⟩,⟨hM.ram.l1,hM.ram.l2,fun i hi=>?_,hM.ram.s⟩,⟨hM.swp.l1,hM.swp.l2,fun i hi=>?_,hM.swp.s⟩,hM.h0,hM.h1⟩
 ·simp only;rw[hc];exact hM.ram.c i hi
 ·simp only;rw[hc];exact hM.swp.c i hi
theorem ztt(n:Nat)(hn:2000≤n)(M:Me)(hM:MI M)(w:Nat)(hw:w<5)(x:Ar):∃ M' r,q108 n (M,(w:Int),x,())=some ((M',(r,())),())∧MI M'∧(∀ v,(rw' M'.2.2.1 v).1=(rw' M.2.2.1 v).1):=by
 have e0:q108 n (M,(w:Int),x,())=zgm n M w x:=rfl
 have hw':w<M.2.2.1.length:=by rw[hM.sp.len];exact hw
 have hr:=hM.sp.rw _ (zai (d:=(false,[],[])) hw')
 obtain⟨a,ok,e1,f1⟩:=ya8 n hn (rw' M.2.2.1 w).2.1 hr.ar x
 rw[e0,zgm]
 simp only[ge_t,lt_t hw',cond_true,zaa]
 rw[e1]
 simp only[Option.bind_some]
 cases ok with
 |false=>exact⟨_,_,rfl,hM,fun _=>rfl⟩
 |true =>
  refine⟨_,_,rfl,hM.areas hw (f1 rfl),fun v=>?_⟩
  by_cases e:v=w
  ·subst e;rw[rw',za4 hw']
  ·rw[rw',getD_set_ne hw' e]
theorem MI.dead{M:Me}(hM:MI M){w:Nat}(hw:w<5)(hz:∀ x∈(rw' M.2.2.1 w).2.2,x.1=0):MI (M.1,M.2.1,M.2.2.1.set w (false,[],[]),M.2.2.2):=by
 have hw':w<M.2.2.1.length:=by rw[hM.sp.len];exact hw
 have hc:∀ kd a:Int,kd≠0→told kd a (M.2.2.1.set w (false,[],[]))=told kd a M.2.2.1:=fun kd a hk=>by
  have h1:=zem kd a (false,[],[]) M.2.2.1 w hw'
  have h3:cnt kd a (M.2.2.1.getD w (false,[],[])).2.2=0:=by
   unfold cnt
   rw[List.countP_eq_zero]
   intro x hx
   rw[zbs (by rw[hz x hx];exact Ne.symm hk)]
   simp
  have h4:cnt kd a ([]:List Ar)=0:=rfl
  simp only at h1
  omega
 refine⟨SpI.set hM.sp ⟨by simp,fun h=>(by cases h),fun _=>rfl,fun x hx=>(by simp at hx)⟩,⟨hM.ram.l1,hM.ram.l2,fun i hi=>?_,hM.ram.s⟩,⟨hM.swp.l1,hM.swp.l2,fun i hi=>?_,hM.swp.s⟩,hM.h0,hM.h1⟩
 ·simp only;rw[hc 1 i (by decide)];exact hM.ram.c i hi
 ·simp only;rw[hc 2 i (by decide)];exact hM.swp.c i hi
theorem zwj{S:List Sp}{w p j:Nat}{y:Ar}(hw:w<S.length)(hp:p<(rw' S w).2.2.length)(hj:j≠p):sl (setS S w p y) w j=sl S w j:=by
 rw[sl,setS,za4 hw];exact getD_set_ne hp hj
theorem yna(M:Me)(w p:Nat):(lose M w p).2.2.1=setS M.2.2.1 w p (0,0,false,false):=by 
 unfold lose
 split
 ·rfl
 ·split <;> rfl
theorem zlq(n:Nat)(w:Nat)(hw:w<5)(x3:Int):∀ (d k m:Nat) (M:Me),MI M→(rw' M.2.2.1 w).2.2.length=16→k+d=16→d<m→(∀ i,i<k→(sl M.2.2.1 w i).1=0)→∃ M',zoy n m (w:Int) (k:Int) M.2.2.2 x3 M.1.1 M.1.2 M.2.1.1 M.2.1.2 M.2.2.1=some ((M',()),())∧MI M'
 |_,k,0,M,_,_,_,h,_=>by omega
 |0,k,m+1,M,hM,hl,hk,h,hz=>by
  obtain rfl:k=16:=by omega
  have hw':w<M.2.2.1.length:=by rw[hM.sp.len];exact hw
  show ∃ M',ze8 n _ _ _ _ _ _ _ _ _ _=_∧_
  simp only[ze8,ge_t,lt_t hw',cond_true,zaa]
  refine⟨_,rfl,hM.dead hw fun x hx=>?_⟩
  obtain⟨i,hi,rfl⟩:=List.getElem_of_mem hx
  have eg:(rw' M.2.2.1 w).2.2[i]=sl M.2.2.1 w i:=by rw[sl,List.getD_eq_getElem?_getD,List.getElem?_eq_getElem hi];rfl
  rw[eg];exact hz i (by omega)
 |d+1,k,m+1,M,hM,hl,hk,h,hz=>by
  have hw':w<M.2.2.1.length:=by rw[hM.sp.len];exact hw
  obtain⟨e1,e2,e3⟩:=zr8 n M hM w k hw (by omega)
  have ih:=zlq n w hw x3 d (k + 1) m (lose M w k) e2 (by rw [(e3 w).2.2]; exact hl) (by omega) (by omega) (fun i hi=>by
   rw[yna]
   by_cases e:i=k
   ·subst e;rw[zm1 hw' (by omega)]
   ·rw[zwj hw' (by omega) e];exact hz i (by omega))
  show ∃ M',ze8 n _ _ _ _ _ _ _ _ _ _=_∧_
  simp only[ze8,show decide ((k:Int)<16)=true from decide_eq_true (by omega),cond_true]
  have e1':q122 n (((M.1.1,M.1.2),(M.2.1.1,M.2.1.2),M.2.2.1,M.2.2.2),(w:Int),(k:Int),())=some ((lose M w k,()),()):=e1
  rw[e1']
  simp only[Option.bind_some,wS (show k≤1000000 by omega)]
  exact ih
theorem ybc(n:Nat)(hn:2000≤n)(M:Me)(hM:MI M)(w:Nat)(hw:w<5)(hl:(rw' M.2.2.1 w).2.2.length=16):∃ M',q103 n (M,(w:Int),())=some ((M',()),())∧MI M' :=
 zlq n w hw 0 16 0 n M hM hl (by omega) (by omega) (fun i hi=>by omega)
theorem zm7(n:Nat)(w f q:Nat)(hw:w<5)(hfq:f+q≤16)(x5:Int):∀ (d k m:Nat) (M:Me),MI M→(rw' M.2.2.1 w).2.2.length=16→k+d=f+q→d<m→∃ M' r,zql n m (w:Int) (f:Int) (q:Int) (k:Int) M.2.2.2 x5 M.1.1 M.1.2 M.2.1.1 M.2.1.2 M.2.2.1=some ((M',(r,())),())∧MI M'
 |_,k,0,M,_,_,_,h=>by omega
 |0,k,m+1,M,hM,hl,hk,h=>by
  have e:IntKind.i64.wrap ((f:Int)+(q:Int))=(f:Int)+(q:Int):=wr (by omega) (by omega)
  show ∃ M' r,zht n _ _ _ _ _ _ _ _ _ _ _ _=_∧_
  simp only[zht,e,show decide ((k:Int)<(f:Int)+(q:Int))=false from decide_eq_false (by omega),cond_false]
  exact⟨_,_,rfl,hM⟩
 |d+1,k,m+1,M,hM,hl,hk,h=>by
  have e:IntKind.i64.wrap ((f:Int)+(q:Int))=(f:Int)+(q:Int):=wr (by omega) (by omega)
  obtain⟨e1,e2,e3⟩:=zr8 n M hM w k hw (by omega)
  have ih:=zm7 n w f q hw hfq x5 d (k+1) m (lose M w k) e2 (by rw[(e3 w).2.2];exact hl) (by omega) (by omega)
  show ∃ M' r,zht n _ _ _ _ _ _ _ _ _ _ _ _=_∧_
  simp only[zht,e,show decide ((k:Int)<(f:Int)+(q:Int))=true from decide_eq_true (by omega),cond_true]
  have e1':q122 n (((M.1.1,M.1.2),(M.2.1.1,M.2.1.2),M.2.2.1,M.2.2.2),(w:Int),(k:Int),())=some ((lose M w k,()),()):=e1
  rw[e1']
  simp only[Option.bind_some,wS (show k≤1000000 by omega)]
  exact ih
theorem yh3(n:Nat)(hn:2000≤n)(M:Me)(hM:MI M)(w f q:Nat)(hw:w<5)(hl:(rw' M.2.2.1 w).2.2.length=16)(hfq:f+q≤16):∃ M' r,q55 n (M,(w:Int),(f:Int),(q:Int),())=some ((M',(r,())),())∧MI M':=by
 have e0:q55 n (M,(w:Int),(f:Int),(q:Int),())=zi9 n (zql n n) M w f q:=rfl
 have hw':w<M.2.2.1.length:=by rw[hM.sp.len];exact hw
 have hr:=hM.sp.rw _ (zai (d:=(false,[],[])) hw')
 obtain⟨a,ok,e1,f1⟩:=ya9 n hn (rw' M.2.2.1 w).2.1 hr.ar f q
 rw[e0,zi9]
 simp only[ge_t,lt_t hw',cond_true,zaa]
 rw[e1]
 simp only[Option.bind_some]
 cases ok with
 |false=>exact⟨_,_,rfl,hM⟩
 |true =>
  exact zm7 n w f q hw hfq 0 q f n (M.1,M.2.1,M.2.2.1.set w ((rw' M.2.2.1 w).1,a,(rw' M.2.2.1 w).2.2),M.2.2.2) (hM.areas hw (f1 rfl)) (by rw[rw',za4 hw'];exact hl) (by omega) (by omega)
theorem PgC.inc{P:Pg}{c:Nat→Nat}(h:PgC P c){k:Nat}(hk:k<12)(hc:1≤c k):PgC (P.1,P.2.set k (P.2.getD k 0+1)) (fun i=>if i=k then c i+1 else c i):=by
 have l1:=h.l1
 have l2:=h.l2
 refine⟨l1,by simpa using l2,fun i hi=>?_,fun i hi hz=>?_⟩
 ·simp only
  rw[zay _ _ _ _ _ (by omega)]
  by_cases e:i=k
  ·subst e;rw[if_pos rfl,if_pos rfl,h.c i hi];omega
  ·rw[if_neg e,if_neg e];exact h.c i hi
 ·simp only at hz ⊢
  rw[zay _ _ _ _ _ (by omega)]at hz
  by_cases e:i=k
  ·subst e
   have:=h.c i hi
   exact h.s i hi (by omega)
  ·rw[if_neg e]at hz;exact h.s i hi hz
theorem PgC.congr{P:Pg}{c c':Nat→Nat}(h:PgC P c)(e:∀ i,i<12→c i=c' i):PgC P c':=⟨h.l1,h.l2,fun i hi=>by rw[← e i hi];exact h.c i hi,h.s⟩
theorem ztd(y:Ar):∀ (l:List Ar) (j:Nat),j<l.length→(l.set j y).take (j+1)=l.take j++[y]
 | [],j,h=>by simp at h
 |x::l,0,h=>by simp
 |x::l,j+1,h=>by
  have:=ztd y l j (by simp at h;omega)
  simp only[List.set_cons_succ,List.take_succ_cons,List.cons_append,this]
theorem ykl(kd a:Int)(l r:List Ar):cnt kd a (l++r)=cnt kd a l+cnt kd a r:=List.countP_append
structure FI(w t j:Nat)(R W:Pg)(S:List Sp):Prop where
 sp:SpI S
 lv:(rw' S w).1=true
 td:(rw' S t).1=false
 r:PgC R (fun i=>told 1 i S+cnt 1 i ((rw' S w).2.2.take j))
 s:PgC W (fun i=>told 2 i S+cnt 2 i ((rw' S w).2.2.take j))
theorem FI.len{w t j:Nat}{R W:Pg}{S:List Sp}(h:FI w t j R W S)(hw:w<5):(rw' S w).2.2.length=16 :=
 (h.sp.rw _ (zai (by rw[h.sp.len];exact hw))).lv h.lv
theorem zbw(kd i:Int){S:List Sp}{w j:Nat}{y:Ar}(hw:w<S.length)(hj:j<(rw' S w).2.2.length)(hy:y.1=(sl S w j).1∧y.2.1=(sl S w j).2.1) :
  told kd i (setS S w j y)+cnt kd i ((rw' (setS S w j y) w).2.2.take (j+1))=told kd i S+cnt kd i ((rw' S w).2.2.take j)+(if isT kd i (sl S w j) then 1 else 0):=by
 rw[zj2 hw hj hy]
 have:rw' (setS S w j y) w=((rw' S w).1,(rw' S w).2.1,(rw' S w).2.2.set j y):=za4 hw
 rw[this]
 simp only
 rw[ztd y _ j hj,ykl,zb0,zug hy]
 have:cnt kd i ([]:List Ar)=0:=rfl
 omega
theorem FI.base{w t j:Nat}{R W:Pg}{S:List Sp}(h:FI w t j R W S)(hw:w<5)(ht:t<5)(hne:t≠w)(hj:j<16){y:Ar}(hy:y.1=(sl S w j).1∧y.2.1=(sl S w j).2.1) :
  SpI (setS S w j y)∧(rw' (setS S w j y) w).1=true∧(rw' (setS S w j y) t).1=false:=by
 have hl:=h.len hw
 have hw':w<S.length:=by rw[h.sp.len];exact hw
 have hs:=h.sp.slI hw (p:=j) (by omega)
 have hyI:SlI y:=by unfold SlI at hs ⊢;rw[hy.1,hy.2];exact hs
 refine⟨h.sp.setS hw hyI,?_,?_⟩
 ·rw[(RS.set S w j y hw' w).1];exact h.lv
 ·rw[(RS.set S w j y hw' t).1];exact h.td
theorem FI.s0{w t j:Nat}{R W:Pg}{S:List Sp}(h:FI w t j R W S)(hw:w<5)(ht:t<5)(hne:t≠w)(hj:j<16){y:Ar}(hy:y.1=(sl S w j).1∧y.2.1=(sl S w j).2.1)(h0:(sl S w j).1=0):FI w t (j+1) R W (setS S w j y):=by
 have hw':w<S.length:=by rw[h.sp.len];exact hw
 have hl:=h.len hw
 obtain⟨b1,b2,b3⟩:=h.base hw ht hne hj hy
 refine⟨b1,b2,b3,h.r.congr fun i _=>?_,h.s.congr fun i _=>?_⟩
 ·rw[zbw 1 i hw' (by omega) hy,zbs (by rw[h0];decide)];simp
 ·rw[zbw 2 i hw' (by omega) hy,zbs (by rw[h0];decide)];simp
theorem FI.s1{w t j:Nat}{R W:Pg}{S:List Sp}(h:FI w t j R W S)(hw:w<5)(ht:t<5)(hne:t≠w)(hj:j<16){y:Ar}(hy:y.1=(sl S w j).1∧y.2.1=(sl S w j).2.1){k:Nat}(hk:k<12)(h1:(sl S w j).1=1)(h2:(sl S w j).2.1=(k:Int)):FI w t (j+1) (R.1,R.2.set k (R.2.getD k 0+1)) W (setS S w j y):=by
 have hw':w<S.length:=by rw[h.sp.len];exact hw
 have hl:=h.len hw
 obtain⟨b1,b2,b3⟩:=h.base hw ht hne hj hy
 have hpos:0<told 1 k S:=zcy (zai hw') (zai (show j<(rw' S w).2.2.length by omega)) (za2.2 ⟨h1,h2⟩)
 refine⟨b1,b2,b3,(h.r.inc hk (by omega)).congr fun i _=>?_,h.s.congr fun i _=>?_⟩
 ·rw[zbw 1 i hw' (by omega) hy]
  have e1:isT 1 i (sl S w j)=decide (i=k):=by
   unfold isT;rw[h1,h2]
   by_cases e:i=k
   ·simp[e]
   ·simp[e];omega
  rw[e1]
  by_cases e:i=k
  ·simp[e]
  ·simp[e]
 ·rw[zbw 2 i hw' (by omega) hy,zbs (by rw[h1];decide)];simp
theorem FI.s2{w t j:Nat}{R W:Pg}{S:List Sp}(h:FI w t j R W S)(hw:w<5)(ht:t<5)(hne:t≠w)(hj:j<16){y:Ar}(hy:y.1=(sl S w j).1∧y.2.1=(sl S w j).2.1){k:Nat}(hk:k<12)(h1:(sl S w j).1=2)(h2:(sl S w j).2.1=(k:Int)):FI w t (j+1) R (W.1,W.2.set k (W.2.getD k 0+1)) (setS S w j y):=by
 have hw':w<S.length:=by rw[h.sp.len];exact hw
 have hl:=h.len hw
 obtain⟨b1,b2,b3⟩:=h.base hw ht hne hj hy
 have hpos:0<told 2 k S:=zcy (zai hw') (zai (show j<(rw' S w).2.2.length by omega)) (za2.2 ⟨h1,h2⟩)
 refine⟨b1,b2,b3,h.r.congr fun i _=>?_,(h.s.inc hk (by omega)).congr fun i _=>?_⟩
 ·rw[zbw 1 i hw' (by omega) hy,zbs (by rw[h1];decide)];simp
 ·rw[zbw 2 i hw' (by omega) hy]
  have e1:isT 2 i (sl S w j)=decide (i=k):=by
   unfold isT;rw[h1,h2]
   by_cases e:i=k
   ·simp[e]
   ·simp[e];omega
  rw[e1]
  by_cases e:i=k
  ·simp[e]
  ·simp[e]
theorem FI.fin{w t:Nat}{R W:Pg}{S:List Sp}{h:Int}(hF:FI w t 16 R W S)(hw:w<5)(ht:t<5)(hne:t≠w)(hh:0≤h∧h<12):MI (R,W,S.set t (true,(rw' S w).2.1,(rw' S w).2.2),h):=by
 have ht':t<S.length:=by rw[hF.sp.len];exact ht
 have hw':w<S.length:=by rw[hF.sp.len];exact hw
 have hl:=hF.len hw
 have hr:=hF.sp.rw _ (zai (d:=(false,[],[])) hw')
 have hz:=(hF.sp.rw _ (zai (d:=(false,[],[])) ht')).dd hF.td
 have hc:∀ kd a:Int,told kd a (S.set t (true,(rw' S w).2.1,(rw' S w).2.2))=told kd a S+cnt kd a (rw' S w).2.2:=fun kd a=>by
  have h1:=zem kd a (true,(rw' S w).2.1,(rw' S w).2.2) S t ht'
  have h3:cnt kd a (S.getD t (false,[],[])).2.2=0:=by rw[hz];rfl
  simp only at h1
  omega
 have htk:(rw' S w).2.2.take 16=(rw' S w).2.2:=List.take_of_length_le (by omega)
 refine⟨SpI.set hF.sp ⟨hr.ar,fun _=>hl,fun h=>(by cases h),hr.sl⟩,hF.r.toI fun i hi=>?_,hF.s.toI fun i hi=>?_,hh.1,hh.2⟩
 ·rw[hc,htk]
 ·rw[hc,htk]
theorem PgC.get_le{P:Pg}{c:Nat→Nat}(h:PgC P c)(hc:∀ i,c i≤100000){k:Nat}(hk:k<12):0≤P.2.getD k 0∧P.2.getD k 0≤100000:=by
 have:=h.c k hk
 have:=hc k
 omega
theorem FI.bnd{w t j:Nat}{R W:Pg}{S:List Sp}(h:FI w t j R W S)(hw:w<5)(kd i:Int):told kd i S+cnt kd i ((rw' S w).2.2.take j)≤100000:=by
 have h1:=h.sp.told kd i
 have h2:=zrj kd i ((rw' S w).2.2.take j)
 have h3:=h.len hw
 have h4:((rw' S w).2.2.take j).length≤(rw' S w).2.2.length:=by rw[List.length_take];omega
 omega
theorem zio(n:Nat)(hn:2000≤n)(w t:Nat)(hw:w<5)(ht:t<5)(hne:t≠w)(x4 h:Int)(hh:0≤h∧h<12):∀ (d j m:Nat) (R W:Pg) (S:List Sp),FI w t j R W S→j+d=16→d<m→∃ M',zjr n m (w:Int) (t:Int) (j:Int) h x4 R.1 R.2 W.1 W.2 S=some ((M',((t:Int),())),())∧MI M'
 |_,j,0,R,W,S,_,_,hm=>by omega
 |0,j,m+1,R,W,S,hF,hj,hm=>by
  obtain rfl:j=16:=by omega
  have ht':t<S.length:=by rw[hF.sp.len];exact ht
  have hw':w<S.length:=by rw[hF.sp.len];exact hw
  have hl:=hF.len hw
  have hr:=hF.sp.rw _ (zai (d:=(false,[],[])) hw')
  have har:=hr.ar
  have e1:decide ((0+(S.getD w (false,[],[])).2.1.length)*(24:Nat)≤140737488355328)=true:=decide_eq_true (by omega)
  have e2:decide ((0+(S.getD w (false,[],[])).2.2.length)*(24:Nat)≤140737488355328)=true:=decide_eq_true (by simp only[rw']at hl;omega)
  show ∃ M',zde n _ _ _ _ _ _ _ _ _ _ _=_∧_
  simp only[zde,ge_t,lt_t hw',lt_t ht',cond_true,zaa,e1,e2]
  exact⟨_,rfl,hF.fin hw ht hne hh⟩
 |d+1,j,m+1,R,W,S,hF,hj,hm=>by
  have hw':w<S.length:=by rw[hF.sp.len];exact hw
  have hl:=hF.len hw
  have hr:=hF.sp.rw _ (zai (d:=(false,[],[])) hw')
  have har:(rw' S w).2.1.length≤6:=hr.ar
  have hjl:j<(rw' S w).2.2.length:=by omega
  have hsl:=hF.sp.slI hw hjl
  have ih:=fun R W S hF=>zio n hn w t hw ht hne x4 h hh d (j+1) m R W S hF (by omega) (by omega)
  have hq:=zoj n hn ((rw' S w).1,(rw' S w).2.1,(rw' S w).2.2) (by simp only;omega) j
  have hR2:=hF.r.l2
  have hW2:=hF.s.l2
  show ∃ M',zde n _ _ _ _ _ _ _ _ _ _ _=_∧_
  simp only[zde,show decide ((j:Int)<16)=true from decide_eq_true (by omega),ge_t,lt_t hw',lt_t hjl,cond_true,zaa]
  rw[hq]
  simp only[Option.bind_some,wS (show j≤1000000 by omega)]
  by_cases h1:(sl S w j).1=1
  ·have hat:=hsl.2.2 (by rw[h1];decide)
   obtain⟨k,hk⟩:=Int.eq_ofNat_of_zero_le hat.1
   have hk2:k<12:=by omega
   have hg:=hF.r.get_le (hF.bnd hw 1 ·) hk2
   have key:∀ y:Ar,y.1=(sl S w j).1∧y.2.1=(sl S w j).2.1→_:=fun y hy=>ih _ _ _ (hF.s1 hw ht hne (by omega) hy hk2 h1 hk)
   simp only[h1,decide_true,cond_true,hk,ge_t,lt_t (show k<R.2.length by omega),zaa,wr (show -9223372036854775808≤R.2.getD k 0+1 by omega) (by omega)]
   cases hb:(!(decide (0≤at2 (rw' S w).2.1 j)&&((rw' S w).2.1.getD (at2 (rw' S w).2.1 j).toNat (0,0,false,false)).2.2.2)) with
   |false=>exact key _ ⟨h1.symm,hk.symm⟩
   |true=>exact key _ ⟨h1.symm,hk.symm⟩
  ·by_cases h2:(sl S w j).1=2
   ·have hat:=hsl.2.2 (by rw[h2];decide)
    obtain⟨k,hk⟩:=Int.eq_ofNat_of_zero_le hat.1
    have hk2:k<12:=by omega
    have hg:=hF.s.get_le (hF.bnd hw 2 ·) hk2
    have key:∀ y:Ar,y.1=(sl S w j).1∧y.2.1=(sl S w j).2.1→_:=fun y hy=>ih _ _ _ (hF.s2 hw ht hne (by omega) hy hk2 h2 hk)
    simp only[h2,decide_true,cond_true,hk,ge_t,lt_t (show k<W.2.length by omega),zaa,wr (show -9223372036854775808≤W.2.getD k 0+1 by omega) (by omega),show decide ((2:Int)=1)=false from rfl,cond_false]
    cases hb:(!(decide (0≤at2 (rw' S w).2.1 j)&&((rw' S w).2.1.getD (at2 (rw' S w).2.1 j).toNat (0,0,false,false)).2.2.2)) with
    |false=>exact key _ ⟨h2.symm,hk.symm⟩
    |true=>exact key _ ⟨h2.symm,hk.symm⟩
   ·have h0:(sl S w j).1=0:=by have:=hsl.1;have:=hsl.2.1;omega
    have key:∀ y:Ar,y.1=(sl S w j).1∧y.2.1=(sl S w j).2.1→_:=fun y hy=>ih _ _ _ (hF.s0 hw ht hne (by omega) hy h0)
    simp only[h1,h2,decide_false,cond_false]
    cases hb:(!(decide (0≤at2 (rw' S w).2.1 j)&&((rw' S w).2.1.getD (at2 (rw' S w).2.1 j).toNat (0,0,false,false)).2.2.2)) with
    |false=>exact key _ ⟨rfl,rfl⟩
    |true=>exact key _ ⟨rfl,rfl⟩
theorem zfz(n:Nat)(hn:2000≤n)(w t:Nat)(hw:w<5)(ht:t<5)(hne:t≠w)(x4:Int):∀ (d j m:Nat) (M:Me),MI M→(rw' M.2.2.1 w).1=true→(rw' M.2.2.1 t).1=false→j+d=16→d<m→∃ M' r,zli n m (w:Int) (t:Int) (j:Int) M.2.2.2 x4 M.1.1 M.1.2 M.2.1.1 M.2.1.2 M.2.2.1=some ((M',(r,())),())∧MI M'
 |_,j,0,M,_,_,_,_,hm=>by omega
 |0,j,m+1,M,hM,hlv,htd,hj,hm=>by
  obtain rfl:j=16:=by omega
  have hF:FI w t 0 M.1 M.2.1 M.2.2.1:=⟨hM.sp,hlv,htd,hM.ram.toC.congr fun i _=>by simp[cnt],hM.swp.toC.congr fun i _=>by simp[cnt]⟩
  obtain⟨M',e1,e2⟩:=zio n hn w t hw ht hne x4 M.2.2.2 ⟨hM.h0,hM.h1⟩ 16 0 n M.1 M.2.1 M.2.2.1 hF (by omega) (by omega)
  show ∃ M' r,ze2 n _ _ _ _ _ _ _ _ _ _ _ _=_∧_
  simp only[ze2]
  exact⟨M',t,e1,e2⟩
 |d+1,j,m+1,M,hM,hlv,htd,hj,hm=>by
  have hw':w<M.2.2.1.length:=by rw[hM.sp.len];exact hw
  have hr:=hM.sp.rw _ (zai (d:=(false,[],[])) hw')
  have har:=hr.ar
  have hl:=hr.lv hlv
  have hjl:j<(rw' M.2.2.1 w).2.2.length:=by simp only[rw'];omega
  have hq:=zoj n hn ((rw' M.2.2.1 w).1,(rw' M.2.2.1 w).2.1,(rw' M.2.2.1 w).2.2) (by simp only;simp only[rw'];omega) j
  have ih:=zfz n hn w t hw ht hne x4 d (j+1) m M hM hlv htd (by omega) (by omega)
  show ∃ M' r,ze2 n _ _ _ _ _ _ _ _ _ _ _ _=_∧_
  simp only[ze2,show decide ((j:Int)<16)=true from decide_eq_true (by omega),ge_t,lt_t hw',lt_t hjl,cond_true,zaa]
  rw[hq]
  simp only[Option.bind_some,wS (show j≤1000000 by omega)]
  cases (decide (0≤at2 (rw' M.2.2.1 w).2.1 j)&&((rw' M.2.2.1 w).2.1.getD (at2 (rw' M.2.2.1 w).2.1 j).toNat (0,0,false,false)).2.2.2) with
  |false=>exact ih
  |true =>
   cases decide ((sl M.2.2.1 w j).1=0) with
   |false=>exact ih
   |true =>
    simp only[cond_true]
    rcases zr7 n hn M hM w j hw hjl with ⟨M1,a1,a2,a3,_⟩|⟨a1,a2⟩
    ·have a1':q153 n (((M.1.1,M.1.2),(M.2.1.1,M.2.1.2),M.2.2.1,M.2.2.2),(w:Int),(j:Int),())=some ((M1,(true,())),()):=a1
     rw[a1']
     simp only[Option.bind_some,cond_true,Bool.not_true,cond_false]
     exact zfz n hn w t hw ht hne x4 d (j+1) m M1 a2 (by rw[(a3 w).1];exact hlv) (by rw[(a3 t).1];exact htd) (by omega) (by omega)
    ·have a1':q153 n (((M.1.1,M.1.2),(M.2.1.1,M.2.1.2),M.2.2.1,M.2.2.2),(w:Int),(j:Int),())=some ((M,(false,())),()):=a1
     have a2':zfg n (((M.1.1,M.1.2),(M.2.1.1,M.2.1.2),M.2.2.1,M.2.2.2),(w:Int),(j:Int),())=some ((false,()),(M,())):=a2
     rw[a1',a2']
     exact⟨M,-1,rfl,hM⟩
theorem ya7(n:Nat)(hn:2000≤n)(M:Me)(hM:MI M)(w:Nat)(hw:w<5)(hlv:(rw' M.2.2.1 w).1=true):∃ M' r,q155 n (M,(w:Int),())=some ((M',(r,())),())∧MI M':=by
 have h5:=hM.sp.len
 have e0:q155 n (M,(w:Int),())=zf_ n (zli n n) M w:=rfl
 rw[e0,zf_,zw0 n hn M (by omega)]
 simp only[Option.bind_some]
 rcases zl4 M.2.2.1 with ⟨_,h⟩|⟨t,h,ht,hd⟩
 ·simp only[h,decide_true,cond_true]
  exact⟨M,-1,rfl,hM⟩
 ·simp only[h,show decide ((t:Int)<0)=false from decide_eq_false (by omega),cond_false]
  exact zfz n hn w t hw (by omega) (fun e=>by rw[e,hlv]at hd;cases hd) 0 16 0 n M hM hlv hd (by omega) (by omega)
def w72(t:ByteArray)(j:Nat)(d:Int):ByteArray:=t.extract 0 j++List.foldl (fun r n=>r.push (UInt8.ofNat n.toNat)) ByteArray.empty [IntKind.u8.wrap d]++t.extract (j+1) t.size
theorem yah{t:ByteArray}{j:Nat}(d:Int)(h:j<t.size):(w72 t j d).size=t.size:=by
 unfold w72
 simp only[ByteArray.size_append,ByteArray.size_extract,List.foldl_cons,List.foldl_nil,ByteArray.size_push,ByteArray.size_empty]
 omega
theorem ymx(n:Nat)(t:ByteArray)(j:Nat)(d:Int)(h:j<t.size)(hs:t.size≤1000):q72 n (t,(j:Int),d,())=some ((w72 t j d,()),()):=by
 have e0:q72 n (t,(j:Int),d,())=ziz n t j d:=rfl
 have s1:(t.extract 0 j).size=j:=by rw[ByteArray.size_extract];omega
 have s2:(List.foldl (fun r (n:Int)=>r.push (UInt8.ofNat n.toNat)) ByteArray.empty [IntKind.u8.wrap d]).size=1:=by simp[ByteArray.size_push]
 have s3:(t.extract (j+1) t.size).size=t.size - (j+1):=by rw[ByteArray.size_extract];omega
 rw[e0,ziz]
 simp only[ge_t,zaa,show decide ((j:Int)≤(t.size:Int))=true from decide_eq_true (by omega),cond_true,wS (show j≤1000000 by omega),show (Int.toNat 0)=0 from rfl,ByteArray.size_append,s1,s2,s3]
 simp only[show decide (j+1≤9223372036854775807)=true from decide_eq_true (by omega),show decide (((j+1:Nat):Int)≤(t.size:Int))=true from decide_eq_true (by omega),show decide (j+1+(t.size - (j+1))≤9223372036854775807)=true from decide_eq_true (by omega),cond_true]
 rfl
theorem MI.text{M:Me}(hM:MI M){k:Nat}{t:ByteArray}(hk:k<12)(ht:t.size=4):MI ((M.1.1.set k t,M.1.2),M.2):=by
 have l1:=hM.ram.l1
 refine⟨hM.sp,⟨by simpa using l1,hM.ram.l2,hM.ram.c,fun i hi hz=>?_⟩,hM.swp,hM.h0,hM.h1⟩
 simp only
 rw[zay _ _ _ _ _ (by omega)]
 by_cases e:i=k
 ·rw[if_pos e];exact ht
 ·rw[if_neg e];exact hM.ram.s i hi hz
theorem td4{c:Nat}(h:c<64):IntKind.i64.wrap ((c:Int).tdiv 4)=((c / 4:Nat):Int):=by
 have:(c:Int).tdiv 4=((c / 4:Nat):Int):=rfl
 rw[this,wr (by omega) (by omega)]
theorem tm4(c:Nat):(c:Int).tmod 4=((c % 4:Nat):Int):=rfl
theorem MI.frame{M:Me}(hM:MI M){w p:Nat}(hw:w<5)(hp:p<(rw' M.2.2.1 w).2.2.length)(h1:(sl M.2.2.1 w p).1=1):∃ k:Nat,(sl M.2.2.1 w p).2.1=(k:Int)∧k<12∧(M.1.1.getD k ByteArray.empty).size=4:=by
 have hw':w<M.2.2.1.length:=by rw[hM.sp.len];exact hw
 have hat:=(hM.sp.slI hw hp).2.2 (by rw[h1];decide)
 obtain⟨k,hk⟩:=Int.eq_ofNat_of_zero_le hat.1
 have hk2:k<12:=by omega
 have hpos:0<told 1 k M.2.2.1:=zcy (zai hw') (zai hp) (za2.2 ⟨h1,hk⟩)
 have hc:=hM.ram.c k hk2
 exact⟨k,hk,hk2,hM.ram.s k hk2 (by omega)⟩
theorem zts(n:Nat)(hn:2000≤n)(M:Me)(hM:MI M)(w c:Nat)(d:Int)(hw:w<5)(hlv:(rw' M.2.2.1 w).1=true)(hc:c<64):∃ M' r,q109 n (M,(w:Int),(c:Int),d,())=some ((M',(r,())),())∧MI M'∧RS M.2.2.1 M'.2.2.1:=by
 have hw':w<M.2.2.1.length:=by rw[hM.sp.len];exact hw
 have hr:=hM.sp.rw _ (zai (d:=(false,[],[])) hw')
 have har:(rw' M.2.2.1 w).2.1.length≤6:=hr.ar
 have hl:(rw' M.2.2.1 w).2.2.length=16:=hr.lv hlv
 have hrg:=zl8 (rw' M.2.2.1 w).2.1 ((c / 4:Nat):Int)
 have e0:q109 n (M,(w:Int),(c:Int),d,())=zgl n M w c d:=rfl
 rw[e0,zgl]
 simp only[ge_t,lt_t hw',cond_true,zaa,td4 hc,tm4]
 rw[zqd n hn (rw' M.2.2.1 w).2.1 _ (by omega)]
 simp only[Option.bind_some]
 by_cases h1:at2 (rw' M.2.2.1 w).2.1 ((c / 4:Nat):Int)<0
 ·simp only[h1,decide_true,cond_true]
  exact⟨M,2,rfl,hM,RS.refl _⟩
 ·simp only[h1,decide_false,cond_false,show decide (0≤at2 (rw' M.2.2.1 w).2.1 ((c / 4:Nat):Int))=true from decide_eq_true (by omega),hrg.2,decide_true,cond_true]
  cases ((rw' M.2.2.1 w).2.1.getD (at2 (rw' M.2.2.1 w).2.1 ((c / 4:Nat):Int)).toNat (0,0,false,false)).2.2.1 with
  |false=>exact⟨M,3,rfl,hM,RS.refl _⟩
  |true =>
   simp only[Bool.not_true,cond_false]
   rw[hM.copy n hn]
   simp only[Option.bind_some]
   rcases zr7 n hn M hM w (c / 4) hw (by omega) with ⟨M1,a1,a2,a3,a4⟩|⟨a1,a2⟩
   ·rw[a1]
    simp only[Option.bind_some,cond_true]
    have hp1:c / 4<(rw' M1.2.2.1 w).2.2.length:=by rw[(a3 w).2.2];omega
    rcases yia n hn M1 a2 w (c / 4) hw hp1 a4 with ⟨M2,b1,b2,b3,b4⟩|b1
    ·rw[b1]
     have hw2:w<M2.2.2.1.length:=by rw[b2.sp.len];exact hw
     have hp2:c / 4<(rw' M2.2.2.1 w).2.2.length:=by rw[(b3 w).2.2];exact hp1
     obtain⟨k,hk1,hk2,hk3⟩:=b2.frame hw hp2 b4
     have l1:=b2.ram.l1
     have hq:=ymx n (M2.1.1.getD k ByteArray.empty) (c % 4) d (by omega) (by omega)
     simp only[Option.bind_some,Bool.not_true,cond_false,ge_t,lt_t hw2,lt_t hp2,cond_true,zaa,hk1,lt_t (show k<M2.1.1.length by omega)]
     rw[hq]
     simp only[Option.bind_some,ge_t,cond_true]
     exact⟨_,_,rfl,b2.text hk2 (by rw[yah d (by omega)];exact hk3),a3.trans b3⟩
    ·rw[b1]
     exact⟨M,4,rfl,hM,RS.refl _⟩
   ·rw[a1]
    exact⟨M,4,rfl,hM,RS.refl _⟩
theorem ya6(n:Nat)(hn:2000≤n)(M:Me)(hM:MI M)(w c:Nat)(hw:w<5)(hlv:(rw' M.2.2.1 w).1=true)(hc:c<64):∃ M' r s,q156 n (M,(w:Int),(c:Int),())=some ((M',(r,(s,()))),())∧MI M':=by
 have hw':w<M.2.2.1.length:=by rw[hM.sp.len];exact hw
 have hr:=hM.sp.rw _ (zai (d:=(false,[],[])) hw')
 have har:(rw' M.2.2.1 w).2.1.length≤6:=hr.ar
 have hl:(rw' M.2.2.1 w).2.2.length=16:=hr.lv hlv
 have e0:q156 n (M,(w:Int),(c:Int),())=zf9 n M w c:=rfl
 rw[e0,zf9]
 simp only[ge_t,lt_t hw',cond_true,zaa,td4 hc,tm4]
 rw[zqd n hn (rw' M.2.2.1 w).2.1 _ (by omega)]
 simp only[Option.bind_some]
 cases decide (at2 (rw' M.2.2.1 w).2.1 ((c / 4:Nat):Int)<0) with
 |true=>exact⟨M,-1,2,rfl,hM⟩
 |false =>
  simp only[cond_false]
  rw[hM.copy n hn]
  simp only[Option.bind_some]
  rcases zr7 n hn M hM w (c / 4) hw (by omega) with ⟨M1,a1,a2,a3,a4⟩|⟨a1,a2⟩
  ·rw[a1]
   have hw1:w<M1.2.2.1.length:=by rw[a2.sp.len];exact hw
   have hp1:c / 4<(rw' M1.2.2.1 w).2.2.length:=by rw[(a3 w).2.2];omega
   obtain⟨k,hk1,hk2,hk3⟩:=a2.frame hw hp1 a4
   have l1:=a2.ram.l1
   simp only[Option.bind_some,Bool.not_true,cond_false,ge_t,lt_t hw1,lt_t hp1,cond_true,zaa,hk1,lt_t (show k<M1.1.1.length by omega),lt_t (show c % 4<(M1.1.1.getD k ByteArray.empty).size by omega)]
   exact⟨M1,_,_,rfl,a2⟩
  ·rw[a1]
   exact⟨M,-1,4,rfl,hM⟩
theorem ybb(n:Nat)(hn:2000≤n)(r:List Int×Int)(b:Nat)(hr:Rd r b)(hb:b≤10000)(M:Me)(hM:MI M):∃ M' r',q110 n (r,M,())=some ((M',()),(r',()))∧MI M'∧Rd r' (b+10):=by
 have h5:=hM.sp.len
 have e0:q110 n (r,M,())=zgk n r M:=rfl
 have core:∀ (r:List Int×Int) (w:Nat),Rd r (b+1)→w<5→(rw' M.2.2.1 w).1=true→∃ M' r',((q48 n (r,64,())).bind fun r4=>(q48 n (r4.2.1,14,())).bind fun r5=>cond (decide (r5.1.1=0)) ((q56 n (M,())).bind fun r6=>(q155 n (r6.1.1,(w:Int),())).bind fun r7=>cond (decide (0≤r7.1.2.1)) (some ((r7.1.1,()),(r5.2.1,()))) (some ((M,()),(r5.2.1,())))) (cond (decide (r5.1.1=1)) ((q56 n (M,())).bind fun r8=>(q48 n (r5.2.1,12,())).bind fun r9=>(q48 n (r9.2.1,4,())).bind fun r10=>(q55 n (r8.1.1,(w:Int),r9.1.1,IntKind.i64.wrap (1+r10.1.1),())).bind fun r11=>some ((r11.1.1,()),(r10.2.1,()))) (cond (decide (r5.1.1=2)) ((q56 n (M,())).bind fun r12=>(q48 n (r5.2.1,12,())).bind fun r13=>(q48 n (r13.2.1,4,())).bind fun r14=>(q48 n (r14.2.1,5,())).bind fun r15=>(q48 n (r15.2.1,3,())).bind fun r16=>(q108 n (r12.1.1,(w:Int),(r13.1.1,IntKind.i64.wrap (1+r14.1.1),decide (0<r15.1.1),decide (r16.1.1=0)),())).bind fun r17=>some ((r17.1.1,()),(r16.2.1,()))) (cond (decide (r5.1.1=3)) ((q56 n (M,())).bind fun r12=>(q48 n (r5.2.1,12,())).bind fun r13=>(q48 n (r13.2.1,4,())).bind fun r14=>(q48 n (r14.2.1,5,())).bind fun r15=>(q48 n (r15.2.1,3,())).bind fun r16=>(q108 n (r12.1.1,(w:Int),(r13.1.1,IntKind.i64.wrap (1+r14.1.1),decide (0<r15.1.1),decide (r16.1.1=0)),())).bind fun r17=>some ((r17.1.1,()),(r16.2.1,()))) (cond (decide (r5.1.1=4)) ((q56 n (M,())).bind fun r12=>(q48 n (r5.2.1,12,())).bind fun r13=>(q48 n (r13.2.1,4,())).bind fun r14=>(q48 n (r14.2.1,5,())).bind fun r15=>(q48 n (r15.2.1,3,())).bind fun r16=>(q108 n (r12.1.1,(w:Int),(r13.1.1,IntKind.i64.wrap (1+r14.1.1),decide (0<r15.1.1),decide (r16.1.1=0)),())).bind fun r17=>some ((r17.1.1,()),(r16.2.1,()))) (cond (decide (r5.1.1=5)) ((q48 n (r5.2.1,4,())).bind fun r30=>cond (decide (r30.1.1=0)) ((q56 n (M,())).bind fun r31=>(q103 n (r31.1.1,(w:Int),())).bind fun r32=>some ((r32.1.1,()),(r30.2.1,()))) (some ((M,()),(r30.2.1,())))) (cond (decide (r5.1.1=6)) ((q156 n (M,(w:Int),r4.1.1,())).bind fun r33=>some ((r33.1.1,()),(r5.2.1,()))) (cond (decide (r5.1.1=7)) ((q156 n (M,(w:Int),r4.1.1,())).bind fun r33=>some ((r33.1.1,()),(r5.2.1,()))) (cond (decide (r5.1.1=8)) ((q156 n (M,(w:Int),r4.1.1,())).bind fun r33=>some ((r33.1.1,()),(r5.2.1,()))) ((q48 n (r5.2.1,256,())).bind fun r36=>(q109 n (M,(w:Int),r4.1.1,r36.1.1,())).bind fun r37=>some ((r37.1.1,()),(r36.2.1,()))))))))))):Option R110)=some ((M',()),(r',()))∧MI M'∧Rd r' (b+10):=by
  intro r w hr hw hlv
  have hw':w<M.2.2.1.length:=by omega
  have hl:(rw' M.2.2.1 w).2.2.length=16:=(hM.sp.rw _ (zai (d:=(false,[],[])) hw')).lv hlv
  obtain⟨v1,p1,v1a,v1b,hr1⟩:=hr.pick (by omega) n 64 (by decide)
  obtain⟨c,rfl⟩:=Int.eq_ofNat_of_zero_le v1a
  rw[p1]
  simp only[Option.bind_some]
  obtain⟨v2,p2,v2a,v2b,hr2⟩:=hr1.pick (by omega) n 14 (by decide)
  rw[p2]
  simp only[Option.bind_some]
  have mapC:∃ M' r',((q56 n (M,())).bind fun r12=>(q48 n (((r.1,r.2+1+1):List Int×Int),12,())).bind fun r13=>(q48 n (r13.2.1,4,())).bind fun r14=>(q48 n (r14.2.1,5,())).bind fun r15=>(q48 n (r15.2.1,3,())).bind fun r16=>(q108 n (r12.1.1,(w:Int),(r13.1.1,IntKind.i64.wrap (1+r14.1.1),decide (0<r15.1.1),decide (r16.1.1=0)),())).bind fun r17=>(some ((r17.1.1,()),(r16.2.1,())):Option R110))=some ((M',()),(r',()))∧MI M'∧Rd r' (b+10):=by
   rw[hM.copy n hn]
   simp only[Option.bind_some]
   obtain⟨v3,p3,_,_,hr3⟩:=hr2.pick (by omega) n 12 (by decide)
   rw[p3]
   simp only[Option.bind_some]
   obtain⟨v4,p4,_,_,hr4⟩:=hr3.pick (by omega) n 4 (by decide)
   rw[p4]
   simp only[Option.bind_some]
   obtain⟨v5,p5,_,_,hr5⟩:=hr4.pick (by omega) n 5 (by decide)
   rw[p5]
   simp only[Option.bind_some]
   obtain⟨v6,p6,_,_,hr6⟩:=hr5.pick (by omega) n 3 (by decide)
   rw[p6]
   simp only[Option.bind_some]
   obtain⟨M',x,e1,e2,_⟩:=ztt n hn M hM w hw (v3,IntKind.i64.wrap (1+v4),decide (0<v5),decide (v6=0))
   rw[e1]
   exact⟨M',_,rfl,e2,hr6.up (by omega)⟩
  have getC:∃ M' r',((q156 n (M,(w:Int),(c:Int),())).bind fun r33=>(some ((r33.1.1,()),(((r.1,r.2+1+1):List Int×Int),())):Option R110))=some ((M',()),(r',()))∧MI M'∧Rd r' (b+10):=by
   obtain⟨M',x,y,e1,e2⟩:=ya6 n hn M hM w c hw hlv (by omega)
   rw[e1]
   exact⟨M',_,rfl,e2,hr2.up (by omega)⟩
  cases decide (v2=0) with
  |true =>
   simp only[cond_true]
   rw[hM.copy n hn]
   simp only[Option.bind_some]
   obtain⟨M',x,e1,e2⟩:=ya7 n hn M hM w hw hlv
   rw[e1]
   simp only[Option.bind_some]
   cases decide (0≤x) with
   |true=>exact⟨M',_,rfl,e2,hr2.up (by omega)⟩
   |false=>exact⟨M,_,rfl,hM,hr2.up (by omega)⟩
  |false =>
  cases decide (v2=1) with
  |true =>
   simp only[cond_true,cond_false]
   rw[hM.copy n hn]
   simp only[Option.bind_some]
   obtain⟨v3,p3,v3a,v3b,hr3⟩:=hr2.pick (by omega) n 12 (by decide)
   rw[p3]
   simp only[Option.bind_some]
   obtain⟨v4,p4,v4a,v4b,hr4⟩:=hr3.pick (by omega) n 4 (by decide)
   rw[p4]
   simp only[Option.bind_some]
   obtain⟨f,rfl⟩:=Int.eq_ofNat_of_zero_le v3a
   obtain⟨g,rfl⟩:=Int.eq_ofNat_of_zero_le v4a
   have ew:IntKind.i64.wrap (1+(g:Int))=((g+1:Nat):Int):=by rw[wr (by omega) (by omega)];omega
   obtain⟨M',x,e1,e2⟩:=yh3 n hn M hM w f (g+1) hw hl (by omega)
   rw[ew,e1]
   exact⟨M',_,rfl,e2,hr4.up (by omega)⟩
  |false =>
  cases decide (v2=2) with
  |true=>exact mapC
  |false =>
  cases decide (v2=3) with
  |true=>exact mapC
  |false =>
  cases decide (v2=4) with
  |true=>exact mapC
  |false =>
  cases decide (v2=5) with
  |true =>
   simp only[cond_true,cond_false]
   obtain⟨v3,p3,v3a,v3b,hr3⟩:=hr2.pick (by omega) n 4 (by decide)
   rw[p3]
   simp only[Option.bind_some]
   cases decide (v3=0) with
   |false=>exact⟨M,_,rfl,hM,hr3.up (by omega)⟩
   |true =>
    simp only[cond_true]
    rw[hM.copy n hn]
    simp only[Option.bind_some]
    obtain⟨M',e1,e2⟩:=ybc n hn M hM w hw hl
    rw[e1]
    exact⟨M',_,rfl,e2,hr3.up (by omega)⟩
  |false =>
  cases decide (v2=6) with
  |true=>exact getC
  |false =>
  cases decide (v2=7) with
  |true=>exact getC
  |false =>
  cases decide (v2=8) with
  |true=>exact getC
  |false =>
   simp only[cond_false]
   obtain⟨v3,p3,v3a,v3b,hr3⟩:=hr2.pick (by omega) n 256 (by decide)
   rw[p3]
   simp only[Option.bind_some]
   obtain⟨M',x,e1,e2,_⟩:=zts n hn M hM w c v3 hw hlv (by omega)
   rw[e1]
   exact⟨M',_,rfl,e2,hr3.up (by omega)⟩
 rw[e0,zgk]
 obtain⟨v,p0,va,vb,hr0⟩:=hr.pick (by omega) n 5 (by decide)
 have p0':q48 n ((r.1,r.2),5,())=some ((v,()),((r.1,r.2+1),())):=p0
 obtain⟨w,rfl⟩:=Int.eq_ofNat_of_zero_le va
 rw[p0']
 simp only[Option.bind_some]
 have q1:=yfn n M w (by omega) (by omega)
 have q1':q54 n (((M.1.1,M.1.2),(M.2.1.1,M.2.1.2),M.2.2.1,M.2.2.2),(w:Int),())=some (((rw' M.2.2.1 w).1,()),()):=q1
 have q2':q54 n (((M.1.1,M.1.2),(M.2.1.1,M.2.1.2),M.2.2.1,M.2.2.2),0,())=some (((rw' M.2.2.1 0).1,()),()):=yfn n M 0 (by omega) (by omega)
 rw[q1']
 simp only[Option.bind_some]
 cases hv:(rw' M.2.2.1 w).1 with
 |true =>
  simp only[Bool.not_true,cond_false]
  exact core _ w hr0 (by omega) hv
 |false =>
  simp only[Bool.not_false,cond_true]
  rw[q2']
  simp only[Option.bind_some]
  cases hv0:(rw' M.2.2.1 0).1 with
  |true =>
   simp only[Bool.not_true,cond_false]
   exact core _ 0 hr0 (by omega) hv0
  |false =>
   simp only[Bool.not_false,cond_true]
   obtain⟨M',x,ok,e1,e2⟩:=yh6 n hn M hM
   have e1':q28 n (((M.1.1,M.1.2),(M.2.1.1,M.2.1.2),M.2.2.1,M.2.2.2),())=some ((M',(x,(ok,()))),()):=e1
   rw[e1']
   simp only[Option.bind_some]
   cases ok with
   |true=>exact⟨M',_,rfl,e2 rfl,hr0.up (by omega)⟩
   |false=>exact⟨M,_,rfl,hM,hr0.up (by omega)⟩
def P0:Pg:=(List.replicate (Int.toNat 12) ByteArray.empty,List.replicate (Int.toNat 12) 0)
def M0:Me:=(P0,P0,List.replicate (Int.toNat 5) (false,[],[]),0)
def M1:Me:=(P0,P0,(List.replicate (Int.toNat 5) ((false,[],[]):Sp)).set 0 (true,[],List.replicate (Int.toNat 16) (0,0,false,false)),0)
theorem yie:q107 2000 ()=some ((M0,()),()):=by kernel_rfl
theorem yh7:q28 2000 (M0,())=some ((M1,(0,(true,()))),()):=by kernel_rfl
theorem MI0:MI M0:=by
 have hp:∀ i:Nat,i<12→P0.2.getD i 0=0:=fun i hi=>by
  simp only[P0,List.getD_eq_getElem?_getD,List.getElem?_replicate]
  split <;> rfl
 refine⟨⟨rfl,fun s hs=>?_⟩,⟨rfl,rfl,fun i hi=>?_,fun i hi h=>absurd (hp i hi) h⟩,⟨rfl,rfl,fun i hi=>?_,fun i hi h=>absurd (hp i hi) h⟩,by decide,by decide⟩
 ·rw[(List.mem_replicate.1 hs).2]
  exact⟨by simp,fun h=>(by cases h),fun _=>rfl,fun x hx=>(by simp at hx)⟩
 ·exact(hp i hi).trans rfl
 ·exact(hp i hi).trans rfl
theorem MI1:MI M1:=MI0.fill (t:=0) (by decide) rfl
theorem zh6:∀ (k m b:Nat) (r:List Int×Int) (x3:Int) (M:Me),MI M→Rd r b→k<m→k≤100→b+10*k≤5000→∃ M' r',znb 2000 m (k:Int) r.1 r.2 x3 M.2.2.2 M.1.1 M.1.2 M.2.1.1 M.2.1.2 M.2.2.1=some ((M',()),(r',()))∧MW M'∧Rd r' 6000
 |_,0,b,r,x3,M,_,_,h,_,_=>by omega
 |k+1,m+1,b,r,x3,M,hM,hr,h,hk,hb=>by
  have ew:IntKind.i64.wrap (((k+1:Nat):Int) - 1)=(k:Int):=by rw[wr (by omega) (by omega)];omega
  show ∃ M' r',zhv 2000 _ _ _ _ _ _ _ _ _ _ _=_∧_
  simp only[zhv,show decide ((0:Int)<((k+1:Nat):Int))=true from decide_eq_true (by omega),cond_true]
  obtain⟨M2,r2,e1,e2,e3⟩:=ybb 2000 (by omega) r b hr (by omega) M hM
  have e1':q110 2000 ((r.1,r.2),((M.1.1,M.1.2),(M.2.1.1,M.2.1.2),M.2.2.1,M.2.2.2),())=some ((M2,()),(r2,())):=e1
  rw[e1']
  simp only[Option.bind_some,ew]
  exact zh6 k m (b+10) r2 x3 M2 e2 e3 (by omega) (by omega) (by omega)
 |0,m+1,b,r,x3,M,hM,hr,h,hk,hb=>by
  have hW:=hM.mw
  have h5:=hM.sp.len
  have l12:=hM.ram.l2
  show ∃ M' r',zhv 2000 _ _ _ _ _ _ _ _ _ _ _=_∧_
  simp only[zhv,show decide ((0:Int)<((0:Nat):Int))=false from rfl,cond_false]
  obtain⟨v,p1,_,_,hr1⟩:=hr.pick (by omega) 2000 24 (by decide)
  have p1':q48 2000 ((r.1,r.2),24,())=some ((v,()),((r.1,r.2+1),())):=p1
  rw[p1']
  simp only[Option.bind_some]
  cases decide (v=0) with
  |true =>
   simp only[cond_true]
   obtain⟨v2,p2,a2,b2,hr2⟩:=hr1.pick (by omega) 2000 3 (by decide)
   rw[p2]
   simp only[Option.bind_some,show decide (0≤v2)=true from decide_eq_true a2,cond_true,show decide (v2<(([-1,12,3]:List Int).length:Int))=true from decide_eq_true b2]
   exact⟨_,_,rfl,⟨hW.a1,hW.a2,hW.b1,hW.b2,hW.s,hW.r⟩,hr2.up (by omega)⟩
  |false =>
  cases decide (v=1) with
  |true =>
   simp only[cond_true,cond_false]
   obtain⟨v2,p2,a2,b2,hr2⟩:=hr1.pick (by omega) 2000 12 (by decide)
   rw[p2]
   simp only[Option.bind_some]
   obtain⟨v3,p3,a3,b3,hr3⟩:=hr2.pick (by omega) 2000 3 (by decide)
   rw[p3]
   simp only[Option.bind_some,show decide (0≤v2)=true from decide_eq_true a2,cond_true,show decide (v2<(M.1.2.length:Int))=true from decide_eq_true (by omega)]
   exact⟨_,_,rfl,⟨hW.a1,by simp;omega,hW.b1,hW.b2,hW.s,hW.r⟩,hr3.up (by omega)⟩
  |false =>
  cases decide (v=2) with
  |true =>
   simp only[cond_true,cond_false,show decide ((0:Int)<(M.2.2.1.length:Int))=true from decide_eq_true (by omega),show Int.toNat 0=0 from rfl]
   cases hlv:(M.2.2.1.getD 0 (false,[],[])).1 with
   |false=>exact⟨_,_,rfl,hW,hr1.up (by omega)⟩
   |true =>
    have hl:=(hM.sp.rw _ (zai (d:=(false,[],[])) (show 0<M.2.2.1.length by omega))).lv hlv
    simp only[cond_true]
    obtain⟨v2,p2,a2,b2,hr2⟩:=hr1.pick (by omega) 2000 16 (by decide)
    rw[p2]
    simp only[Option.bind_some]
    obtain⟨v3,p3,a3,b3,hr3⟩:=hr2.pick (by omega) 2000 4 (by decide)
    rw[p3]
    simp only[Option.bind_some]
    obtain⟨v4,p4,a4,b4,hr4⟩:=hr3.pick (by omega) 2000 14 (by decide)
    rw[p4]
    simp only[Option.bind_some]
    obtain⟨v5,p5,a5,b5,hr5⟩:=hr4.pick (by omega) 2000 2 (by decide)
    rw[p5]
    simp only[Option.bind_some]
    obtain⟨v6,p6,a6,b6,hr6⟩:=hr5.pick (by omega) 2000 2 (by decide)
    rw[p6]
    simp only[Option.bind_some,show decide (0≤v2)=true from decide_eq_true a2,cond_true,show decide (v2<((M.2.2.1.getD 0 (false,[],[])).2.2.length:Int))=true from decide_eq_true (by omega)]
    refine⟨_,_,rfl,⟨hW.a1,hW.a2,hW.b1,hW.b2,by simpa using hW.s,fun s hs=>?_⟩,hr6.up (by omega)⟩
    rcases List.mem_or_eq_of_mem_set hs with hs|rfl
    ·exact hW.r s hs
    ·have:=hW.r _ (zai (d:=(false,[],[])) (show 0<M.2.2.1.length by omega))
     simp only[List.length_set]
     exact this
  |false =>
  cases decide (v=3) with
  |true =>
   simp only[cond_true,cond_false,show decide ((1:Int)≤(M.2.2.1.length:Int))=true from decide_eq_true (by omega)]
   refine⟨_,_,rfl,⟨hW.a1,hW.a2,hW.b1,hW.b2,?_,fun s hs=>hW.r s (List.mem_of_mem_drop (List.mem_of_mem_take hs))⟩,hr1.up (by omega)⟩
   simp only[List.length_take,List.length_drop]
   omega
  |false =>
  cases decide (v=4) with
  |false=>exact⟨_,_,rfl,hW,hr1.up (by omega)⟩
  |true =>
   simp only[cond_true,cond_false,show decide ((1:Int)<(M.2.2.1.length:Int))=true from decide_eq_true (by omega)]
   obtain⟨x,r',e1,e2⟩:∃ x r',q111 2000 ((r.1,r.2+1),())=some ((x,()),(r',()))∧Rd r' 5990:=by
    have e0:q111 2000 ((r.1,r.2+1),())=zgj 2000 (r.1,r.2+1):=rfl
    rw[e0,zgj]
    obtain⟨v2,p2,a2,b2,hr2⟩:=hr1.pick (by omega) 2000 16 (by decide)
    rw[p2]
    simp only[Option.bind_some]
    obtain⟨v3,p3,a3,b3,hr3⟩:=hr2.pick (by omega) 2000 5 (by decide)
    rw[p3]
    simp only[Option.bind_some]
    obtain⟨v4,p4,a4,b4,hr4⟩:=hr3.pick (by omega) 2000 4 (by decide)
    rw[p4]
    simp only[Option.bind_some]
    obtain⟨v5,p5,a5,b5,hr5⟩:=hr4.pick (by omega) 2000 3 (by decide)
    rw[p5]
    simp only[Option.bind_some]
    obtain⟨v6,p6,a6,b6,hr6⟩:=hr5.pick (by omega) 2000 20 (by decide)
    rw[p6]
    simp only[Option.bind_some]
    cases decide (v6=0) with
    |false=>exact⟨_,_,rfl,hr6.up (by omega)⟩
    |true =>
     simp only[cond_true]
     obtain⟨v7,p7,a7,b7,hr7⟩:=hr6.pick (by omega) 2000 4 (by decide)
     rw[p7]
     simp only[Option.bind_some,show decide (0≤v7)=true from decide_eq_true a7,cond_true,show decide (v7<(([0,-1,16,17]:List Int).length:Int))=true from decide_eq_true b7]
     exact⟨_,_,rfl,hr7.up (by omega)⟩
   rw[e1]
   have hx:=hM.sp.rw _ (zai (d:=(false,[],[])) (show 1<M.2.2.1.length by omega))
   have har:=hx.ar
   have hln:=hx.len
   simp only[Option.bind_some,show Int.toNat 1=1 from rfl,show decide (((M.2.2.1.getD 1 (false,[],[])).2.1.length+[x].length)*24≤140737488355328)=true from decide_eq_true (by simp only[List.length_cons,List.length_nil];omega),cond_true]
   refine⟨_,_,rfl,⟨hW.a1,hW.a2,hW.b1,hW.b2,by simpa using hW.s,fun s hs=>?_⟩,e2.up (by omega)⟩
   rcases List.mem_or_eq_of_mem_set hs with hs|rfl
   ·exact hW.r s hs
   ·simp only[List.length_append,List.length_cons,List.length_nil]
    omega
theorem znc:∀ (k m b:Nat) (r:List Int×Int) (x3:Int) (M:Me),MI M→(rw' M.2.2.1 0).1=true→Rd r b→k<m→k<16→b≤100→∃ M' r',zqo 2000 m (k:Int) r.1 r.2 x3 M.2.2.2 M.1.1 M.1.2 M.2.1.1 M.2.1.2 M.2.2.1=some ((M',()),(r',()))∧MW M'∧Rd r' 6000
 |_,0,b,r,x3,M,_,_,_,h,_,_=>by omega
 |0,m+1,b,r,x3,M,hM,hlv,hr,h,hk,hb=>by
  show ∃ M' r',zhw 2000 _ _ _ _ _ _ _ _ _ _ _ _=_∧_
  simp only[zhw,show decide ((0:Int)<((0:Nat):Int))=false from rfl,cond_false]
  obtain⟨v,p1,a1,b1,hr1⟩:=hr.pick (by omega) 2000 30 (by decide)
  have p1':q48 2000 ((r.1,r.2),30,())=some ((v,()),((r.1,r.2+1),())):=p1
  obtain⟨k,rfl⟩:=Int.eq_ofNat_of_zero_le a1
  rw[p1']
  simp only[Option.bind_some]
  exact zh6 k 2000 (b+1) (r.1,r.2+1) x3 M hM hr1 (by omega) (by omega) (by omega)
 |k+1,m+1,b,r,x3,M,hM,hlv,hr,h,hk,hb=>by
  have ew:IntKind.i64.wrap (((k+1:Nat):Int) - 1)=(k:Int):=by rw[wr (by omega) (by omega)];omega
  have e4:IntKind.i64.wrap (IntKind.i64.wrap (((k+1:Nat):Int)*4) - 1)=((4*k+3:Nat):Int):=by rw[wr (x:=((k+1:Nat):Int)*4) (by omega) (by omega),wr (by omega) (by omega)];omega
  show ∃ M' r',zhw 2000 _ _ _ _ _ _ _ _ _ _ _ _=_∧_
  simp only[zhw,show decide ((0:Int)<((k+1:Nat):Int))=true from decide_eq_true (by omega),cond_true,ew,e4]
  obtain⟨M2,x,e1,e2,e3⟩:=zts 2000 (by omega) M hM 0 (4*k+3) (IntKind.i64.wrap (1+((k+1:Nat):Int))) (by omega) hlv (by omega)
  have e1':q109 2000 (((M.1.1,M.1.2),(M.2.1.1,M.2.1.2),M.2.2.1,M.2.2.2),0,((4*k+3:Nat):Int),IntKind.i64.wrap (1+((k+1:Nat):Int)),())=some ((M2,(x,())),()):=e1
  rw[e1']
  simp only[Option.bind_some]
  exact znc k m b r x3 M2 e2 (by rw[(e3 0).1];exact hlv) hr (by omega) (by omega) (by omega)
theorem yh5(r:List Int×Int)(hr:Rd r 0):∃ M' r',q46 2000 (r,())=some ((M',()),(r',()))∧MW M'∧Rd r' 6000:=by
 have e0:q46 2000 (r,())=zjd 2000 (zqo 2000 2000) (znb 2000 2000) r:=rfl
 rw[e0,zjd,yie]
 simp only[Option.bind_some]
 rw[yh7]
 simp only[Option.bind_some]
 obtain⟨v,p1,a1,b1,hr1⟩:=hr.pick (by omega) 2000 2 (by decide)
 rw[p1]
 simp only[Option.bind_some]
 cases decide (v=0) with
 |false =>
  simp only[cond_false]
  obtain⟨v2,p2,a2,b2,hr2⟩:=hr1.pick (by omega) 2000 30 (by decide)
  obtain⟨k,rfl⟩:=Int.eq_ofNat_of_zero_le a2
  rw[p2]
  simp only[Option.bind_some]
  exact zh6 k 2000 2 (r.1,r.2+1+1) 0 M1 MI1 hr2 (by omega) (by omega) (by omega)
 |true =>
  simp only[cond_true]
  obtain⟨v2,p2,a2,b2,hr2⟩:=hr1.pick (by omega) 2000 9 (by decide)
  rw[p2]
  simp only[Option.bind_some]
  obtain⟨v3,p3,a3,b3,hr3⟩:=hr2.pick (by omega) 2000 3 (by decide)
  rw[p3]
  simp only[Option.bind_some]
  obtain⟨M2,x,e1,e2,e3⟩:=ztt 2000 (by omega) M1 MI1 0 (by omega) (0,IntKind.i64.wrap (8+v2),true,decide (v3=0))
  have e1':q108 2000 (M1,0,(0,IntKind.i64.wrap (8+v2),true,decide (v3=0)),())=some ((M2,(x,())),()):=e1
  rw[e1']
  simp only[Option.bind_some]
  obtain⟨v4,p4,a4,b4,hr4⟩:=hr3.pick (by omega) 2000 16 (by decide)
  obtain⟨k,rfl⟩:=Int.eq_ofNat_of_zero_le a4
  rw[p4]
  simp only[Option.bind_some]
  exact znc k 2000 4 (r.1,r.2+1+1+1+1) 0 M2 e2 (by rw[e3 0];rfl) hr4 (by omega) (by omega) (by omega)
abbrev Bo:=Bool×List Ar×List Int×List ByteArray
def pk(M:Me)(x:Ar)(j:Nat):Int :=
 if x.1=1 then IntKind.i64.wrap (((M.1.1.getD x.2.1.toNat ByteArray.empty).data.toList.getD j (0:UInt8)).toNat:Int)
 else if x.1=2 then IntKind.i64.wrap (((M.2.1.1.getD x.2.1.toNat ByteArray.empty).data.toList.getD j (0:UInt8)).toNat:Int)
 else 0
def tx(M:Me)(x:Ar):ByteArray:=List.foldl (fun r n=>r.push (UInt8.ofNat n.toNat)) ByteArray.empty [IntKind.u8.wrap (pk M x 0),IntKind.u8.wrap (pk M x 1),IntKind.u8.wrap (pk M x 2),IntKind.u8.wrap (pk M x 3)]
def Fst(S:List Sp)(kd a g:Int):Prop:=∃ i k:Nat,i<S.length∧k<(rw' S i).2.2.length∧isT kd a (sl S i k)=true∧g=1+16*(i:Int)+(k:Int)∧(∀ j l:Nat,j<S.length→l<(rw' S j).2.2.length→isT kd a (sl S j l)=true→i<j∨(i=j∧k≤l))
theorem SpI.lens{S:List Sp}(h:SpI S)(i:Nat):(rw' S i).2.2.length≤16:=by
 by_cases e:i<S.length
 ·exact(h.rw _ (zai e)).len
 ·have e2:rw' S i=(false,[],[]):=by rw[rw',List.getD_eq_getElem?_getD,List.getElem?_eq_none (by omega)];rfl
  rw[e2];decide
def PgV(M:Me)(i p:Nat)(g:Int)(t:ByteArray):Prop :=
 (at2 (rw' M.2.2.1 i).2.1 p<0∧g=0∧t=ByteArray.empty)∨(0≤at2 (rw' M.2.2.1 i).2.1 p∧t=tx M (sl M.2.2.1 i p)∧(g=0∨((sl M.2.2.1 i p).1≠0∧Fst M.2.2.1 (sl M.2.2.1 i p).1 (sl M.2.2.1 i p).2.1 g)))
structure RowV(M:Me)(i:Nat)(b:Bo):Prop where
 lv:b.1=true
 ar:b.2.1=(rw' M.2.2.1 i).2.1
 gl:b.2.2.1.length=16
 tl:b.2.2.2.length=16
 pg:∀ p,p<16→PgV M i p (b.2.2.1.getD p 0) (b.2.2.2.getD p ByteArray.empty)
structure VW(M:Me)(V:List Bo):Prop where
 len:V.length=5
 dd:∀ i,i<5→(rw' M.2.2.1 i).1=false→V.getD i (false,[],[],[])=(false,[],[],[])
 lv:∀ i,i<5→(rw' M.2.2.1 i).1=true→RowV M i (V.getD i (false,[],[],[]))
def VOk(V:List Bo):Prop:=V=[]∨∃ M,MI M∧VW M V
theorem zim(n:Nat)(a b c:Int):q59 n (a,b,c,())=some ((decide (b≤a)&&decide (a≤c),()),()):=by
 show zi5 n a b c=_
 rw[zi5]
 by_cases h:b≤a <;> simp[h]
def zme(x:Ar):Bool:=(decide (0≤x.1)&&decide (x.1≤15))&&(decide (1≤x.2.1)&&decide (x.2.1≤IntKind.i64.wrap (16 - x.1)))
theorem zw5(n:Nat)(x:Ar):q158 n (x,())=some ((zme x,()),()):=by
 show zdd n x=_
 rw[zdd,zb2]
 simp only[Option.bind_some,zme]
 cases (decide ((0:Int)≤x.1)&&decide (x.1≤15)) with
 |false=>rfl
 |true=>simp only[cond_true];rw[zb2];rfl
theorem yic(n:Nat)(x:Ar):q114 n (x,())=some ((zme x,()),()):=by
 show zgh n x=_
 rw[zgh,zim]
 simp only[Option.bind_some,zme]
 cases (decide ((0:Int)≤x.1)&&decide (x.1≤15)) with
 |false=>rfl
 |true=>simp only[cond_true];rw[zim];rfl
theorem zw9(n:Nat)(x:Ar):q115 n (x,())=some ((IntKind.i64.wrap (x.1+x.2.1),()),()):=rfl
theorem yfq(n:Nat)(l:List Ar):∀ (m:Nat) (k:Int),zt2 n m l l (l.length:Int) k=zda n m l k
 |0,k=>rfl
 |m+1,k=>by
  have ih:=yfq n l m
  show zn7 n _ _ _ _ _=zbb n _ _ _
  have e1:=yic n (l.getD k.toNat (0,0,false,false))
  have e2:=zw5 n (l.getD k.toNat (0,0,false,false))
  have e3:=zw9 n (l.getD (IntKind.i64.wrap (k - 1)).toNat (0,0,false,false))
  have e1':q114 n (((l.getD k.toNat (0,0,false,false)).1,(l.getD k.toNat (0,0,false,false)).2.1,(l.getD k.toNat (0,0,false,false)).2.2.1,(l.getD k.toNat (0,0,false,false)).2.2.2),())=_:=e1
  have e2':q158 n (((l.getD k.toNat (0,0,false,false)).1,(l.getD k.toNat (0,0,false,false)).2.1,(l.getD k.toNat (0,0,false,false)).2.2.1,(l.getD k.toNat (0,0,false,false)).2.2.2),())=_:=e2
  have e3':q115 n (((l.getD (IntKind.i64.wrap (k - 1)).toNat (0,0,false,false)).1,(l.getD (IntKind.i64.wrap (k - 1)).toNat (0,0,false,false)).2.1,(l.getD (IntKind.i64.wrap (k - 1)).toNat (0,0,false,false)).2.2.1,(l.getD (IntKind.i64.wrap (k - 1)).toNat (0,0,false,false)).2.2.2),())=_:=e3
  simp only[zn7,zbb,ih]
  rw[e1',e2',e3']
  simp only[Option.bind_some]
  cases hk:decide (k<(l.length:Int)) <;> cases hk0:decide (0≤k) <;> cases zme (l.getD k.toNat (0,0,false,false)) <;> cases decide (0<k) <;> cases decide (0≤IntKind.i64.wrap (k - 1)) <;> cases decide (IntKind.i64.wrap (k - 1)<(l.length:Int)) <;> rfl
theorem yfl(n:Nat)(l:List Ar):q63 n (l,())=q127 n (l,()):=yfq n l n 0
theorem zqs(n:Nat)(l:List Ar)(hs:l.length≤1000):∀ (d k m:Nat),k+d=l.length→d<m→zda n m l (k:Int)=some ((true,()),())→∀ i,k≤i→i<l.length→zme (l.getD i (0,0,false,false))=true
 |_,k,0,_,h,_=>by omega
 |0,k,m+1,hk,h,he=>fun i h1 h2=>by omega
 |d+1,k,m+1,hk,h,he=>by
  have hl:k<l.length:=by omega
  have he':zbb n (zda n m) l (k:Int)=some ((true,()),()):=he
  have e2':q158 n (((l.getD k (0,0,false,false)).1,(l.getD k (0,0,false,false)).2.1,(l.getD k (0,0,false,false)).2.2.1,(l.getD k (0,0,false,false)).2.2.2),())=_:=zw5 n (l.getD k (0,0,false,false))
  simp only[zbb,lt_t hl,ge_t,cond_true,zaa]at he'
  rw[e2']at he'
  simp only[Option.bind_some,wS (show k≤1000000 by omega)]at he'
  cases ha:zme (l.getD k (0,0,false,false)) with
  |false=>rw[ha]at he';simp at he'
  |true =>
   rw[ha]at he'
   simp only[Bool.not_true,cond_false]at he'
   have hn:zda n m l ((k+1:Nat):Int)=some ((true,()),()):=by
    revert he'
    cases decide (0<(k:Int)) <;> cases decide (0≤IntKind.i64.wrap ((k:Int) - 1)) <;> cases decide (IntKind.i64.wrap ((k:Int) - 1)<(l.length:Int)) <;> cases decide ((l.getD k (0,0,false,false)).1<IntKind.i64.wrap ((l.getD (IntKind.i64.wrap ((k:Int) - 1)).toNat (0,0,false,false)).1+(l.getD (IntKind.i64.wrap ((k:Int) - 1)).toNat (0,0,false,false)).2.1)) <;> simp
   intro i h1 h2
   by_cases e:i=k
   ·subst e;exact ha
   ·exact zqs n l hs d (k+1) m (by omega) (by omega) hn i (by omega) h2
theorem zw6(n:Nat)(hn:2000≤n)(l:List Ar)(hs:l.length≤1000)(h:q127 n (l,())=some ((true,()),())):∀ x∈l,zme x=true:=fun x hx=>by
 obtain⟨i,hi,rfl⟩:=List.getElem_of_mem hx
 have:=zqs n l hs l.length 0 n (by omega) (by omega) h i (Nat.zero_le _) hi
 rw[List.getD_eq_getElem?_getD,List.getElem?_eq_getElem hi]at this
 exact this
theorem yc1{x:Ar}(h:zme x=true)(b:Int):inA b x=(decide (x.1≤b)&&decide (b<IntKind.i64.wrap (x.1+x.2.1))):=by
 unfold zme at h
 obtain⟨h1,h2⟩:=zb4.1 h
 obtain⟨h3,h4⟩:=zb4.1 h1
 obtain⟨h5,h6⟩:=zb4.1 h2
 have h3:=of_decide_eq_true h3
 have h4:=of_decide_eq_true h4
 have h5:=of_decide_eq_true h5
 have h6:=of_decide_eq_true h6
 rw[wr (by omega) (by omega)]at h6
 unfold inA
 rw[wr (x:=x.1+x.2.1) (by omega) (by omega),wr (by omega) (by omega)]
 congr 1
 exact decide_eq_decide.2 (by omega)
theorem yib(n:Nat)(x:Ar)(b:Int):q125 n (x,b,())=some ((decide (x.1≤b)&&decide (b<IntKind.i64.wrap (x.1+x.2.1)),()),()):=by
 show zgd n x b=_
 rw[zgd,zw9]
 cases h:decide (x.1≤b) with
 |false=>simp[h]
 |true=>simp[h]
theorem znl(n:Nat)(b:Int)(l:List Ar)(hs:l.length≤1000)(ha:∀ x∈l,zme x=true):∀ (rest done:List Ar) (m:Nat),done++rest=l→rest.length<m→(∀ x∈done,inA b x=false)→zov n m l b (l.length:Int) (done.length:Int)=some ((at2 l b,()),())
 | [],done,0,hd,h,_=>by simp at h
 | [],done,m+1,hd,h,hz=>by
  have hd':done=l:=by simpa using hd
  subst hd'
  have hf:¬ done.findIdx (inA b)<done.length:=by
   rw[List.findIdx_lt_length]
   rintro ⟨x,hx,hh⟩
   rw[hz x hx]at hh;cases hh
  show ze4 n _ _ _ _ _=_
  simp only[ze4,lt_f,cond_false,at2,if_neg hf]
 |x::rest,done,0,hd,h,_=>by simp at h
 |x::rest,done,m+1,hd,h,hz=>by
  have hl:done.length<l.length:=by rw[← hd];simp
  have hg:l.getD done.length (0,0,false,false)=x:=by rw[← hd];simp
  have hxa:=ha x (by rw[← hd];simp)
  show ze4 n _ _ _ _ _=_
  simp only[ze4,lt_t hl,ge_t,cond_true,zaa,hg]
  have e:q125 n ((x.1,x.2.1,x.2.2.1,x.2.2.2),b,())=_:=yib n x b
  rw[e,← yc1 hxa]
  simp only[Option.bind_some]
  cases hx:inA b x with
  |true =>
   have hf:l.findIdx (inA b)=done.length:=by
    rw[← hd,List.findIdx_append,List.findIdx_eq_length_of_false hz]
    simp[List.findIdx_cons,hx]
   simp only[cond_true,at2,hf,if_pos hl]
  |false =>
   simp only[cond_false]
   have ih:=znl n b l hs ha rest (done ++ [x]) m (by simpa using hd) (by simp at h; omega) (by
    intro y hy
    rcases List.mem_append.1 hy with hy|hy
    ·exact hz y hy
    ·rw[List.mem_singleton.1 hy];exact hx)
   simp only[List.length_append,List.length_cons,List.length_nil,Nat.zero_add]at ih
   rw[wS (by omega),ih]
theorem ymz(n:Nat)(hn:2000≤n)(l:List Ar)(b:Int)(hs:l.length≤1000)(h:q127 n (l,())=some ((true,()),())):q60 n (l,b,())=some ((at2 l b,()),()):=by
 have e0:q60 n (l,b,())=zi4 n l b:=rfl
 rw[e0,zi4,yfl,h]
 simp only[Option.bind_some,Bool.not_true,cond_false]
 have e1:q124 n (l,(b,()),())=_:=znl n b l hs (zw6 n hn l hs h) l [] n rfl (by omega) (fun _ h=>by simp at h)
 rw[e1]
 rfl
abbrev rb(V:List Bo)(i:Nat):Bo:=V.getD i (false,[],[],[])
structure BOk(b:Bo):Prop where
 ar:b.2.1.length≤6
 gl:b.2.2.1.length≤16
 tl:b.2.2.2.length=b.2.2.1.length
structure VB(V:List Bo):Prop where
 len:V.length≤5
 ok:∀ b∈V,BOk b
theorem VW.vb{M:Me}{V:List Bo}(hM:MI M)(h:VW M V):VB V:=by
 refine⟨by rw[h.len];decide,fun b hb=>?_⟩
 obtain⟨i,hi,rfl⟩:=List.getElem_of_mem hb
 have eg:V[i]=rb V i:=by rw[rb,List.getD_eq_getElem?_getD,List.getElem?_eq_getElem hi];rfl
 have hi5:i<5:=by rw[← h.len];exact hi
 have hr:=hM.sp.rw _ (zai (d:=(false,[],[])) (show i<M.2.2.1.length by rw[hM.sp.len];exact hi5))
 rw[eg]
 cases hv:(rw' M.2.2.1 i).1 with
 |false=>rw[rb,h.dd i hi5 hv];exact⟨by simp,by simp,rfl⟩
 |true =>
  have hR:=h.lv i hi5 hv
  exact⟨by rw[rb,hR.ar];exact hr.ar,Nat.le_of_eq hR.gl,hR.tl.trans hR.gl.symm⟩
theorem VOk.vb{V:List Bo}(h:VOk V):VB V:=by
 rcases h with rfl|⟨M,h1,h2⟩
 ·exact⟨by simp,fun b hb=>by simp at hb⟩
 ·exact h2.vb h1
theorem ya3(n:Nat)(hn:2000≤n)(l:List Ar)(hs:l.length≤1000):q40 n (l,l,())=some ((true,()),()):=by
 have go:∀ (d k m:Nat),k+d=l.length→d<m→zt3 n m l l (k:Int)=some ((true,()),()):=by
  intro d
  induction d with
  |zero =>
   intro k m hk h
   cases m with
   |zero=>omega
   |succ m =>
    obtain rfl:k=l.length:=by omega
    show zhx n _ _ _ _=_
    simp only[zhx,lt_f,cond_false]
  |succ d ih =>
   intro k m hk h
   cases m with
   |zero=>omega
   |succ m =>
    show zhx n _ _ _ _=_
    simp only[zhx,lt_t (show k<l.length by omega),ge_t,cond_true,zaa,decide_true,beq_self_eq_true,Bool.and_self,Bool.not_true,cond_false,wS (show k≤1000000 by omega)]
    exact ih (k+1) m (by omega) (by omega)
 show zjf n _ l l=_
 simp only[zjf,decide_true,Bool.not_true,cond_false]
 exact go l.length 0 n (by omega) (by omega)
theorem zxa(n:Nat)(hn:2000≤n)(l:List Int)(hs:l.length≤1000):q105 n (l,l,())=some ((true,()),()):=by
 have go:∀ (d k m:Nat),k+d=l.length→d<m→zox n m l l (k:Int)=some ((true,()),()):=by
  intro d
  induction d with
  |zero =>
   intro k m hk h
   cases m with
   |zero=>omega
   |succ m =>
    obtain rfl:k=l.length:=by omega
    show ze7 n _ _ _ _=_
    simp only[ze7,lt_f,cond_false]
  |succ d ih =>
   intro k m hk h
   cases m with
   |zero=>omega
   |succ m =>
    show ze7 n _ _ _ _=_
    simp only[ze7,lt_t (show k<l.length by omega),ge_t,cond_true,zaa,decide_true,beq_self_eq_true,Bool.and_self,Bool.not_true,cond_false,wS (show k≤1000000 by omega)]
    exact ih (k+1) m (by omega) (by omega)
 show zgn n _ l l=_
 simp only[zgn,decide_true,Bool.not_true,cond_false]
 exact go l.length 0 n (by omega) (by omega)
theorem ya4(n:Nat)(hn:2000≤n)(l:List ByteArray)(hs:l.length≤1000):q39 n (l,l,())=some ((true,()),()):=by
 have go:∀ (d k m:Nat),k+d=l.length→d<m→zt4 n m l l (k:Int)=some ((true,()),()):=by
  intro d
  induction d with
  |zero =>
   intro k m hk h
   cases m with
   |zero=>omega
   |succ m =>
    obtain rfl:k=l.length:=by omega
    show zhy n _ _ _ _=_
    simp only[zhy,lt_f,cond_false]
  |succ d ih =>
   intro k m hk h
   cases m with
   |zero=>omega
   |succ m =>
    show zhy n _ _ _ _=_
    simp only[zhy,lt_t (show k<l.length by omega),ge_t,cond_true,zaa,decide_true,beq_self_eq_true,Bool.and_self,Bool.not_true,cond_false,wS (show k≤1000000 by omega)]
    exact ih (k+1) m (by omega) (by omega)
 show zjg n _ l l=_
 simp only[zjg,decide_true,Bool.not_true,cond_false]
 exact go l.length 0 n (by omega) (by omega)
noncomputable def aok(n:Nat)(l:List Ar):Bool:=match q127 n (l,()) with
 |some r=>r.1.1
 |none=>false
noncomputable def alB(n:Nat)(b:Bo):Bool:=b.1&&(decide ((b.2.2.1.length:Int)=16)&&(decide ((b.2.2.2.length:Int)=16)&&aok n b.2.1))
noncomputable def al(n:Nat)(V:List Bo)(w:Int):Bool:=(decide (0≤w)&&decide (w≤(V.length:Int) - 1))&&alB n (rb V w.toNat)
theorem VB.row{V:List Bo}(h:VB V){i:Nat}(hi:i<V.length):BOk (rb V i):=h.ok _ (zai hi)
noncomputable def getB(n:Nat)(V:List Bo)(i k:Nat):Int×Int :=
 if al n V i=true then (if ((rb V i).2.2.2.getD (k / 4) ByteArray.empty).size=4∧0≤at2 (rb V i).2.1 ((k / 4:Nat):Int) then (IntKind.i64.wrap ((((rb V i).2.2.2.getD (k / 4) ByteArray.empty).data.toList.getD (k % 4) (0:UInt8)).toNat:Int),0) else (-1,2)) else (-1,1)
abbrev z4:Ar:=(0,0,false,false)
def shd(ar:List Ar)(p:Int):Bool:=decide (0≤at2 ar p)&&(ar.getD (at2 ar p).toNat z4).2.2.2
def tlR(kd a:Int)(ar:List Ar):Nat→List Ar→List (Bool×Bool)
 |_,[]=>[]
 |p,x::l=>cond (isT kd a x) ((x.2.2.1,shd ar p)::tlR kd a ar (p+1) l) (tlR kd a ar (p+1) l)
def tl(kd a:Int)(S:List Sp):List (Bool×Bool):=S.flatMap fun s=>tlR kd a s.2.1 0 s.2.2
theorem zn5(kd a:Int)(ar:List Ar):∀ (l:List Ar) (p:Nat),(tlR kd a ar p l).length=cnt kd a l
 | [],_=>rfl
 |x::l,p=>by
  rw[zb0,tlR]
  cases isT kd a x with
  |true=>simp[zn5 kd a ar l]
  |false=>simp[zn5 kd a ar l]
theorem zd0(kd a:Int)(s:Sp)(S:List Sp):tl kd a (s::S)=tlR kd a s.2.1 0 s.2.2++tl kd a S:=by simp[tl]
theorem zj3(kd a:Int):∀ S:List Sp,(tl kd a S).length=told kd a S
 | []=>rfl
 |s::S=>by rw[zd0,zbq,List.length_append,zn5,zj3 kd a S]
theorem yff(kd a:Int)(S T:List Sp):tl kd a (S++T)=tl kd a S++tl kd a T:=by simp[tl]
def alnB(l:List (Bool×Bool)):Bool:=decide (l.length<2) || (!l.any (·.1) || !l.any (!·.2))
def prB(l:List (Bool×Bool)):Prop:=∀ i j,i<l.length→j<l.length→i≠j→(l.getD i (false,false)).1=true→(l.getD i (false,false)).2=true∧(l.getD j (false,false)).2=true
theorem zut(l:List (Bool×Bool)):alnB l=true↔prB l:=by
 constructor
 ·intro h i j hi hj hne ho
  have hi':l.getD i (false,false)∈l:=zai hi
  have hj':l.getD j (false,false)∈l:=zai hj
  unfold alnB at h
  simp only[Bool.or_eq_true,decide_eq_true_eq,Bool.not_eq_true',List.any_eq_false]at h
  rcases h with h|h|h
  ·omega
  ·exact absurd ho (h _ hi')
  ·exact⟨by simpa using h _ hi',by simpa using h _ hj'⟩
 ·intro h
  unfold alnB
  simp only[Bool.or_eq_true,decide_eq_true_eq,Bool.not_eq_true',List.any_eq_false]
  by_cases h2:l.length<2
  ·exact .inl h2
  ·right
   by_cases h3:∀ x∈l,¬ (x.1=true)
   ·exact .inl h3
   ·right
    simp only[Classical.not_forall,Classical.not_not]at h3
    obtain⟨x,hx,hxo⟩:=h3
    obtain⟨i,hi,rfl⟩:=List.getElem_of_mem hx
    intro y hy
    obtain⟨j,hj,rfl⟩:=List.getElem_of_mem hy
    have ei:l.getD i (false,false)=l[i]:=by rw[List.getD_eq_getElem?_getD,List.getElem?_eq_getElem hi];rfl
    have ej:l.getD j (false,false)=l[j]:=by rw[List.getD_eq_getElem?_getD,List.getElem?_eq_getElem hj];rfl
    have hxo:l[i].1=true:=hxo
    by_cases hij:i=j
    ·subst hij
     have:∃ k,k<l.length∧i≠k:=by
      by_cases h0:i=0
      ·exact⟨1,by omega,by omega⟩
      ·exact⟨0,by omega,h0⟩
     obtain⟨k,hk,hne⟩:=this
     have:=(h i k hi hk hne (by rw[ei];exact hxo)).1
     rw[ei]at this
     simp[this]
    ·have:=(h i j hi hj hij (by rw[ei];exact hxo)).2
     rw[ej]at this
     simp[this]
theorem znm(n:Nat)(hn:2000≤n)(g5:Int→Int→Int→Bool→Bool→Int→List ByteArray→List Int→List ByteArray→List Int→List Sp→Int→Option R120)(kd a x12:Int)(x7:List ByteArray)(x8:List Int)(x9:List ByteArray)(x10:List Int)(pre post:List Sp)(s:Sp)(ha:s.2.1.length≤1000)(hs:s.2.2.length≤1000) :
  ∀ (rest done:List Ar) (m c:Nat) (u v:Bool),done++rest=s.2.2→rest.length<m→c+rest.length≤100000 →
   zf0 g5 n m kd a (c:Int) u v (pre.length:Int) (done.length:Int) x7 x8 x9 x10 (pre++s::post) x12 =
    g5 kd a ((c+(tlR kd a s.2.1 done.length rest).length:Nat):Int) (u || (tlR kd a s.2.1 done.length rest).any (·.1)) (v || (tlR kd a s.2.1 done.length rest).any (!·.2)) (IntKind.i64.wrap ((pre.length:Int)+1)) x7 x8 x9 x10 (pre++s::post) x12
 |_,_,0,c,u,v,_,h,_=>by omega
 | [],done,m+1,c,u,v,hk,h,hc=>by
  have hk:done=s.2.2:=by simpa using hk
  subst hk
  show zb7 n _ _ _ _ _ _ _ _ _ _ _ _ _ _ _=_
  simp only[zb7,ge_t,zcv,zaa,zbo,lt_f,cond_true,cond_false,tlR,List.length_nil,Nat.add_zero,List.any_nil,Bool.or_false]
 |x::rest,done,m+1,c,u,v,hk,h,hc=>by
  have hl:done.length<s.2.2.length:=by rw[← hk];simp
  have hg:s.2.2.getD done.length z4=x:=by rw[← hk];exact zbo _ _ _ _
  have ih:=fun c' u' v' hc'=>znm n hn g5 kd a x12 x7 x8 x9 x10 pre post s ha hs rest (done++[x]) m c' u' v' (by simpa using hk) (by simp at h;omega) hc'
  simp only[List.length_append,List.length_cons,List.length_nil,Nat.zero_add]at ih
  show zb7 n _ _ _ _ _ _ _ _ _ _ _ _ _ _ _=_
  simp only[List.length_cons]at hc
  simp only[zb7,ge_t,zcv,zaa,zbo,cond_true,lt_t hl,wS (show done.length≤1000000 by omega),wS (show c≤1000000 by omega),zoj n hn (s.1,s.2.1,s.2.2) ha,Option.bind_some,hg]
  by_cases h1:x.1=kd
  ·by_cases h2:x.2.1=a
   ·have ht:isT kd a x=true:=za2.2 ⟨h1,h2⟩
    simp only[h1,h2,decide_true,cond_true,tlR,ht,List.length_cons,List.any_cons]
    have e1:∀ q:Nat,c+(q+1)=c+1+q:=fun q=>by omega
    rw[e1 (tlR kd a s.2.1 (done.length+1) rest).length]
    cases u with
    |true =>
     simp only[cond_true,Bool.true_or]
     cases v with
     |true=>simp only[cond_true,Bool.true_or];rw[ih (c+1) true true (by omega)];simp only[Bool.true_or]
     |false=>simp only[cond_false,Bool.false_or];rw[ih (c+1) true _ (by omega)];simp only[Bool.true_or];rfl
    |false =>
     simp only[cond_false,Bool.false_or]
     cases v with
     |true=>simp only[cond_true,Bool.true_or];rw[ih (c+1) _ true (by omega)];simp only[Bool.true_or]
     |false=>simp only[cond_false,Bool.false_or];rw[ih (c+1) _ _ (by omega)];rfl
   ·have ht:isT kd a x=false:=by rw[Bool.eq_false_iff];exact fun hh=>h2 (za2.1 hh).2
    simp only[h1,h2,decide_true,decide_false,cond_true,cond_false,tlR,ht]
    exact ih c u v (by omega)
  ·have ht:isT kd a x=false:=by rw[Bool.eq_false_iff];exact fun hh=>h1 (za2.1 hh).1
   simp only[h1,decide_false,cond_false,tlR,ht]
   exact ih c u v (by omega)
theorem znn(n:Nat)(hn:2000≤n)(kd a x11:Int)(x6:List ByteArray)(x7:List Int)(x8:List ByteArray)(x9:List Int) :
  ∀ (post pre:List Sp) (m c:Nat) (u v:Bool),post.length<m→pre.length+post.length≤100→(∀ s∈post,s.2.1.length≤100∧s.2.2.length≤100)→c≤100*pre.length →
   zf1 n m kd a (c:Int) u v (pre.length:Int) x6 x7 x8 x9 (pre++post) x11=some ((decide (c+(tl kd a post).length<2) || (!(u || (tl kd a post).any (·.1)) || !(v || (tl kd a post).any (!·.2))),()),())
 | [],pre,0,c,u,v,h,_,_,_=>by simp at h
 | [],pre,m+1,c,u,v,h,hl,_,_=>by
  show zb8 n _ _ _ _ _ _ _ _ _ _ _ _ _=_
  have e:decide ((c:Int)<2)=decide (c<2):=by congr 1;simp;omega
  simp only[zb8,List.append_nil,lt_f,cond_false,tl,List.flatMap_nil,List.length_nil,Nat.add_zero,List.any_nil,Bool.or_false,e]
  cases decide (c<2) <;> cases u <;> cases v <;> rfl
 |s::post,pre,0,c,u,v,h,_,_,_=>by simp at h
 |s::post,pre,m+1,c,u,v,h,hl,hs,hc=>by
  have ih:=fun c' u' v' hc'=>znn n hn kd a x11 x6 x7 x8 x9 post (pre++[s]) m c' u' v' (by simp at h;omega) (by simp at hl ⊢;omega) (fun t ht=>hs t (List.mem_cons_of_mem _ ht)) hc'
  simp only[List.length_append,List.length_cons,List.length_nil,List.append_assoc,List.cons_append,List.nil_append,Nat.zero_add]at ih
  have hs0:=hs s List.mem_cons_self
  simp only[List.length_cons]at hl
  have h2:=znm n hn (zf1 n m) kd a x11 x6 x7 x8 x9 pre post s (by omega) (by omega) s.2.2 [] n c u v rfl (by omega) (by omega)
  simp only[List.length_nil]at h2
  show zb8 n _ _ _ _ _ _ _ _ _ _ _ _ _=_
  simp only[zb8,zcv,cond_true]
  refine h2.trans ?_
  have hle:(tlR kd a s.2.1 0 s.2.2).length≤s.2.2.length:=by rw[zn5];exact zrj _ _ _
  rw[wS (by omega),ih _ _ _ (by omega),zd0]
  simp only[List.length_append,List.any_append,Bool.or_assoc,Nat.add_assoc]
theorem zw8(n:Nat)(hn:2000≤n)(M:Me)(hM:MW M)(kd a:Int):q120 n (M,kd,a,())=some ((alnB (tl kd a M.2.2.1),()),()):=by
 have h1:=hM.s
 have:=znn n hn kd a M.2.2.2 M.1.1 M.1.2 M.2.1.1 M.2.1.2 M.2.2.1 [] n 0 false false (by omega) (by simp;omega) hM.r (by simp)
 simp only[List.nil_append,List.length_nil,Nat.zero_add,Bool.false_or]at this
 exact this
theorem wL{i:Nat}(h:i≤4000000000000000000):IntKind.i64.wrap ((i:Int)+1)=((i+1:Nat):Int):=by rw[wr (by omega) (by omega)];omega
theorem yfr(n:Nat)(t:List ByteArray)(l:List Int)(htl:t.length=l.length)(hs:l.length≤1000):∀ (m k:Nat),k≤l.length→zm6 n m l (l.length:Int) (k:Int) t l=zdt n m (k:Int) t l
 |0,k,_=>rfl
 |m+1,k,hk=>by
  show zj9 n (zm6 n m) _ _ _ _ _=zcf n (zdt n m) _ _ _
  rcases Nat.lt_or_eq_of_le hk with hl|rfl
  ·have ih:=yfr n t l htl hs m (k+1) (by omega)
   simp only[zj9,zcf,lt_t hl,lt_t (show k<t.length by omega),ge_t,cond_true,zaa,zim n (l.getD k 0) 0 99,zb2 n (l.getD k 0) 0 99,Option.bind_some,wS (show k≤1000000 by omega),ih]
  ·simp only[zj9,zcf,lt_f,cond_false,← htl]
theorem yfm(n:Nat)(P:Pg):q62 n (P,())=q117 n (P,()):=by
 show zi3 n (zm6 n n) P=zbr n (zdt n n) P
 unfold zi3 zbr
 by_cases h1:(P.1.length:Int)=(P.2.length:Int)
 ·rw[decide_eq_true h1]
  simp only[Bool.not_true,cond_false,zim n (P.1.length:Int) 1 12,zb2 n (P.1.length:Int) 1 12,Option.bind_some]
  cases hb:(decide ((1:Int)≤(P.1.length:Int))&&decide ((P.1.length:Int)≤12)) with
  |false=>rfl
  |true =>
   simp only[Bool.not_true,cond_false]
   have h2:=of_decide_eq_true (zb4.1 hb).2
   exact yfr n P.1 P.2 (by omega) (by omega) n 0 (Nat.zero_le _)
 ·rw[decide_eq_false h1]
  rfl
noncomputable def pgB(n:Nat)(P:Pg):Bool:=match q117 n (P,()) with
 |some ((b,_),_)=>b
 |none=>false
theorem zh4(n:Nat)(hn:2000≤n)(P:Pg):q117 n (P,())=some ((pgB n P,()),())∧(pgB n P=true→P.1.length=P.2.length∧P.1.length≤12∧∀ i,i<P.2.length→P.2.getD i 0≠0→(P.1.getD i ByteArray.empty).size=4):=by
 by_cases h:P.1.length≤1000∧P.2.length≤1000
 ·obtain⟨b,e,f⟩:=zom n hn P h.1 h.2
  have hb:pgB n P=b:=by unfold pgB;rw[e]
  rw[hb]
  refine⟨e,fun hb=>⟨(f hb).1,?_,(f hb).2⟩⟩
  subst hb
  have e:zbr n (zdt n n) P=some ((true,()),()):=e
  unfold zbr at e
  rw[zb2]at e
  simp only[Option.bind_some]at e
  cases h1:decide ((P.1.length:Int)=(P.2.length:Int)) with
  |false=>rw[h1]at e;simp at e
  |true =>
   rw[h1]at e
   simp only[Bool.not_true,cond_false]at e
   cases h2:(decide ((1:Int)≤(P.1.length:Int))&&decide ((P.1.length:Int)≤12)) with
   |false=>rw[h2]at e;simp at e
   |true=>have:=of_decide_eq_true (zb4.1 h2).2;omega
 ·have e:q117 n (P,())=some ((false,()),()):=by
   show zbr n (zdt n n) P=_
   unfold zbr
   rw[zb2]
   simp only[Option.bind_some]
   by_cases h1:(P.1.length:Int)=(P.2.length:Int)
   ·have h2:decide ((P.1.length:Int)≤12)=false:=decide_eq_false (by omega)
    rw[decide_eq_true h1,h2]
    simp
   ·rw[decide_eq_false h1]
    rfl
  have hb:pgB n P=false:=by unfold pgB;rw[e]
  rw[hb]
  exact⟨e,fun h=>by cases h⟩
theorem zip(n:Nat)(l:List Ar)(hs:l.length≤4000000):∀ (d k m:Nat),k+d=l.length→d<m→∃ b,zda n m l (k:Int)=some ((b,()),())∧(b=true→l.length≤6)
 |_,k,0,_,h=>by omega
 |0,k,m+1,hk,h=>by
  obtain rfl:k=l.length:=by omega
  show ∃ b,zbb n _ _ _=_∧_
  simp only[zbb,lt_f,cond_false]
  exact⟨_,rfl,fun hb=>by have:=of_decide_eq_true hb;omega⟩
 |d+1,k,m+1,hk,h=>by
  have hl:k<l.length:=by omega
  obtain⟨b,ih⟩:=zip n l hs d (k+1) m (by omega) (by omega)
  show ∃ b,zbb n _ _ _=_∧_
  simp only[zbb,lt_t hl,ge_t,cond_true,zaa]
  obtain⟨b1,e1⟩:=zjp n ((l.getD k (0,0,false,false)).1,(l.getD k (0,0,false,false)).2.1,(l.getD k (0,0,false,false)).2.2.1,(l.getD k (0,0,false,false)).2.2.2)
  rw[e1]
  simp only[Option.bind_some]
  cases b1 with
  |false=>exact⟨_,rfl,fun hb=>by cases hb⟩
  |true =>
   simp only[Bool.not_true,cond_false,wL (show k≤4000000000000000000 by omega)]
   cases k with
   |zero=>exact⟨_,ih⟩
   |succ k =>
    have e2:IntKind.i64.wrap (((k+1:Nat):Int) - 1)=(k:Int):=by rw[wr (by omega) (by omega)];omega
    have e3:decide ((0:Int)<((k+1:Nat):Int))=true:=decide_eq_true (by omega)
    simp only[e2,e3,cond_true,ge_t,lt_t (show k<l.length by omega),zaa]
    cases decide ((l.getD (k+1) (0,0,false,false)).1<IntKind.i64.wrap ((l.getD k (0,0,false,false)).1+(l.getD k (0,0,false,false)).2.1)) with
    |true=>exact⟨_,rfl,fun hb=>by cases hb⟩
    |false=>exact⟨_,ih⟩
theorem zok(n:Nat)(l:List Ar)(hl:l.length<n)(hs:l.length≤4000000):q127 n (l,())=some ((aok n l,()),())∧(aok n l=true→l.length≤6):=by
 obtain⟨b,e,f⟩:=zip n l hs l.length 0 n (by omega) (by omega)
 have hb:aok n l=b:=by unfold aok;rw[show q127 n (l,())=_ from e]
 rw[hb]
 exact⟨e,f⟩
def SlV(ar:List Ar)(i:Nat)(x:Ar):Prop:=(x.1=0→x=z4)∧(x.1≠0→0≤at2 ar i∧(1≤x.1∧x.1≤2)∧((ar.getD (at2 ar i).toNat z4).2.2.2=true→x.2.2.1=true))
def SpV(n:Nat)(s:Sp):Prop:=(s.1=false→s.2.1=[]∧s.2.2=[])∧(s.1=true→aok n s.2.1=true∧s.2.2.length=16∧∀ i,i<16→SlV s.2.1 i (s.2.2.getD i z4)∧AtOk (s.2.2.getD i z4))
def SpW(n:Nat)(s:Sp):Prop:=(s.1=false→s.2.1=[]∧s.2.2=[])∧(s.1=true→aok n s.2.1=true∧s.2.2.length=16∧∀ i,i<16→SlV s.2.1 i (s.2.2.getD i z4))
theorem yl8(x:Ar)(h0:x.1=0):(decide (x.1=0)&&(decide (x.2.1=0)&&(x.2.2.1 == false&&(x.2.2.2 == false&&true))))=true↔x=z4:=by
 obtain⟨a,b,c,d⟩:=x
 simp only at h0
 subst h0
 cases c <;> cases d <;> simp
theorem zlo(n:Nat)(hn:2000≤n)(x1:Bool)(ar:List Ar)(ha:ar.length≤1000)(l:List Ar)(hl:l.length=16):∀ (d k m:Nat),k+d=16→d<m→∃ b,zf2 n m (k:Int) x1 ar l=some ((b,()),())∧(b=true↔∀ i,k≤i→i<16→SlV ar i (l.getD i z4))
 |_,k,0,_,h=>by omega
 |0,k,m+1,hk,h=>by
  obtain rfl:k=16:=by omega
  show ∃ b,zb9 n _ _ _ _ _=_∧_
  simp only[zb9]
  exact⟨_,rfl,iff_of_true rfl fun i h1 h2=>by omega⟩
 |d+1,k,m+1,hk,h=>by
  obtain⟨b,e,ih⟩:=zlo n hn x1 ar ha l hl d (k+1) m (by omega) (by omega)
  have hr:=zl8 ar k
  show ∃ b,zb9 n _ _ _ _ _=_∧_
  simp only[zb9,show decide ((k:Int)<16)=true from decide_eq_true (by omega),lt_t (show k<l.length by omega),ge_t,cond_true,zaa,zb2 n (l.getD k (0,0,false,false)).1 1 2,zqd n hn ar k ha,Option.bind_some,wS (show k≤1000000 by omega)]
  have hstep:SlV ar k (l.getD k z4)→∃ b,zf2 n m ((k+1:Nat):Int) x1 ar l=some ((b,()),())∧(b=true↔∀ i,k≤i→i<16→SlV ar i (l.getD i z4)):=fun hx =>
   ⟨b,e,ih.trans ⟨fun hh i h1 h2=>by
    by_cases hi:i=k
    ·subst hi;exact hx
    ·exact hh i (by omega) h2,fun hh i h1 h2=>hh i (by omega) h2⟩⟩
  have hno:¬ SlV ar k (l.getD k z4)→∃ b,(some ((false,()),()):Option R118)=some ((b,()),())∧(b=true↔∀ i,k≤i→i<16→SlV ar i (l.getD i z4)):=fun hx =>
   ⟨false,rfl,iff_of_false (by simp) fun hh=>hx (hh k (Nat.le_refl _) (by omega))⟩
  by_cases h0:(l.getD k z4).1=0
  ·have hz:=yl8 (l.getD k z4) h0
   rw[decide_eq_true h0]at hz
   simp only[h0,decide_true,cond_true]
   cases hc:(true&&(decide ((l.getD k z4).2.1=0)&&((l.getD k z4).2.2.1 == false&&((l.getD k z4).2.2.2 == false&&true)))) with
   |false=>exact hno fun hx=>by have:=hz.2 (hx.1 h0);rw[hc]at this;cases this
   |true=>exact hstep ⟨fun _=>hz.1 hc,fun h=>absurd h0 h⟩
  ·simp only[h0,decide_false,cond_false]
   by_cases h1:at2 ar k<0
   ·simp only[h1,decide_true,cond_true]
    exact hno fun hx=>by have:=(hx.2 h0).1;omega
   ·obtain⟨j,hj⟩:=Int.eq_ofNat_of_zero_le (show 0≤at2 ar k by omega)
    simp only[h1,decide_false,cond_false]
    by_cases h2:1≤(l.getD k z4).1∧(l.getD k z4).1≤2
    ·have e1:decide (1≤(l.getD k z4).1)=true:=decide_eq_true h2.1
     have e2:decide ((l.getD k z4).1≤2)=true:=decide_eq_true h2.2
     simp only[e1,e2,Bool.and_self,Bool.not_true,cond_false,hj,ge_t,lt_t (show j<ar.length by omega),cond_true,zaa]
     cases hsh:(ar.getD j z4).2.2.2 with
     |false=>exact hstep ⟨fun h=>absurd h h0,fun _=>⟨by omega,h2,fun hq=>by rw[hj,zaa,hsh]at hq;cases hq⟩⟩
     |true =>
      simp only[cond_true]
      cases ho:(l.getD k z4).2.2.1 with
      |false=>exact hno fun hx=>by have:=(hx.2 h0).2.2 (by rw[hj,zaa];exact hsh);rw[ho]at this;cases this
      |true=>exact hstep ⟨fun h=>absurd h h0,fun _=>⟨by omega,h2,fun _=>ho⟩⟩
    ·have:(decide (1≤(l.getD k z4).1)&&decide ((l.getD k z4).1≤2))=false:=by
      rw[Bool.eq_false_iff];intro hh
      have:=zb4.1 hh
      exact h2 ⟨of_decide_eq_true this.1,of_decide_eq_true this.2⟩
     simp only[this,Bool.not_false,cond_true]
     exact hno fun hx=>h2 (hx.2 h0).2.1
theorem yba(n:Nat)(hn:2000≤n)(s:Sp)(ha:s.2.1.length<n)(ha2:s.2.1.length≤4000000):∃ b,q118 n (s,())=some ((b,()),())∧(b=true↔SpW n s):=by
 show ∃ b,zdf n _ s=_∧_
 rw[zdf]
 cases hb:s.1 with
 |false =>
  simp only[Bool.not_false,cond_true]
  by_cases h1:((s.2.1.length:Int)=0)
  ·simp only[h1,decide_true,cond_true]
   refine⟨_,rfl,⟨fun hd=>⟨fun _=>⟨List.length_eq_zero_iff.1 (by omega),List.length_eq_zero_iff.1 (by have:=of_decide_eq_true hd;omega)⟩,fun h=>by rw[hb]at h;cases h⟩,fun hw=>?_⟩⟩
   have:=(hw.1 hb).2
   rw[this]
   rfl
  ·simp only[h1,decide_false,cond_false]
   refine⟨_,rfl,iff_of_false (by simp) fun hw=>h1 ?_⟩
   have:=(hw.1 hb).1
   rw[this]
   rfl
 |true =>
  simp only[Bool.not_true,cond_false]
  obtain⟨e1,f1⟩:=zok n s.2.1 ha ha2
  rw[e1]
  simp only[Option.bind_some]
  cases hk:aok n s.2.1 with
  |false=>exact⟨_,rfl,iff_of_false (by simp) fun hw=>by have:=(hw.2 hb).1;rw[hk]at this;cases this⟩
  |true =>
   simp only[Bool.not_true,cond_false]
   by_cases h1:((s.2.2.length:Int)=16)
   ·simp only[h1,decide_true,Bool.not_true,cond_false]
    obtain⟨b,e,ih⟩:=zlo n hn true s.2.1 (by have:=f1 hk;omega) s.2.2 (by omega) 16 0 n (by omega) (by omega)
    exact⟨b,e,ih.trans ⟨fun hh=>⟨fun h=>(by rw[hb]at h;cases h),fun _=>⟨hk,by omega,fun i hi=>hh i (Nat.zero_le _) hi⟩⟩,fun hw i _ hi=>(hw.2 hb).2.2 i hi⟩⟩
   ·simp only[h1,decide_false,Bool.not_false,cond_true]
    exact⟨_,rfl,iff_of_false (by simp) fun hw=>h1 (by have:=(hw.2 hb).2.1;omega)⟩
def CnV(M:Me):Prop:=(∀ i:Nat,i<12→M.1.2.getD i 0=(told 1 i M.2.2.1:Int)∧alnB (tl 1 i M.2.2.1)=true)∧(∀ i:Nat,i<12→M.2.1.2.getD i 0=(told 2 i M.2.2.1:Int)∧alnB (tl 2 i M.2.2.1)=true)
structure MV(n:Nat)(M:Me):Prop where
 p1:pgB n M.1=true
 p2:pgB n M.2.1=true
 l1:M.1.2.length=12
 l2:M.2.1.2.length=12
 l5:M.2.2.1.length=5
 h0:0≤M.2.2.2
 h1:M.2.2.2≤11
 sp:∀ w,w<5→SpV n (rw' M.2.2.1 w)
 cn:CnV M
theorem zm9(n:Nat)(g4:Int→List ByteArray→List Int→List ByteArray→List Int→List Sp→Int→Option R53)(x7:Int)(x2:List ByteArray)(x3:List Int)(x4:List ByteArray)(x5:List Int)(S:List Sp)(w:Nat)(hw:w<S.length)(hw2:w≤1000)(hs:(rw' S w).2.2.length≤1000) :
  ∀ (d k m:Nat),k+d=(rw' S w).2.2.length→d<m→((zcr g4 n m (w:Int) (k:Int) x2 x3 x4 x5 S x7=some ((false,()),())∧¬ ∀ i,k≤i→i<(rw' S w).2.2.length→AtOk (sl S w i))∨(zcr g4 n m (w:Int) (k:Int) x2 x3 x4 x5 S x7=g4 ((w+1:Nat):Int) x2 x3 x4 x5 S x7∧∀ i,k≤i→i<(rw' S w).2.2.length→AtOk (sl S w i)))
 |_,k,0,_,h=>by omega
 |0,k,m+1,hk,h=>by
  obtain rfl:k=(rw' S w).2.2.length:=by omega
  right
  constructor
  ·show zc8 n _ _ _ _ _ _ _ _ _ _=_
   simp only[zc8,ge_t,lt_t hw,cond_true,zaa,lt_f,cond_false,wS (show w≤1000000 by omega)]
  ·intro i h1 h2;omega
 |d+1,k,m+1,hk,h=>by
  have hl:k<(rw' S w).2.2.length:=by omega
  have ih:=zm9 n g4 x7 x2 x3 x4 x5 S w hw hw2 hs d (k+1) m (by omega) (by omega)
  have nxt:AtOk (sl S w k)→((zcr g4 n m (w:Int) ((k+1:Nat):Int) x2 x3 x4 x5 S x7=some ((false,()),())∧¬ ∀ i,k≤i→i<(rw' S w).2.2.length→AtOk (sl S w i))∨(zcr g4 n m (w:Int) ((k+1:Nat):Int) x2 x3 x4 x5 S x7=g4 ((w+1:Nat):Int) x2 x3 x4 x5 S x7∧∀ i,k≤i→i<(rw' S w).2.2.length→AtOk (sl S w i))):=fun hx=>by
   rcases ih with ⟨e,hh⟩|⟨e,hh⟩
   ·exact .inl ⟨e,fun hq=>hh fun i h1 h2=>hq i (by omega) h2⟩
   ·refine .inr ⟨e,fun i h1 h2=>?_⟩
    by_cases hi:i=k
    ·subst hi;exact hx
    ·exact hh i (by omega) h2
  have e0:zcr g4 n (m+1) (w:Int) (k:Int) x2 x3 x4 x5 S x7=zc8 n (zcr g4 n m) g4 (w:Int) (k:Int) x2 x3 x4 x5 S x7:=rfl
  rw[e0,zc8]
  simp only[ge_t,lt_t hw,cond_true,zaa,lt_t hl,zb2 n (sl S w k).2.1 0 (IntKind.i64.wrap (12 - 1)),Option.bind_some,wS (show k≤1000000 by omega)]
  by_cases h0:(sl S w k).1=0
  ·simp only[h0,decide_true,Bool.not_true,cond_false]
   simp only[show decide ((0:Int)=2)=false from rfl,cond_false]
   exact nxt fun hx=>absurd h0 hx
  ·simp only[h0,decide_false,Bool.not_false,cond_true]
   cases hb:(decide ((0:Int)≤(sl S w k).2.1)&&decide ((sl S w k).2.1≤IntKind.i64.wrap (12 - 1))) with
   |false =>
    have hn:¬ ∀ i,k≤i→i<(rw' S w).2.2.length→AtOk (sl S w i):=fun hh=>by
     have:=hh k (Nat.le_refl _) hl h0
     have e1:decide ((0:Int)≤(sl S w k).2.1)=true:=decide_eq_true this.1
     have e2:decide ((sl S w k).2.1≤IntKind.i64.wrap (12 - 1))=true:=by rw[wr (by omega) (by omega)];exact decide_eq_true (by omega)
     rw[e1,e2]at hb
     cases hb
    cases decide ((sl S w k).1=2) <;> exact .inl ⟨rfl,hn⟩
   |true =>
    have:=yfx _ true hb
    cases decide ((sl S w k).1=2) <;> exact nxt fun _=>this
theorem zk5(n:Nat)(hn:2000≤n)(M:Me)(hM:MW M)(hl:M.2.1.2.length=12):∀ (d k m:Nat),k+d=12→d<m→∃ b,zk6 n m (k:Int) M.1.1 M.1.2 M.2.1.1 M.2.1.2 M.2.2.1 M.2.2.2=some ((b,()),())∧(b=true↔∀ i:Nat,k≤i→i<12→M.2.1.2.getD i 0=(told 2 i M.2.2.1:Int)∧alnB (tl 2 i M.2.2.1)=true)
 |_,k,0,_,h=>by omega
 |0,k,m+1,hk,h=>by
  obtain rfl:k=12:=by omega
  show ∃ b,zb5 n _ _ _ _ _ _ _ _=_∧_
  simp only[zb5]
  exact⟨_,rfl,iff_of_true rfl fun i h1 h2=>by omega⟩
 |d+1,k,m+1,hk,h=>by
  obtain⟨b,e,ih⟩:=zk5 n hn M hM hl d (k+1) m (by omega) (by omega)
  show ∃ b,zb5 n _ _ _ _ _ _ _ _=_∧_
  simp only[zb5,show decide ((k:Int)<12)=true from decide_eq_true (by omega),cond_true]
  rw[zol n hn ((M.1.1,M.1.2),(M.2.1.1,M.2.1.2),M.2.2.1,M.2.2.2) hM,zw8 n hn ((M.1.1,M.1.2),(M.2.1.1,M.2.1.2),M.2.2.1,M.2.2.2) hM]
  simp only[Option.bind_some,ge_t,lt_t (show k<M.2.1.2.length by omega),cond_true,zaa]
  by_cases hc:((told 2 k M.2.2.1:Nat):Int)=M.2.1.2.getD k 0
  ·simp only[hc,decide_true,Bool.not_true,cond_false,wS (show k≤1000000 by omega)]
   cases hb2:alnB (tl 2 k M.2.2.1) with
   |false=>exact⟨_,rfl,iff_of_false (by simp) fun hh=>by have:=(hh k (Nat.le_refl _) (by omega)).2;rw[hb2]at this;cases this⟩
   |true =>
    refine⟨b,e,ih.trans ⟨fun hh i h1 h2=>?_,fun hh i h1 h2=>hh i (by omega) h2⟩⟩
    by_cases hi:i=k
    ·subst hi;exact⟨hc.symm,hb2⟩
    ·exact hh i (by omega) h2
  ·simp only[hc,decide_false,Bool.not_false,cond_true]
   exact⟨_,rfl,iff_of_false (by simp) fun hh=>hc (hh k (Nat.le_refl _) (by omega)).1.symm⟩
theorem zk8(n:Nat)(hn:2000≤n)(M:Me)(hM:MW M)(hl1:M.1.2.length=12)(hl:M.2.1.2.length=12):∀ (d k m:Nat),k+d=12→d<m→∃ b,zk9 n m (k:Int) M.1.1 M.1.2 M.2.1.1 M.2.1.2 M.2.2.1 M.2.2.2=some ((b,()),())∧(b=true↔(∀ i:Nat,k≤i→i<12→M.1.2.getD i 0=(told 1 i M.2.2.1:Int)∧alnB (tl 1 i M.2.2.1)=true)∧(∀ i:Nat,i<12→M.2.1.2.getD i 0=(told 2 i M.2.2.1:Int)∧alnB (tl 2 i M.2.2.1)=true))
 |_,k,0,_,h=>by omega
 |0,k,m+1,hk,h=>by
  obtain rfl:k=12:=by omega
  obtain⟨b,e,ih⟩:=zk5 n hn M hM hl 12 0 n (by omega) (by omega)
  show ∃ b,zb6 n _ _ _ _ _ _ _ _ _=_∧_
  simp only[zb6]
  exact⟨b,e,ih.trans ⟨fun hh=>⟨fun i h1 h2=>by omega,fun i h2=>hh i (Nat.zero_le _) h2⟩,fun hh i _ h2=>hh.2 i h2⟩⟩
 |d+1,k,m+1,hk,h=>by
  obtain⟨b,e,ih⟩:=zk8 n hn M hM hl1 hl d (k+1) m (by omega) (by omega)
  show ∃ b,zb6 n _ _ _ _ _ _ _ _ _=_∧_
  simp only[zb6,show decide ((k:Int)<12)=true from decide_eq_true (by omega),cond_true]
  rw[zol n hn ((M.1.1,M.1.2),(M.2.1.1,M.2.1.2),M.2.2.1,M.2.2.2) hM,zw8 n hn ((M.1.1,M.1.2),(M.2.1.1,M.2.1.2),M.2.2.1,M.2.2.2) hM]
  simp only[Option.bind_some,ge_t,lt_t (show k<M.1.2.length by omega),cond_true,zaa]
  by_cases hc:((told 1 k M.2.2.1:Nat):Int)=M.1.2.getD k 0
  ·simp only[hc,decide_true,Bool.not_true,cond_false,wS (show k≤1000000 by omega)]
   cases hb2:alnB (tl 1 k M.2.2.1) with
   |false=>exact⟨_,rfl,iff_of_false (by simp) fun hh=>by have:=(hh.1 k (Nat.le_refl _) (by omega)).2;rw[hb2]at this;cases this⟩
   |true =>
    refine⟨b,e,ih.trans ⟨fun hh=>⟨fun i h1 h2=>?_,hh.2⟩,fun hh=>⟨fun i h1 h2=>hh.1 i (by omega) h2,hh.2⟩⟩⟩
    by_cases hi:i=k
    ·subst hi;exact⟨hc.symm,hb2⟩
    ·exact hh.1 i (by omega) h2
  ·simp only[hc,decide_false,Bool.not_false,cond_true]
   exact⟨_,rfl,iff_of_false (by simp) fun hh=>hc (hh.1 k (Nat.le_refl _) (by omega)).1.symm⟩
theorem SpV.small{n:Nat}{s:Sp}(h:SpV n s)(ha:s.2.1.length<n)(ha2:s.2.1.length≤4000000):s.2.1.length≤6∧s.2.2.length≤16:=by
 cases hb:s.1 with
 |false=>have:=h.1 hb;rw[this.1,this.2];simp
 |true=>exact⟨(zok n s.2.1 ha ha2).2 (h.2 hb).1,by have:=(h.2 hb).2.1;omega⟩
theorem zwt{S:List Sp}{s:Sp}(h:s∈S):∃ i,i<S.length∧rw' S i=s:=by
 obtain⟨i,hi,rfl⟩:=List.getElem_of_mem h
 exact⟨i,hi,by rw[rw',List.getD_eq_getElem?_getD,List.getElem?_eq_getElem hi];rfl⟩
theorem zna(n:Nat)(hn:2000≤n)(M:Me)(ht1:M.1.1.length≤12)(ht2:M.2.1.1.length≤12)(hl1:M.1.2.length=12)(hl:M.2.1.2.length=12)(h5:M.2.2.1.length=5)(hA:∀ s∈M.2.2.1,s.2.1.length<n∧s.2.1.length≤4000000) :
  ∀ (d k m:Nat),k+d=5→d<m→(∀ w,w<k→SpV n (rw' M.2.2.1 w))→∃ b,zk3 n m (k:Int) M.1.1 M.1.2 M.2.1.1 M.2.1.2 M.2.2.1 M.2.2.2=some ((b,()),())∧(b=true↔(∀ w,w<5→SpV n (rw' M.2.2.1 w))∧CnV M)
 |_,k,0,_,h,_=>by omega
 |0,k,m+1,hk,h,hpre=>by
  obtain rfl:k=5:=by omega
  have hM:MW M:=⟨by omega,by omega,by omega,by omega,by omega,fun s hs=>by
   obtain⟨i,hi,rfl⟩:=zwt hs
   have:=(hpre i (by omega)).small (hA _ hs).1 (hA _ hs).2
   omega⟩
  obtain⟨b,e,ih⟩:=zk8 n hn M hM hl1 hl 12 0 n (by omega) (by omega)
  show ∃ b,zc9 n _ _ _ _ _ _ _ _ _=_∧_
  simp only[zc9]
  exact⟨b,e,ih.trans ⟨fun hh=>⟨hpre,fun i h2=>hh.1 i (Nat.zero_le _) h2,hh.2⟩,fun hh=>⟨fun i _ h2=>hh.2.1 i h2,hh.2.2⟩⟩⟩
 |d+1,k,m+1,hk,h,hpre=>by
  have hw:k<M.2.2.1.length:=by omega
  have hr:=hA _ (zai hw:rw' M.2.2.1 k∈M.2.2.1)
  obtain⟨b2,e2,f2⟩:=yba n hn (rw' M.2.2.1 k) hr.1 hr.2
  show ∃ b,zc9 n _ _ _ _ _ _ _ _ _=_∧_
  simp only[zc9,show decide ((k:Int)<5)=true from decide_eq_true (by omega),cond_true,ge_t,lt_t hw,zaa]
  rw[e2]
  simp only[Option.bind_some]
  have toW:SpV n (rw' M.2.2.1 k)→SpW n (rw' M.2.2.1 k):=fun hv=>⟨hv.1,fun hb=>⟨(hv.2 hb).1,(hv.2 hb).2.1,fun i hi=>((hv.2 hb).2.2 i hi).1⟩⟩
  cases b2 with
  |false=>exact⟨_,rfl,iff_of_false (by simp) fun hh=>by have:=f2.2 (toW (hh.1 k (by omega)));cases this⟩
  |true =>
   have hW:=f2.1 rfl
   simp only[Bool.not_true,cond_false]
   have hlen:(rw' M.2.2.1 k).2.2.length≤16:=by
    cases hb:(rw' M.2.2.1 k).1 with
    |false=>rw[(hW.1 hb).2];simp
    |true=>rw[(hW.2 hb).2.1];exact Nat.le_refl _
   rcases zm9 n (zk3 n m) M.2.2.2 M.1.1 M.1.2 M.2.1.1 M.2.1.2 M.2.2.1 k hw (by omega) (by omega) (rw' M.2.2.1 k).2.2.length 0 n (by omega) (by omega) with ⟨e3,e4⟩|⟨e3,e4⟩
   ·refine⟨_,e3,iff_of_false (by simp) fun hh=>e4 fun i _ hi=>?_⟩
    have hv:=hh.1 k (by omega)
    cases hb:(rw' M.2.2.1 k).1 with
    |false=>rw[(hW.1 hb).2]at hi;simp at hi
    |true=>exact((hv.2 hb).2.2 i (by have:=(hW.2 hb).2.1;omega)).2
   ·have hv:SpV n (rw' M.2.2.1 k):=⟨hW.1,fun hb=>⟨(hW.2 hb).1,(hW.2 hb).2.1,fun i hi=>⟨(hW.2 hb).2.2 i hi,e4 i (Nat.zero_le _) (by have:=(hW.2 hb).2.1;omega)⟩⟩⟩
    obtain ⟨b,e,ih⟩:=zna n hn M ht1 ht2 hl1 hl h5 hA d (k + 1) m (by omega) (by omega) (fun w hw'=>by
     by_cases hk':w=k
     ·subst hk';exact hv
     ·exact hpre w (by omega))
    exact⟨b,e3.trans e,ih⟩
structure BgM(n:Nat)(M:Me):Prop where
 r:∀ s∈M.2.2.1,s.2.1.length<n∧s.2.1.length≤4000000
theorem yh4(n:Nat)(hn:2000≤n)(M:Me)(hB:BgM n M):∃ b,q53 n (M,())=some ((b,()),())∧(b=true↔MV n M):=by
 show ∃ b,zeo n _ M=_∧_
 rw[zeo]
 obtain⟨e1,f1⟩:=zh4 n hn M.1
 obtain⟨e2,f2⟩:=zh4 n hn M.2.1
 rw[show ((M.1.1,M.1.2):Pg)=M.1 from rfl,e1]
 simp only[Option.bind_some]
 cases hc1:pgB n M.1 with
 |false=>exact⟨_,rfl,iff_of_false (by simp) fun hv=>by have:=hv.p1;rw[hc1]at this;cases this⟩
 |true =>
  simp only[Bool.not_true,cond_false]
  rw[show ((M.2.1.1,M.2.1.2):Pg)=M.2.1 from rfl,e2]
  simp only[Option.bind_some]
  cases hc2:pgB n M.2.1 with
  |false=>exact⟨_,rfl,iff_of_false (by simp) fun hv=>by have:=hv.p2;rw[hc2]at this;cases this⟩
  |true =>
   simp only[Bool.not_true,cond_false]
   by_cases h1:((M.1.2.length:Int)=12)
   ·by_cases h2:((M.2.1.2.length:Int)=12)
    ·by_cases h3:((M.2.2.1.length:Int)=5)
     ·simp only[h1,h2,h3,decide_true,Bool.not_true,cond_false]
      rw[zb2]
      simp only[Option.bind_some]
      cases hh:(decide ((0:Int)≤M.2.2.2)&&decide (M.2.2.2≤11)) with
      |false =>
       refine⟨_,rfl,iff_of_false (by simp) fun hv=>?_⟩
       rw[decide_eq_true hv.h0,decide_eq_true hv.h1]at hh
       cases hh
      |true =>
       simp only[Bool.not_true,cond_false]
       have g1:=f1 hc1
       have g2:=f2 hc2
       obtain⟨b,e,f⟩:=zna n hn M (by omega) (by omega) (by omega) (by omega) (by omega) hB.r 5 0 n (by omega) (by omega) (fun w hw=>by omega)
       have hh:=zb4.1 hh
       exact⟨b,e,f.trans ⟨fun hq=>⟨hc1,hc2,by omega,by omega,by omega,of_decide_eq_true hh.1,of_decide_eq_true hh.2,hq.1,hq.2⟩,fun hv=>⟨hv.sp,hv.cn⟩⟩⟩
     ·simp only[h1,h2,h3,decide_true,decide_false,Bool.not_true,Bool.not_false,cond_false,cond_true]
      exact⟨_,rfl,iff_of_false (by simp) fun hv=>h3 (by have:=hv.l5;omega)⟩
    ·simp only[h1,h2,decide_true,decide_false,Bool.not_true,Bool.not_false,cond_false,cond_true]
     exact⟨_,rfl,iff_of_false (by simp) fun hv=>h2 (by have:=hv.l2;omega)⟩
   ·simp only[h1,decide_true,decide_false,Bool.not_true,Bool.not_false,cond_false,cond_true]
    exact⟨_,rfl,iff_of_false (by simp) fun hv=>h1 (by have:=hv.l1;omega)⟩
end Go.Proofs.Ytdkaagpkeomhmaa.Rx.S
