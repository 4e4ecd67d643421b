/- Plain laws of those functions, no program in sight: the law answers true on all data. No condition. -/
import Derived.Test.YtdkaagpkeomhmaaGP0
set_option linter.unusedVariables false
set_option linter.unusedSimpArgs false
namespace Go.Proofs.Ytdkaagpkeomhmaa.Rx.S
open Go Go.Proofs.Ytdkaagpkeomhmaa.Rx Go.Proofs.Ytdkaagpkeomhmaa.Rx.Pu
set_option maxRecDepth 100000
abbrev Mp:=List ((Int×Int)×Option (List (Bool×Bool)))
def gk(x:(Int×Int)×Option (List (Bool×Bool)))(k a:Int):Bool:=decide (k=x.1.1)&&decide (a=x.1.2)
theorem zeb{x:(Int×Int)×Option (List (Bool×Bool))}{k a:Int}:gk x k a=true↔x.1=(k,a):=by
 obtain⟨⟨p,q⟩,y⟩:=x
 simp only[gk,Bool.and_eq_true,decide_eq_true_eq,Prod.mk.injEq]
 exact⟨fun h=>⟨h.1.symm,h.2.symm⟩,fun h=>⟨h.1.symm,h.2.symm⟩⟩
theorem zfo(x:(Int×Int)×Option (List (Bool×Bool)))(m:Mp)(k a:Int):gfi (x::m) k a=cond (gk x k a) 0 (gfi m k a+1):=by
 unfold gfi gk
 rw[List.findIdx_cons]
theorem zfm(x:(Int×Int)×Option (List (Bool×Bool)))(m:Mp)(k a:Int):gvl (x::m) k a=cond (gk x k a) (x.2.getD []) (gvl m k a):=by
 unfold gvl
 rw[zfo]
 cases gk x k a with
 |true=>obtain⟨p,y⟩:=x;cases y <;> rfl
 |false=>simp
theorem zfn(x:(Int×Int)×Option (List (Bool×Bool)))(m:Mp)(k a:Int):gok (x::m) k a=cond (gk x k a) x.2.isSome (gok m k a):=by
 unfold gok
 rw[zfo]
 cases gk x k a with
 |true=>obtain⟨p,y⟩:=x;cases y <;> rfl
 |false=>simp
def putM(m:Mp)(k a:Int)(xs:List (Bool×Bool)):Mp:=gbk (gou m k a) (gfi m k a:Int) xs
theorem zvc(x:(Int×Int)×Option (List (Bool×Bool)))(m:Mp)(k a:Int):gou (x::m) k a=cond (gk x k a) (((k,a),none)::m) (x::gou m k a):=by
 unfold gou
 rw[zfo]
 cases gk x k a with
 |true=>simp
 |false =>
  simp only[cond_false,List.length_cons,Nat.add_lt_add_iff_right]
  cases decide (gfi m k a<m.length) <;> simp
theorem yd4(x:(Int×Int)×Option (List (Bool×Bool)))(m:Mp)(k a:Int):gol (x::m) k a=cond (gk x k a) (((k,a),none)::m) (x::gol m k a):=by
 unfold gol
 rw[zfo]
 cases gk x k a with
 |true=>simp
 |false =>
  simp only[cond_false,List.length_cons,Nat.add_lt_add_iff_right]
  cases decide (gfi m k a<m.length) <;> simp
theorem zuk(k a:Int)(xs:List (Bool×Bool)):putM [] k a xs=[((k,a),some xs)]:=rfl
theorem zqw(x:(Int×Int)×Option (List (Bool×Bool)))(m:Mp)(k a:Int)(xs:List (Bool×Bool)):putM (x::m) k a xs=cond (gk x k a) (((k,a),some xs)::m) (x::putM m k a xs):=by
 unfold putM gbk
 rw[zvc,zfo]
 cases gk x k a with
 |true=>simp
 |false=>simp
theorem zy5(k a k' a':Int)(xs:List (Bool×Bool)):∀ m:Mp,gvl (putM m k a xs) k' a'=if k'=k∧a'=a then xs else gvl m k' a'
 | []=>by
  rw[zuk,zfm]
  by_cases h:k'=k∧a'=a
  ·rw[if_pos h,h.1,h.2];simp[gk]
  ·rw[if_neg h]
   have:gk ((k,a),some xs) k' a'=false:=by rw[Bool.eq_false_iff];intro hh;have:=zeb.1 hh;simp only[Prod.mk.injEq]at this;exact h ⟨this.1.symm,this.2.symm⟩
   rw[this];rfl
 |x::m=>by
  have ih:=zy5 k a k' a' xs m
  rw[zqw,zfm]
  cases hx:gk x k a with
  |true =>
   have hx':=zeb.1 hx
   simp only[cond_true,zfm]
   by_cases h:k'=k∧a'=a
   ·rw[if_pos h,h.1,h.2];simp[gk]
   ·rw[if_neg h]
    have h1:gk ((k,a),some xs) k' a'=false:=by rw[Bool.eq_false_iff];intro hh;have:=zeb.1 hh;simp only[Prod.mk.injEq]at this;exact h ⟨this.1.symm,this.2.symm⟩
    have h2:gk x k' a'=false:=by rw[Bool.eq_false_iff];intro hh;have:=zeb.1 hh;rw[hx']at this;simp only[Prod.mk.injEq]at this;exact h ⟨this.1.symm,this.2.symm⟩
    rw[h1,h2];rfl
  |false =>
   simp only[cond_false,zfm,ih]
   cases hx2:gk x k' a' with
   |true =>
    have hx2':=zeb.1 hx2
    have:¬ (k'=k∧a'=a):=by rintro ⟨rfl,rfl⟩;rw[hx]at hx2;cases hx2
    simp only[cond_true,if_neg this]
   |false=>rfl
theorem zy_(k a k' a':Int)(xs:List (Bool×Bool)):∀ m:Mp,gok (putM m k a xs) k' a'=if k'=k∧a'=a then true else gok m k' a'
 | []=>by
  rw[zuk,zfn]
  by_cases h:k'=k∧a'=a
  ·rw[if_pos h];cases gk ((k,a),some xs) k' a' <;> rfl
  ·rw[if_neg h];cases gk ((k,a),some xs) k' a' <;> rfl
 |x::m=>by
  have ih:=zy_ k a k' a' xs m
  rw[zqw,zfn]
  cases hx:gk x k a with
  |true =>
   have hx':=zeb.1 hx
   simp only[cond_true,zfn]
   by_cases h:k'=k∧a'=a
   ·rw[if_pos h,h.1,h.2];simp[gk]
   ·rw[if_neg h]
    have h1:gk ((k,a),some xs) k' a'=false:=by rw[Bool.eq_false_iff];intro hh;have:=zeb.1 hh;simp only[Prod.mk.injEq]at this;exact h ⟨this.1.symm,this.2.symm⟩
    have h2:gk x k' a'=false:=by rw[Bool.eq_false_iff];intro hh;have:=zeb.1 hh;rw[hx']at this;simp only[Prod.mk.injEq]at this;exact h ⟨this.1.symm,this.2.symm⟩
    rw[h1,h2];rfl
  |false =>
   simp only[cond_false,zfn,ih]
   cases hx2:gk x k' a' with
   |true =>
    have:¬ (k'=k∧a'=a):=by rintro ⟨rfl,rfl⟩;rw[hx]at hx2;cases hx2
    simp only[cond_true,if_neg this]
   |false=>rfl
theorem ztb(k a k' a':Int)(h:¬ (k'=k∧a'=a)):∀ m:Mp,gvl (gol m k a) k' a'=gvl m k' a'∧gok (gol m k a) k' a'=gok m k' a'
 | []=>⟨rfl,rfl⟩
 |x::m=>by
  have ih:=ztb k a k' a' h m
  rw[yd4]
  cases hx:gk x k a with
  |true =>
   have hx':=zeb.1 hx
   have h1:gk ((k,a),none) k' a'=false:=by rw[Bool.eq_false_iff];intro hh;have:=zeb.1 hh;simp only[Prod.mk.injEq]at this;exact h ⟨this.1.symm,this.2.symm⟩
   have h2:gk x k' a'=false:=by rw[Bool.eq_false_iff];intro hh;have:=zeb.1 hh;rw[hx']at this;simp only[Prod.mk.injEq]at this;exact h ⟨this.1.symm,this.2.symm⟩
   simp only[cond_true,zfm,zfn,h1,h2,cond_false,and_self]
  |false =>
   simp only[cond_false,zfm,zfn,ih.1,ih.2,and_self]
theorem zy9(k a:Int):∀ m:Mp,gfi m k a<(gou m k a).length
 | []=>by simp[gfi,gou]
 |x::m=>by
  have ih:=zy9 k a m
  rw[zvc,zfo]
  cases gk x k a with
  |true=>simp
  |false=>simpa using ih
def Tells(m:Mp)(T:Int→Int→List (Bool×Bool)):Prop:=∀ k a,k≠0→gok m k a=true∧gvl m k a=T k a
theorem Tells.put{m:Mp}{T:Int→Int→List (Bool×Bool)}(h:Tells m T)(k a:Int)(x:Bool×Bool):Tells (putM m k a (gvl m k a++[x])) (fun k' a'=>T k' a'++cond (decide (k=k')&&decide (a=a')) [x] []):=by
 intro k' a' h0
 rw[zy5,zy_]
 by_cases hk:k'=k∧a'=a
 ·obtain⟨rfl,rfl⟩:=hk
  simp[(h k' a' h0).2]
 ·rw[if_neg hk,if_neg hk]
  have:(decide (k=k')&&decide (a=a'))=false:=by
   rw[Bool.eq_false_iff];intro hh
   simp only[Bool.and_eq_true,decide_eq_true_eq]at hh
   exact hk ⟨hh.1.symm,hh.2.symm⟩
  show gok m k' a'=true∧gvl m k' a'=T k' a'++cond (decide (k=k')&&decide (a=a')) [x] []
  rw[this]
  simp[h k' a' h0]
theorem Tells.congr{m:Mp}{T T':Int→Int→List (Bool×Bool)}(h:Tells m T)(e:∀ k a,k≠0→T k a=T' k a):Tells m T':=fun k a h0=>by rw[← e k a h0];exact h k a h0
def hasB(l:List Int)(b:Int):Bool:=(decide (0≤b)&&decide (b≤(l.length:Int) - 1))&&decide (0<l.getD b.toNat 0)
theorem ygn(n:Nat)(P:Pg)(hl:P.2.length≤4000000)(b:Int):q64 n (P,b,())=some ((hasB P.2 b,()),()):=by
 show zjb n P b=_
 unfold zjb hasB
 rw[wr (by omega) (by omega),zhj]
 simp only[Option.bind_some]
 by_cases h1:0≤b
 ·by_cases h2:b≤(P.2.length:Int) - 1
  ·have h3:decide (b<(P.2.length:Int))=true:=decide_eq_true (by omega)
   rw[decide_eq_true h1,decide_eq_true h2,h3]
   simp only[Bool.and_self,cond_true,Bool.true_and]
  ·rw[decide_eq_true h1,decide_eq_false h2]
   rfl
 ·rw[decide_eq_false h1]
  rfl
theorem yoa(n:Nat)(s:Sp)(b:Int)(hq:q60 n (s.2.1,b,())=some ((at2 s.2.1 b,()),())):q65 n (s,b,())=some ((shd s.2.1 b,()),()):=by
 have hr:=zmp s.2.1 b
 show zja n s b=_
 unfold zja shd
 rw[hq]
 simp only[Option.bind_some]
 by_cases h1:0≤at2 s.2.1 b
 ·rw[decide_eq_true h1,decide_eq_true hr.2]
  simp only[cond_true,Bool.true_and]
 ·rw[decide_eq_false h1]
  rfl
def CkV(R W:List Int)(ar:List Ar)(k:Nat)(x:Ar):Prop:=(x.1=0→x=z4)∧(x.1≠0→0≤at2 ar k∧(1≤x.1∧x.1≤2)∧(x.1=1→hasB R x.2.1=true)∧(x.1=2→hasB W x.2.1=true)∧(shd ar k=true→x.2.2.1=true))
abbrev GF17:=(List Sp)→Int→Int→(List ByteArray)→(List Int)→(List ByteArray)→(List Int)→(List Sp)→Int→Mp→Option R17
theorem zlu(n:Nat)(g5:GF17)(S0 S1:List Sp)(x1:Int)(w:Nat)(hw:w≤1000)(t1 t2:List ByteArray)(R W:List Int)(hR:R.length≤4000000)(hW:W.length≤4000000)(h:Int)(lv:Bool)(ar l l':List Ar)(hl:l.length≤1000)
    (hq:∀ b,q60 n (ar,b,())=some ((at2 ar b,()),())):∀ (rest done:List Ar) (mf:Nat) (m:Mp) (T:Int→Int→List (Bool×Bool)),done++rest=l→rest.length<mf→Tells m T→(∀ k a,(T k a).length+rest.length≤100000) →
      ((za8 g5 n mf S0 x1 (w:Int) l (l.length:Int) (done.length:Int) t1 R t2 W S1 h m lv ar l'=some ((false,()),())∧¬ ∀ i,done.length≤i→i < l.length→CkV R W ar i (l.getD i z4)) ∨
       (∃ m',za8 g5 n mf S0 x1 (w:Int) l (l.length:Int) (done.length:Int) t1 R t2 W S1 h m lv ar l'=g5 S0 x1 ((w+1:Nat):Int) t1 R t2 W S1 h m'∧(∀ i,done.length≤i→i<l.length→CkV R W ar i (l.getD i z4))∧Tells m' (fun k a=>T k a++tlR k a ar done.length rest)))
  |_,_,0,_,_,_,hf,_,_=>by omega
  | [],done,mf+1,m,T,hd,_,hT,_=>by
    have hd:done=l:=by simpa using hd
    subst hd
    right
    refine⟨m,?_,fun i h1 h2=>by omega,hT.congr fun k a _=>by simp[tlR]⟩
    show za7 n _ _ _ _ _ _ _ _ _ _ _ _ _ _ _ _ _ _=_
    simp only[za7,lt_f,cond_false,wS (show w≤1000000 by omega)]
  |x::rest,done,mf+1,m,T,hd,hf,hT,hb=>by
    have hlt:done.length<l.length:=by rw[← hd];simp
    have hg:l.getD done.length z4=x:=by rw[← hd];exact zbr _ _ _ _
    have ih:=fun m T hT hb=>zlu n g5 S0 S1 x1 w hw t1 t2 R W hR hW h lv ar l l' hl hq rest (done++[x]) mf m T (by simpa using hd) (by simp at hf;omega) hT hb
    simp only[List.length_append,List.length_cons,List.length_nil,Nat.zero_add]at ih hb
    have e1:=zhj n x.1 1 2
    have e2:=ygn n (t1,R) hR x.2.1
    have e3:=ygn n (t2,W) hW x.2.1
    have e4:=yoa n (lv,ar,l') done.length (hq _)
    have hx1:x.1≠0→gok m x.1 x.2.1=true:=fun h0=>(hT x.1 x.2.1 h0).1
    have hno:¬ CkV R W ar done.length x→¬ ∀ i,done.length≤i→i<l.length→CkV R W ar i (l.getD i z4):=fun hx hh=>hx (by have:=hh done.length (Nat.le_refl _) hlt;rw[hg]at this;exact this)
    have nxt:∀ m1 T1,Tells m1 T1→(∀ k a,(T1 k a).length+rest.length≤100000)→CkV R W ar done.length x→(∀ k a,k≠0→T1 k a++tlR k a ar (done.length+1) rest=T k a++tlR k a ar done.length (x::rest)) →
        ((za8 g5 n mf S0 x1 (w:Int) l (l.length:Int) ((done.length + 1:Nat):Int) t1 R t2 W S1 h m1 lv ar l'=some ((false,()),())∧¬ ∀ i,done.length≤i→i < l.length→CkV R W ar i (l.getD i z4)) ∨
         (∃ m',za8 g5 n mf S0 x1 (w:Int) l (l.length:Int) ((done.length+1:Nat):Int) t1 R t2 W S1 h m1 lv ar l'=g5 S0 x1 ((w+1:Nat):Int) t1 R t2 W S1 h m'∧(∀ i,done.length≤i→i<l.length→CkV R W ar i (l.getD i z4))∧Tells m' (fun k a=>T k a++tlR k a ar done.length (x::rest)))):=fun m1 T1 hT1 hb1 hck heq=>by
      rcases ih m1 T1 hT1 hb1 with ⟨e,hh⟩|⟨m',e,hh,ht⟩
      · exact .inl ⟨e,fun hq=>hh fun i h1 h2=>hq i (by omega) h2⟩
      · refine .inr ⟨m',e,fun i h1 h2=>?_,ht.congr heq⟩
        by_cases hi:i=done.length
        · subst hi;rw[hg];exact hck
        · exact hh i (by omega) h2
    have ew:=wS (show done.length≤1000000 by omega)
    by_cases h0:x.1=0
    · have hz:=yni x h0
      have e0:za8 g5 n (mf+1) S0 x1 (w:Int) l (l.length:Int) (done.length:Int) t1 R t2 W S1 h m lv ar l'=cond (!(decide (x.1=0)&&(decide (x.2.1=0)&&(x.2.2.1 == false&&(x.2.2.2 == false&&true))))) (some ((false,()),())) (za8 g5 n mf S0 x1 (w:Int) l (l.length:Int) ((done.length+1:Nat):Int) t1 R t2 W S1 h m lv ar l'):=by
        show za7 n _ _ _ _ _ _ _ _ _ _ _ _ _ _ _ _ _ _=_
        simp only[za7,lt_t hlt,ge_t,cond_true,zaa,hg,ew]
        rw[show decide (x.1=0)=true from decide_eq_true h0]
        rfl
      rw[e0]
      cases hc:(decide (x.1=0)&&(decide (x.2.1=0)&&(x.2.2.1 == false&&(x.2.2.2 == false&&true)))) with
      |false=>exact .inl ⟨rfl,hno fun hck=>by have:=hz.2 (hck.1 h0);rw[hc]at this;cases this⟩
      |true =>
        refine nxt m T hT (fun k a=>by have:=hb k a;omega) ⟨fun _=>hz.1 hc,fun hh=>absurd h0 hh⟩ fun k a hk=>?_
        have:isT k a x=false:=by rw[Bool.eq_false_iff];exact fun hh=>hk ((za0.1 hh).1.symm.trans h0)
        simp only[tlR,this,cond_false]
    · have hd0:decide (x.1=0)=false:=decide_eq_false h0
      by_cases hat:at2 ar done.length<0
      · left
        refine⟨?_,hno fun hck=>by have:=(hck.2 h0).1;omega⟩
        show za7 n _ _ _ _ _ _ _ _ _ _ _ _ _ _ _ _ _ _=_
        simp only[za7,lt_t hlt,ge_t,cond_true,zaa,hg,ew,hd0,cond_false,hq done.length,Option.bind_some,decide_eq_true hat,Bool.false_and,Bool.not_false]
      · have hat':decide (at2 ar done.length<0)=false:=decide_eq_false hat
        have hlen:decide (((gvl m x.1 x.2.1).length+[(x.2.2.1,shd ar done.length)].length)*(2:Nat)≤(140737488355328:Nat))=true:=by
          have:=hb x.1 x.2.1
          rw[(hT x.1 x.2.1 h0).2]
          exact decide_eq_true (by simp;omega)
        have heqT:∀ k a,k≠0→(T k a++cond (decide (x.1=k)&&decide (x.2.1=a)) [(x.2.2.1,shd ar done.length)] [])++tlR k a ar (done.length+1) rest=T k a++tlR k a ar done.length (x::rest):=fun k a _=>by
          show _=T k a++cond (isT k a x) _ _
          unfold isT
          cases (decide (x.1=k)&&decide (x.2.1=a)) <;> simp
        have fin:=fun hck=>nxt (putM m x.1 x.2.1 (gvl m x.1 x.2.1 ++ [(x.2.2.1,shd ar done.length)])) _ (hT.put x.1 x.2.1 (x.2.2.1,shd ar done.length)) (fun k a=>by
          have:=hb k a
          cases (decide (x.1=k)&&decide (x.2.1=a)) <;> simp <;> omega) hck heqT
        -- behind the checks of the place
        have tail:(1≤x.1∧x.1≤2)→(x.1=1→hasB R x.2.1=true)→(x.1=2→hasB W x.2.1=true) →
            ((cond (shd ar done.length) (cond (!x.2.2.1) (some ((false,()),())) (za8 g5 n mf S0 x1 (w:Int) l (l.length:Int) ((done.length + 1:Nat):Int) t1 R t2 W S1 h (putM m x.1 x.2.1 (gvl m x.1 x.2.1 ++ [(x.2.2.1,shd ar done.length)])) lv ar l')) (za8 g5 n mf S0 x1 (w:Int) l (l.length:Int) ((done.length + 1:Nat):Int) t1 R t2 W S1 h (putM m x.1 x.2.1 (gvl m x.1 x.2.1 ++ [(x.2.2.1,shd ar done.length)])) lv ar l')=some ((false,()),())∧¬ ∀ i,done.length≤i→i < l.length→CkV R W ar i (l.getD i z4)) ∨
             (∃ m',cond (shd ar done.length) (cond (!x.2.2.1) (some ((false,()),())) (za8 g5 n mf S0 x1 (w:Int) l (l.length:Int) ((done.length+1:Nat):Int) t1 R t2 W S1 h (putM m x.1 x.2.1 (gvl m x.1 x.2.1++[(x.2.2.1,shd ar done.length)])) lv ar l')) (za8 g5 n mf S0 x1 (w:Int) l (l.length:Int) ((done.length+1:Nat):Int) t1 R t2 W S1 h (putM m x.1 x.2.1 (gvl m x.1 x.2.1++[(x.2.2.1,shd ar done.length)])) lv ar l')=g5 S0 x1 ((w+1:Nat):Int) t1 R t2 W S1 h m'∧(∀ i,done.length≤i→i<l.length→CkV R W ar i (l.getD i z4))∧Tells m' (fun k a=>T k a++tlR k a ar done.length (x::rest)))):=fun h12 hh1 hh2=>by
          cases hs:shd ar done.length with
          |false =>
            rw[hs]at fin
            exact fin ⟨fun hh=>absurd hh h0,fun _=>⟨by omega,h12,hh1,hh2,fun hh=>by rw[hs]at hh;cases hh⟩⟩
          |true =>
            rw[hs]at fin
            simp only[cond_true]
            cases ho:x.2.2.1 with
            |false=>exact .inl ⟨rfl,hno fun hck=>by have:=(hck.2 h0).2.2.2.2 hs;rw[ho]at this;cases this⟩
            |true =>
              rw[ho]at fin
              exact fin ⟨fun hh=>absurd hh h0,fun _=>⟨by omega,h12,hh1,hh2,fun _=>ho⟩⟩
        have hgo:=hx1 h0
        have hrg:decide (((gfi m x.1 x.2.1:Nat):Int)<(((gou m x.1 x.2.1).length:Nat):Int))=true:=decide_eq_true (Int.ofNat_lt.2 (zy9 x.1 x.2.1 m))
        by_cases k1:x.1=1
        · cases hh1:hasB R x.2.1 with
          |false =>
            left
            refine⟨?_,hno fun hck=>by have:=(hck.2 h0).2.2.1 k1;rw[hh1]at this;cases this⟩
            show za7 n _ _ _ _ _ _ _ _ _ _ _ _ _ _ _ _ _ _=_
            simp only[za7,lt_t hlt,ge_t,cond_true,zaa,hg,ew,hd0,cond_false,hq done.length,Option.bind_some,hat',decide_eq_true k1,e2,hh1,Bool.not_false]
          |true =>
            have e0:za8 g5 n (mf+1) S0 x1 (w:Int) l (l.length:Int) (done.length:Int) t1 R t2 W S1 h m lv ar l'=cond (shd ar done.length) (cond (!x.2.2.1) (some ((false,()),())) (za8 g5 n mf S0 x1 (w:Int) l (l.length:Int) ((done.length+1:Nat):Int) t1 R t2 W S1 h (putM m x.1 x.2.1 (gvl m x.1 x.2.1++[(x.2.2.1,shd ar done.length)])) lv ar l')) (za8 g5 n mf S0 x1 (w:Int) l (l.length:Int) ((done.length+1:Nat):Int) t1 R t2 W S1 h (putM m x.1 x.2.1 (gvl m x.1 x.2.1++[(x.2.2.1,shd ar done.length)])) lv ar l'):=by
              show za7 n _ _ _ _ _ _ _ _ _ _ _ _ _ _ _ _ _ _=_
              simp only[za7,lt_t hlt,ge_t,cond_true,zaa,hg,ew,hd0,cond_false,hq done.length,Option.bind_some,hat',decide_eq_true k1,e2,hh1,Bool.not_true,show decide (x.1=2)=false from decide_eq_false (by omega),e1,show decide (1≤x.1)=true from decide_eq_true (by omega),show decide (x.1≤2)=true from decide_eq_true (by omega),Bool.and_self,e4,hgo,hlen,hrg,Bool.true_and]
              rfl
            rw[e0]
            exact tail ⟨by omega,by omega⟩ (fun _=>hh1) (fun hh=>by omega)
        · have hd1:decide (x.1=1)=false:=decide_eq_false k1
          by_cases k2:x.1=2
          · cases hh2:hasB W x.2.1 with
            |false =>
              left
              refine⟨?_,hno fun hck=>by have:=(hck.2 h0).2.2.2.1 k2;rw[hh2]at this;cases this⟩
              show za7 n _ _ _ _ _ _ _ _ _ _ _ _ _ _ _ _ _ _=_
              simp only[za7,lt_t hlt,ge_t,cond_true,zaa,hg,ew,hd0,cond_false,hq done.length,Option.bind_some,hat',hd1,decide_eq_true k2,e3,hh2,Bool.not_false]
            |true =>
              have e0:za8 g5 n (mf+1) S0 x1 (w:Int) l (l.length:Int) (done.length:Int) t1 R t2 W S1 h m lv ar l'=cond (shd ar done.length) (cond (!x.2.2.1) (some ((false,()),())) (za8 g5 n mf S0 x1 (w:Int) l (l.length:Int) ((done.length+1:Nat):Int) t1 R t2 W S1 h (putM m x.1 x.2.1 (gvl m x.1 x.2.1++[(x.2.2.1,shd ar done.length)])) lv ar l')) (za8 g5 n mf S0 x1 (w:Int) l (l.length:Int) ((done.length+1:Nat):Int) t1 R t2 W S1 h (putM m x.1 x.2.1 (gvl m x.1 x.2.1++[(x.2.2.1,shd ar done.length)])) lv ar l'):=by
                show za7 n _ _ _ _ _ _ _ _ _ _ _ _ _ _ _ _ _ _=_
                simp only[za7,lt_t hlt,ge_t,cond_true,zaa,hg,ew,hd0,cond_false,hq done.length,Option.bind_some,hat',hd1,decide_eq_true k2,e3,hh2,Bool.not_true,e1,show decide (1≤x.1)=true from decide_eq_true (by omega),show decide (x.1≤2)=true from decide_eq_true (by omega),Bool.and_self,e4,hgo,hlen,hrg,Bool.true_and]
                rfl
              rw[e0]
              exact tail ⟨by omega,by omega⟩ (fun hh=>by omega) (fun _=>hh2)
          · left
            have hrng:(decide (1≤x.1)&&decide (x.1≤2))=false:=by
              rw[Bool.eq_false_iff];intro hh
              have:=zb7.1 hh
              have h3:=of_decide_eq_true this.1
              have h4:=of_decide_eq_true this.2
              omega
            refine⟨?_,hno fun hck=>by have:=(hck.2 h0).2.1;omega⟩
            show za7 n _ _ _ _ _ _ _ _ _ _ _ _ _ _ _ _ _ _=_
            simp only[za7,lt_t hlt,ge_t,cond_true,zaa,hg,ew,hd0,cond_false,hq done.length,Option.bind_some,hat',hd1,decide_eq_false k2,e1,hrng,Bool.not_false]
abbrev Lf:=List (Int×List ByteArray×List Int)
abbrev GF29:=Mp→Lf→Lf→Option R17
abbrev GF32:=Int→(List Int)→Int→Int→Mp→Lf→Lf→Option R17
abbrev GF38:=Int→(List Int)→Int→Int→Int→Int→Mp→(List (Bool×Bool))→Lf→Lf→Option R17
abbrev b2:Bool×Bool:=(false,false)
def Pj(l:List (Bool×Bool))(i j:Nat):Prop:=i≠j→(l.getD i b2).1=true→(l.getD i b2).2=true∧(l.getD j b2).2=true
theorem zls(n:Nat)(g29:GF29)(g32:GF32)(g38:GF38)(kd x3 at' x5:Int)(refs:List Int)(m:Mp)(cur left:Lf)(l:List (Bool×Bool))(hl:l.length≤100000)(i:Nat)(hi:i<l.length) :
    ∀ (d k mf:Nat),k+d=l.length→d<mf →
      ((zcw g29 g32 g38 n mf kd (i:Int) refs x3 at' x5 (i:Int) (l.length:Int) (k:Int) m l (l.getD i b2).1 (l.getD i b2).2 cur left=some ((false,()),())∧¬ ∀ j,k≤j→j < l.length→Pj l i j) ∨
       (zcw g29 g32 g38 n mf kd (i:Int) refs x3 at' x5 (i:Int) (l.length:Int) (k:Int) m l (l.getD i b2).1 (l.getD i b2).2 cur left=g38 kd refs x3 at' x5 ((i+1:Nat):Int) m l cur left∧∀ j,k≤j→j<l.length→Pj l i j))
  |_,k,0,_,h=>by omega
  |0,k,mf+1,hk,h=>by
    obtain rfl:k=l.length:=by omega
    right
    refine⟨?_,fun j h1 h2=>by omega⟩
    show zet n _ _ _ _ _ _ _ _ _ _ _ _ _ _ _ _ _=_
    simp only[zet,lt_f,cond_false,wS (show i≤1000000 by omega)]
  |d+1,k,mf+1,hk,h=>by
    have hlt:k<l.length:=by omega
    have ih:=zls n g29 g32 g38 kd x3 at' x5 refs m cur left l hl i hi d (k+1) mf (by omega) (by omega)
    have nxt:Pj l i k→((zcw g29 g32 g38 n mf kd (i:Int) refs x3 at' x5 (i:Int) (l.length:Int) ((k + 1:Nat):Int) m l (l.getD i b2).1 (l.getD i b2).2 cur left=some ((false,()),())∧¬ ∀ j,k≤j→j < l.length→Pj l i j) ∨
       (zcw g29 g32 g38 n mf kd (i:Int) refs x3 at' x5 (i:Int) (l.length:Int) ((k+1:Nat):Int) m l (l.getD i b2).1 (l.getD i b2).2 cur left=g38 kd refs x3 at' x5 ((i+1:Nat):Int) m l cur left∧∀ j,k≤j→j<l.length→Pj l i j)):=fun hx=>by
      rcases ih with ⟨e,hh⟩|⟨e,hh⟩
      · exact .inl ⟨e,fun hq=>hh fun j h1 h2=>hq j (by omega) h2⟩
      · refine .inr ⟨e,fun j h1 h2=>?_⟩
        by_cases hj:j=k
        · subst hj;exact hx
        · exact hh j (by omega) h2
    have e0:zcw g29 g32 g38 n (mf+1) kd (i:Int) refs x3 at' x5 (i:Int) (l.length:Int) (k:Int) m l (l.getD i b2).1 (l.getD i b2).2 cur left=zet n (zcw g29 g32 g38 n mf) g38 kd (i:Int) refs x3 at' x5 (i:Int) (l.length:Int) (k:Int) m l (l.getD i b2).1 (l.getD i b2).2 cur left:=rfl
    rw[e0,zet]
    simp only[lt_t hlt,ge_t,cond_true,zaa,wS (show k≤1000000 by omega)]
    by_cases hik:i=k
    · have:decide ((i:Int)=(k:Int))=true:=decide_eq_true (by omega)
      simp only[this,Bool.not_true,cond_false]
      exact nxt fun h=>absurd hik h
    · have:decide ((i:Int)=(k:Int))=false:=decide_eq_false (by omega)
      simp only[this,Bool.not_false,cond_true]
      cases ho:(l.getD i b2).1 with
      |false=>rw[ho]at nxt;simp only[cond_false];exact nxt fun _ h=>by rw[ho]at h;cases h
      |true =>
        simp only[cond_true]
        cases hs:(l.getD i b2).2 with
        |false =>
          left
          exact⟨rfl,fun hh=>by have:=(hh k (Nat.le_refl _) hlt hik ho).1;rw[hs]at this;cases this⟩
        |true =>
          simp only[cond_true]
          rw[ho,hs]at nxt
          cases hy:(l.getD k b2).2 with
          |false =>
            left
            simp only[Bool.not_false,cond_true]
            exact⟨trivial,fun hh=>by have:=(hh k (Nat.le_refl _) hlt hik ho).2;rw[hy]at this;cases this⟩
          |true =>
            simp only[Bool.not_true,cond_false]
            exact nxt fun _ _=>⟨hs,hy⟩
theorem zlt(n:Nat)(g29:GF29)(g32:GF32)(kd x2 x4:Int)(at':Nat)(hat:at'≤1000000)(refs:List Int)(m:Mp)(cur left:Lf)(l:List (Bool×Bool))(hl:l.length≤100000)(hn:l.length<n)(hx4:x4=(l.length:Int)) :
    ∀ (d k mf:Nat),k+d=l.length→d<mf →
      ((zcx g29 g32 n mf kd refs x2 (at':Int) x4 (k:Int) m l cur left=some ((false,()),())∧¬ ∀ i,k≤i→i < l.length→∀ j,j < l.length→Pj l i j) ∨
       (zcx g29 g32 n mf kd refs x2 (at':Int) x4 (k:Int) m l cur left=g32 kd refs x2 ((at'+1:Nat):Int) m cur left∧∀ i,k≤i→i<l.length→∀ j,j<l.length→Pj l i j))
  |_,k,0,_,h=>by omega
  |0,k,mf+1,hk,h=>by
    obtain rfl:k=l.length:=by omega
    right
    refine⟨?_,fun j h1 h2=>by omega⟩
    show zeu n _ _ _ _ _ _ _ _ _ _ _ _=_
    simp only[zeu,hx4,lt_f,cond_false,wS hat]
  |d+1,k,mf+1,hk,h=>by
    have hlt:k<l.length:=by omega
    have ih:=zlt n g29 g32 kd x2 x4 at' hat refs m cur left l hl hn hx4 d (k+1) mf (by omega) (by omega)
    have e0:zcx g29 g32 n (mf+1) kd refs x2 (at':Int) x4 (k:Int) m l cur left=zeu n (zcw g29 g32 (zcx g29 g32 n mf) n n) g32 kd refs x2 (at':Int) x4 (k:Int) m l cur left:=rfl
    rw[e0,zeu]
    have hd:decide ((k:Int)<x4)=true:=by rw[hx4];exact lt_t hlt
    simp only[hd,lt_t hlt,ge_t,cond_true,zaa]
    rcases zls n g29 g32 (zcx g29 g32 n mf) kd x2 (at':Int) x4 refs m cur left l hl k hlt l.length 0 n (by omega) hn with ⟨e,hh⟩|⟨e,hh⟩
    · exact .inl ⟨e,fun hq=>hh fun j _ h2=>hq k (Nat.le_refl _) hlt j h2⟩
    · have e:=show zcw g29 g32 (zcx g29 g32 n mf) n n kd (k:Int) refs x2 (at':Int) x4 (k:Int) (l.length:Int) 0 m l (l.getD k b2).1 (l.getD k b2).2 cur left=_ from e
      rw[e]
      rcases ih with ⟨e2,hq⟩|⟨e2,hq⟩
      · exact .inl ⟨e2,fun hr=>hq fun i h1 h2=>hr i (by omega) h2⟩
      · refine .inr ⟨e2,fun i h1 h2 j h3=>?_⟩
        by_cases hi:i=k
        · subst hi;exact hh j (Nat.zero_le _) h3
        · exact hq i (by omega) h2 j h3
def CCv(T:Int→Int→List (Bool×Bool))(kd:Int)(refs:List Int)(a:Nat):Prop:=((T kd a).length:Int)=refs.getD a 0∧prB (T kd a)
theorem zf1(n:Nat)(g29:GF29)(T:Int→Int→List (Bool×Bool))(kd:Int)(refs:List Int)(cur left:Lf)(hr:refs.length≤100000)(hT:∀ a:Nat,(T kd a).length≤100000∧(T kd a).length<n) :
    ∀ (d k mf:Nat) (m:Mp),k+d=refs.length→d<mf→(∀ a:Nat,k≤a→a<refs.length→gok m kd a=true∧gvl m kd a=T kd a) →
      ((zdu g29 n mf kd refs (refs.length:Int) (k:Int) m cur left=some ((false,()),())∧¬ ∀ a,k≤a→a < refs.length→CCv T kd refs a) ∨
       (∃ m',zdu g29 n mf kd refs (refs.length:Int) (k:Int) m cur left=g29 m' cur left∧(∀ a,k≤a→a<refs.length→CCv T kd refs a)∧∀ k' a',k'≠kd→gvl m' k' a'=gvl m k' a'∧gok m' k' a'=gok m k' a'))
  |_,k,0,m,_,h,_=>by omega
  |0,k,mf+1,m,hk,h,_=>by
    obtain rfl:k=refs.length:=by omega
    right
    refine⟨m,?_,(fun a h1 h2=>by omega),fun _ _ _=>⟨rfl,rfl⟩⟩
    show zev n _ _ _ _ _ _ _ _ _=_
    simp only[zev,lt_f,cond_false]
  |d+1,k,mf+1,m,hk,h,hm=>by
    have hlt:k<refs.length:=by omega
    obtain⟨hgo,hgv⟩:=hm k (Nat.le_refl _) hlt
    have hTk:=hT k
    have ih:=zf1 n g29 T kd refs cur left hr hT d (k + 1) mf (gol m kd k) (by omega) (by omega) (fun a h1 h2=>by
      obtain⟨e1,e2⟩:=ztb kd k kd a (fun hh=>by have:=hh.2;omega) m
      rw[e1,e2]
      exact hm a (by omega) h2)
    have e0:zdu g29 n (mf+1) kd refs (refs.length:Int) (k:Int) m cur left=zev n (zcx g29 (zdu g29 n mf) n n) g29 kd refs (refs.length:Int) (k:Int) m cur left:=rfl
    rw[e0,zev]
    simp only[lt_t hlt,ge_t,cond_true,zaa,hgo,hgv]
    by_cases hc:((T kd k).length:Int)=refs.getD k 0
    · simp only[decide_eq_true hc,Bool.not_true,cond_false]
      rcases zlt n g29 (zdu g29 n mf) kd (refs.length:Int) ((T kd k).length:Int) k (by omega) refs (gol m kd k) cur left (T kd k) hTk.1 hTk.2 rfl (T kd k).length 0 n (by omega) hTk.2 with ⟨e,hh⟩|⟨e,hh⟩
      · refine .inl ⟨e,fun hq=>hh fun i _ hi j hj hne ho=>?_⟩
        exact(hq k (Nat.le_refl _) hlt).2 i j hi hj hne ho
      · have e:=show zcx g29 (zdu g29 n mf) n n kd refs (refs.length:Int) (k:Int) ((T kd k).length:Int) 0 (gol m kd k) (T kd k) cur left=_ from e
        rw[e]
        have hcc:CCv T kd refs k:=⟨hc,fun i j hi hj hne ho=>hh i (Nat.zero_le _) hi j hj hne ho⟩
        rcases ih with ⟨e2,hq⟩|⟨m',e2,hq,hp⟩
        · exact .inl ⟨e2,fun hr=>hq fun a h1 h2=>hr a (by omega) h2⟩
        · refine .inr ⟨m',e2,fun a h1 h2=>?_,fun k' a' hne=>?_⟩
          · by_cases ha:a=k
            · subst ha;exact hcc
            · exact hq a (by omega) h2
          · obtain⟨e3,e4⟩:=hp k' a' hne
            obtain⟨e5,e6⟩:=ztb kd k k' a' (fun hh=>hne hh.1) m
            exact⟨e3.trans e5,e4.trans e6⟩
    · simp only[decide_eq_false hc,Bool.not_false,cond_true]
      exact .inl ⟨trivial,fun hq=>hc (hq k (Nat.le_refl _) hlt).1⟩
theorem zvg{left:Lf}(hnd:(left.map (·.1)).Nodup){i:Nat}(hi:i<left.length){x:Int×List ByteArray×List Int}(hx:x∈left.eraseIdx i):x.1≠(left.getD i (0,[],[])).1:=fun e=>by
 obtain⟨j,hji,hj⟩:=List.mem_eraseIdx_iff_getElem?.1 hx
 obtain⟨hjl,hjx⟩:=(List.getElem?_eq_some_iff.1 hj)
 have ei:left.getD i (0,[],[])=left[i]:=by rw[List.getD_eq_getElem?_getD,List.getElem?_eq_getElem hi];rfl
 have hp:=List.pairwise_iff_getElem.1 hnd
 rw[ei,← hjx]at e
 rcases Nat.lt_or_gt_of_ne hji with hlt|hlt
 ·have:=hp j i (by simpa using hjl) (by simpa using hi) hlt
  simp only[List.getElem_map]at this
  exact this e
 ·have:=hp i j (by simpa using hi) (by simpa using hjl) hlt
  simp only[List.getElem_map]at this
  exact this e.symm
theorem zf2(n:Nat)(T:Int→Int→List (Bool×Bool))(hT:∀ kd (a:Nat),(T kd a).length≤100000∧(T kd a).length<n) :
  ∀ (c mf:Nat) (m:Mp) (cur left:Lf),left.length=c→c<mf→(left.map (·.1)).Nodup→(∀ x∈left,x.2.2.length≤100000∧x.2.2.length<n)→(∀ x∈left,∀ a:Nat,gok m x.1 a=true∧gvl m x.1 a=T x.1 a) →
   ∃ b,zf3 n mf m cur left=some ((b,()),())∧(b=true↔∀ x∈left,∀ a,a<x.2.2.length→CCv T x.1 x.2.2 a)
 |_,0,_,_,_,_,h,_,_,_=>by omega
 |0,mf+1,m,cur,left,hc,_,_,_,_=>by
  have:left=[]:=List.length_eq_zero_iff.1 hc
  subst this
  exact⟨true,rfl,iff_of_true rfl fun x hx=>by cases hx⟩
 |c+1,mf+1,m,cur,left,hc,hf,hnd,hlen,hm=>by
  by_cases hall:∀ x∈left,∀ a,a<x.2.2.length→CCv T x.1 x.2.2 a
  ·refine⟨true,?_,iff_of_true rfl hall⟩
   show zew n _ _ _ _=_
   rw[zew,decide_eq_false (show ¬ left.length=0 by omega)]
   simp only[cond_false]
   refine yav (by omega) fun i hi=>?_
   have hx:left.getD i (0,[],[])∈left:=zai hi
   rcases zf1 n (zf3 n mf) T (left.getD i (0,[],[])).1 (left.getD i (0,[],[])).2.2 [left.getD i (0,[],[])] (left.eraseIdx i) (hlen _ hx).1 (hT _) (left.getD i (0,[],[])).2.2.length 0 n m (by omega) (hlen _ hx).2 (fun a _ _=>hm _ hx a) with ⟨e,hh⟩|⟨m',e,hh,hp⟩
   ·exact(hh fun a _ h2=>hall _ hx a h2).elim
   ·refine e.trans ?_
    obtain ⟨b,e2,hb⟩:=zf2 n T hT c mf m' [left.getD i (0,[],[])] (left.eraseIdx i) (by rw [List.length_eraseIdx_of_lt hi]; omega) (by omega) (hnd.sublist ((List.eraseIdx_sublist _ _).map _)) (fun x hx=>hlen x ((List.eraseIdx_sublist _ _).subset hx)) (fun x hx a=>by
     have hne:=zvg hnd hi hx
     obtain⟨e3,e4⟩:=hp x.1 a hne
     rw[e3,e4]
     exact hm x ((List.eraseIdx_sublist _ _).subset hx) a)
    rw[e2,hb.2 fun x hx=>hall x ((List.eraseIdx_sublist _ _).subset hx)]
  ·refine⟨false,?_,iff_of_false (by simp) hall⟩
   show zew n _ _ _ _=_
   rw[zew,decide_eq_false (show ¬ left.length=0 by omega)]
   simp only[cond_false]
   refine yav (by omega) fun i hi=>?_
   have hx:left.getD i (0,[],[])∈left:=zai hi
   rcases zf1 n (zf3 n mf) T (left.getD i (0,[],[])).1 (left.getD i (0,[],[])).2.2 [left.getD i (0,[],[])] (left.eraseIdx i) (hlen _ hx).1 (hT _) (left.getD i (0,[],[])).2.2.length 0 n m (by omega) (hlen _ hx).2 (fun a _ _=>hm _ hx a) with ⟨e,hh⟩|⟨m',e,hh,hp⟩
   ·exact e
   ·refine e.trans ?_
    obtain ⟨b,e2,hb⟩:=zf2 n T hT c mf m' [left.getD i (0,[],[])] (left.eraseIdx i) (by rw [List.length_eraseIdx_of_lt hi]; omega) (by omega) (hnd.sublist ((List.eraseIdx_sublist _ _).map _)) (fun x hx=>hlen x ((List.eraseIdx_sublist _ _).subset hx)) (fun x hx a=>by
     have hne:=zvg hnd hi hx
     obtain⟨e3,e4⟩:=hp x.1 a hne
     rw[e3,e4]
     exact hm x ((List.eraseIdx_sublist _ _).subset hx) a)
    rw[e2]
    cases hbb:b with
    |false=>rfl
    |true =>
     refine(hall fun x hxl=>?_).elim
     have:=hb.1 hbb
     obtain⟨j,hjl,rfl⟩:=List.getElem_of_mem hxl
     by_cases hji:j=i
     ·subst hji
      have ei:left.getD j (0,[],[])=left[j]:=by rw[List.getD_eq_getElem?_getD,List.getElem?_eq_getElem hjl];rfl
      rw[ei]at hh
      exact fun a ha=>hh a (Nat.zero_le _) ha
     ·exact this _ (List.mem_eraseIdx_iff_getElem?.2 ⟨j,hji,List.getElem?_eq_getElem hjl⟩)
def RwC(n:Nat)(R W:List Int)(s:Sp):Prop:=(s.1=false→s.2.1=[]∧s.2.2=[])∧(s.1=true→aok n s.2.1=true∧s.2.2.length=16∧∀ i,i<16→CkV R W s.2.1 i (s.2.2.getD i z4))
theorem zp7{S:List Sp}(h:∀ s∈S,s.2.2.length≤16)(kd a:Int):told kd a S≤16*S.length:=by
 induction S with
 |nil=>exact Nat.zero_le _
 |cons s S ih =>
  rw[zbt]
  have h1:=ih (fun t ht=>h t (List.mem_cons_of_mem _ ht))
  have h2:=zr3 kd a s.2.2
  have h3:=h s List.mem_cons_self
  simp only[List.length_cons]
  omega
theorem zny(n:Nat)(hn:2000≤n)(S S1:List Sp)(t1 t2:List ByteArray)(R W:List Int)(hR:R.length≤1000)(hW:W.length≤1000)(h:Int)(hS:S.length≤5)(hA:∀ s∈S,s.2.1.length<n∧s.2.1.length≤4000000) :
  ∀ (rest done:List Sp) (mf:Nat) (m:Mp),done++rest=S→rest.length<mf→Tells m (fun k a=>tl k a done)→(∀ s∈done,s.2.2.length≤16) →
   ∃ b,zdy n mf S (S.length:Int) (done.length:Int) t1 R t2 W S1 h m=some ((b,()),())∧(b=true↔(∀ s∈rest,RwC n R W s)∧(∀ a,a<R.length→CCv (fun k a=>tl k a S) 1 R a)∧(∀ a,a<W.length→CCv (fun k a=>tl k a S) 2 W a))
 |_,_,0,_,_,h,_,_=>by omega
 | [],done,mf+1,m,hd,_,hT,hl=>by
  have hd:done=S:=by simpa using hd
  subst hd
  have hb:∀ kd (a:Nat),(tl kd a done).length≤100000∧(tl kd a done).length<n:=fun kd a=>by
   rw[zgb]
   have:=zp7 hl kd a
   omega
  obtain ⟨b,e,f⟩:=zf2 n (fun k a=>tl k a done) hb 2 n m [] ([((1:Int),t1,R)] ++ [((2:Int),t2,W)]) rfl (by omega) (by simp) (fun x hx=>by
   have hx:x=(1,t1,R)∨x=(2,t2,W):=by simpa using hx
   rcases hx with rfl|rfl
   ·exact⟨show R.length≤100000 by omega,show R.length<n by omega⟩
   ·exact⟨show W.length≤100000 by omega,show W.length<n by omega⟩) (fun x hx a=>by
   have hx:x=(1,t1,R)∨x=(2,t2,W):=by simpa using hx
   rcases hx with rfl|rfl
   ·exact hT 1 a (by decide)
   ·exact hT 2 a (by decide))
  refine⟨b,?_,f.trans ⟨fun hh=>⟨(fun s hs=>by cases hs),fun a ha=>hh (1,t1,R) (by simp) a ha,fun a ha=>hh (2,t2,W) (by simp) a ha⟩,fun hh x hx a ha=>?_⟩⟩
  ·show zib n _ _ _ _ _ _ _ _ _ _ _ _ _=_
   rw[zib,lt_f]
   simp only[cond_false]
   exact e
  ·have hx:x=(1,t1,R)∨x=(2,t2,W):=by simpa using hx
   rcases hx with rfl|rfl
   ·exact hh.2.1 a ha
   ·exact hh.2.2 a ha
 |s::rest,done,mf+1,m,hd,hf,hT,hl=>by
  have hlt:done.length<S.length:=by rw[← hd];simp
  have hg:S.getD done.length (false,[],[])=s:=by rw[← hd];exact zbr _ _ _ _
  have hsm:s∈S:=by rw[← hd];simp
  have ih:=fun m hT hl=>zny n hn S S1 t1 t2 R W hR hW h hS hA rest (done++[s]) mf m (by simpa using hd) (by simp at hf;omega) hT hl
  simp only[List.length_append,List.length_cons,List.length_nil,Nat.zero_add]at ih
  have e0:zdy n (mf+1) S (S.length:Int) (done.length:Int) t1 R t2 W S1 h m=zib n (zdy n mf) (za8 (zdy n mf) n n) (zf3 n n) S (S.length:Int) (done.length:Int) t1 R t2 W S1 h m:=rfl
  rw[e0,zib]
  simp only[lt_t hlt,ge_t,cond_true,zaa,hg,wS (show done.length≤1000000 by omega)]
  have nxt:∀ m',RwC n R W s→Tells m' (fun k a=>tl k a (done++[s]))→s.2.2.length≤16→∃ b,zdy n mf S (S.length:Int) ((done.length+1:Nat):Int) t1 R t2 W S1 h m'=some ((b,()),())∧(b=true↔(∀ t∈s::rest,RwC n R W t)∧(∀ a,a<R.length→CCv (fun k a=>tl k a S) 1 R a)∧(∀ a,a<W.length→CCv (fun k a=>tl k a S) 2 W a)):=fun m' hc hT' hl'=>by
   obtain ⟨b,e,f⟩:=ih m' hT' (fun t ht=>by
    rcases List.mem_append.1 ht with ht|ht
    ·exact hl t ht
    ·rw[List.mem_singleton.1 ht];exact hl')
   exact ⟨b,e,f.trans ⟨fun hh=>⟨fun t ht=>by
    rcases List.mem_cons.1 ht with rfl|ht
    ·exact hc
    ·exact hh.1 t ht,hh.2⟩,fun hh=>⟨fun t ht=>hh.1 t (List.mem_cons_of_mem _ ht),hh.2⟩⟩⟩
  have no:¬ RwC n R W s→∃ b,(some ((false,()),()):Option R17)=some ((b,()),())∧(b=true↔(∀ t∈s::rest,RwC n R W t)∧(∀ a,a<R.length→CCv (fun k a=>tl k a S) 1 R a)∧(∀ a,a<W.length→CCv (fun k a=>tl k a S) 2 W a)):=fun hc =>
   ⟨false,rfl,iff_of_false (by simp) fun hh=>hc (hh.1 s List.mem_cons_self)⟩
  cases hb:s.1 with
  |false =>
   simp only[Bool.not_false,cond_true]
   by_cases h1:s.2.1=[]
   ·have hd1:decide ((0:Int)<((List.length s.2.1:Nat):Int))=false:=by rw[h1];rfl
    rw[hd1]
    simp only[cond_false]
    by_cases h2:s.2.2=[]
    ·have hd2:decide ((0:Int)<((List.length s.2.2:Nat):Int))=false:=by rw[h2];rfl
     rw[hd2]
     simp only[cond_false]
     refine nxt m ⟨fun _=>⟨h1,h2⟩,fun h=>by rw[hb]at h;cases h⟩ (hT.congr fun k a _=>?_) (by rw[h2];simp)
     rw[ygh,zch,h2]
     simp[tlR,tl]
    ·have hd2:decide ((0:Int)<((List.length s.2.2:Nat):Int))=true:=decide_eq_true (by have:=List.length_pos_iff.2 h2;omega)
     rw[hd2]
     simp only[cond_true]
     exact no fun hc=>h2 (hc.1 hb).2
   ·have hd1:decide ((0:Int)<((List.length s.2.1:Nat):Int))=true:=decide_eq_true (by have:=List.length_pos_iff.2 h1;omega)
    rw[hd1]
    simp only[cond_true]
    exact no fun hc=>h1 (hc.1 hb).1
  |true =>
   simp only[Bool.not_true,cond_false]
   obtain⟨ha1,ha2⟩:=hA s hsm
   obtain⟨e1,f1⟩:=zj3 n s.2.1 ha1 ha2
   rw[ygo,e1]
   simp only[Option.bind_some]
   cases hk:aok n s.2.1 with
   |false=>exact no fun hc=>by have:=(hc.2 hb).1;rw[hk]at this;cases this
   |true =>
    simp only[Bool.not_true,cond_false]
    by_cases h16:((List.length s.2.2:Nat):Int)=16
    ·have h16':s.2.2.length=16:=by omega
     rw[decide_eq_true h16]
     simp only[Bool.not_true,cond_false]
     have hq:∀ b,q60 n (s.2.1,b,())=some ((at2 s.2.1 b,()),()):=fun b=>ygq n hn s.2.1 b (by have:=f1 hk;omega) (by rw[e1,hk])
     rcases zlu n (zdy n mf) S S1 (S.length:Int) done.length (by omega) t1 t2 R W (by omega) (by omega) h true s.2.1 s.2.2 s.2.2 (by omega) hq s.2.2 [] n m (fun k a=>tl k a done) rfl (by omega) hT (fun k a=>by
      rw[zgb]
      have:=zp7 hl k a
      omega) with ⟨e,hh⟩|⟨m',e,hh,hT'⟩
     ·have e:=show za8 (zdy n mf) n n S (S.length:Int) (done.length:Int) s.2.2 (s.2.2.length:Int) 0 t1 R t2 W S1 h m true s.2.1 s.2.2=_ from e
      rw[e]
      exact no fun hc=>hh fun i _ hi=>(hc.2 hb).2.2 i (by omega)
     ·have e:=show za8 (zdy n mf) n n S (S.length:Int) (done.length:Int) s.2.2 (s.2.2.length:Int) 0 t1 R t2 W S1 h m true s.2.1 s.2.2=_ from e
      rw[e]
      refine nxt m' ⟨(fun h=>by rw[hb]at h;cases h),fun _=>⟨hk,h16',fun i hi=>hh i (Nat.zero_le _) (by omega)⟩⟩ (hT'.congr fun k a _=>?_) (by omega)
      rw[ygh,zch]
      simp[tl]
    ·rw[decide_eq_false h16]
     simp only[Bool.not_false,cond_true]
     exact no fun hc=>h16 (by have:=(hc.2 hb).2.1;omega)
theorem zj9{l:List Int}(hl:l.length=12){b:Int}:hasB l b=true↔(0≤b∧b<12)∧0<l.getD b.toNat 0:=by
 unfold hasB
 rw[hl]
 simp only[Bool.and_eq_true,decide_eq_true_eq]
 constructor
 ·rintro ⟨⟨h1,h2⟩,h3⟩;exact⟨⟨h1,by omega⟩,h3⟩
 ·rintro ⟨⟨h1,h2⟩,h3⟩;exact⟨⟨h1,by omega⟩,h3⟩
theorem kd12{a:Int}(h:1≤a∧a≤2)(k:¬ a=1):a=2:=by omega
theorem yby(n:Nat)(M:Me)(l1:M.1.2.length=12)(l2:M.2.1.2.length=12)(l5:M.2.2.1.length=5) :
  ((∀ s∈M.2.2.1,RwC n M.1.2 M.2.1.2 s)∧(∀ a,a<M.1.2.length→CCv (fun k a=>tl k a M.2.2.1) 1 M.1.2 a)∧(∀ a,a<M.2.1.2.length→CCv (fun k a=>tl k a M.2.2.1) 2 M.2.1.2 a))↔((∀ w,w<5→SpV n (rw' M.2.2.1 w))∧CnV M):=by
 have cc:∀ (kd:Int) (R:List Int),R.length=12→((∀ a,a<R.length→CCv (fun k a=>tl k a M.2.2.1) kd R a)↔∀ i:Nat,i<12→R.getD i 0=(told kd i M.2.2.1:Int)∧alnB (tl kd i M.2.2.1)=true):=fun kd R hR=>by
  rw[hR]
  constructor
  ·intro h i hi
   obtain⟨h1,h2⟩:=h i hi
   exact⟨by rw[← h1];simp only[zgb],(zvn _).2 h2⟩
  ·intro h i hi
   obtain⟨h1,h2⟩:=h i hi
   exact⟨by rw[h1];simp only[zgb],(zvn _).1 h2⟩
 rw[cc 1 _ l1,cc 2 _ l2]
 have sh:∀ (ar:List Ar) (i:Nat),0≤at2 ar i→shd ar i=(ar.getD (at2 ar i).toNat z4).2.2.2:=fun ar i h=>by unfold shd;rw[decide_eq_true h];rfl
 constructor
 ·rintro ⟨hr,hc1,hc2⟩
  refine⟨fun w hw=>?_,hc1,hc2⟩
  have h:=hr _ (zai (show w<M.2.2.1.length by omega):rw' M.2.2.1 w∈M.2.2.1)
  refine⟨h.1,fun hb=>⟨(h.2 hb).1,(h.2 hb).2.1,fun i hi=>?_⟩⟩
  obtain⟨c1,c2⟩:=(h.2 hb).2.2 i hi
  refine⟨⟨c1,fun h0=>?_⟩,fun h0=>?_⟩
  ·obtain⟨d1,d2,_,_,d5⟩:=c2 h0
   exact⟨d1,d2,fun hs=>d5 ((sh _ _ d1).trans hs)⟩
  ·obtain⟨d1,d2,d3,d4,d5⟩:=c2 h0
   by_cases k1:((rw' M.2.2.1 w).2.2.getD i z4).1=1
   ·exact((zj9 l1).1 (d3 k1)).1
   ·exact((zj9 l2).1 (d4 (kd12 d2 k1))).1
 ·rintro ⟨hr,hc1,hc2⟩
  refine⟨fun s hs=>?_,hc1,hc2⟩
  obtain⟨w,hw,rfl⟩:=zxr hs
  have h:=hr w (by omega)
  refine⟨h.1,fun hb=>⟨(h.2 hb).1,(h.2 hb).2.1,fun i hi=>?_⟩⟩
  obtain⟨⟨c1,c2⟩,c3⟩:=(h.2 hb).2.2 i hi
  have hx:(rw' M.2.2.1 w).2.2.getD i z4∈(rw' M.2.2.1 w).2.2:=zai (by have:=(h.2 hb).2.1;omega)
  refine⟨c1,fun h0=>?_⟩
  obtain⟨d1,d2,d3⟩:=c2 h0
  obtain⟨a0,a1⟩:=c3 h0
  have pos:∀ (kd:Int) (R:List Int),(∀ i:Nat,i<12→R.getD i 0=(told kd i M.2.2.1:Int)∧alnB (tl kd i M.2.2.1)=true)→((rw' M.2.2.1 w).2.2.getD i z4).1=kd→0<R.getD ((rw' M.2.2.1 w).2.2.getD i z4).2.1.toNat 0:=fun kd R hc hk=>by
   obtain⟨j,hj⟩:=Int.eq_ofNat_of_zero_le a0
   rw[hj,zaa,(hc j (by omega)).1]
   have:=zb1 hs hx (za0.2 ⟨hk,hj⟩)
   omega
  refine⟨d1,d2,fun k1=>(zj9 l1).2 ⟨⟨a0,a1⟩,pos 1 _ hc1 k1⟩,fun k2=>(zj9 l2).2 ⟨⟨a0,a1⟩,pos 2 _ hc2 k2⟩,fun hs=>d3 ((sh _ _ d1).symm.trans hs)⟩
theorem yjh(n:Nat)(hn:2000≤n)(M:Me)(hB:BgM n M):∃ b,q17 n (M,())=some ((b,()),())∧(b=true↔MV n M):=by
 show ∃ b,zjv n _ M=_∧_
 rw[zjv]
 obtain⟨e1,f1⟩:=zfz n hn M.1
 obtain⟨e2,f2⟩:=zfz n hn M.2.1
 rw[show ((M.1.1,M.1.2):Pg)=M.1 from rfl,ygp,e1]
 simp only[Option.bind_some]
 cases hc1:pgB n M.1 with
 |false=>exact⟨_,rfl,iff_of_false (by simp) fun hv=>by have:=hv.p1;rw[hc1]at this;cases this⟩
 |true =>
  simp only[Bool.not_true,cond_false]
  by_cases h1:((M.1.2.length:Int)=12)
  ·rw[decide_eq_true h1]
   simp only[Bool.not_true,cond_false]
   rw[show ((M.2.1.1,M.2.1.2):Pg)=M.2.1 from rfl,ygp,e2]
   simp only[Option.bind_some]
   cases hc2:pgB n M.2.1 with
   |false=>exact⟨_,rfl,iff_of_false (by simp) fun hv=>by have:=hv.p2;rw[hc2]at this;cases this⟩
   |true =>
    simp only[Bool.not_true,cond_false]
    by_cases h2:((M.2.1.2.length:Int)=12)
    ·by_cases h3:((M.2.2.1.length:Int)=5)
     ·rw[decide_eq_true h2,decide_eq_true h3]
      simp only[Bool.not_true,cond_false]
      rw[zhj]
      simp only[Option.bind_some]
      cases hh:(decide ((0:Int)≤M.2.2.2)&&decide (M.2.2.2≤11)) with
      |false =>
       refine⟨_,rfl,iff_of_false (by simp) fun hv=>?_⟩
       rw[decide_eq_true hv.h0,decide_eq_true hv.h1]at hh
       cases hh
      |true =>
       simp only[Bool.not_true,cond_false]
       obtain⟨b,e,f⟩:=zny n hn M.2.2.1 M.2.2.1 M.1.1 M.2.1.1 M.1.2 M.2.1.2 (by omega) (by omega) M.2.2.2 (by omega) hB.r M.2.2.1 [] n [] rfl (by omega) (fun k a _=>⟨rfl,rfl⟩) (fun s hs=>by cases hs)
       have hh:=zb7.1 hh
       refine⟨b,e,f.trans ((yby n M (by omega) (by omega) (by omega)).trans ⟨fun hq=>⟨hc1,hc2,by omega,by omega,by omega,of_decide_eq_true hh.1,of_decide_eq_true hh.2,hq.1,hq.2⟩,fun hv=>⟨hv.sp,hv.cn⟩⟩)⟩
     ·rw[decide_eq_true h2,decide_eq_false h3]
      simp only[Bool.not_true,Bool.not_false,cond_false,cond_true]
      exact⟨_,rfl,iff_of_false (by simp) fun hv=>h3 (by have:=hv.l5;omega)⟩
    ·rw[decide_eq_false h2]
     simp only[Bool.not_false,cond_true]
     exact⟨_,rfl,iff_of_false (by simp) fun hv=>h2 (by have:=hv.l2;omega)⟩
  ·rw[decide_eq_false h1]
   simp only[Bool.not_false,cond_true]
   exact⟨_,rfl,iff_of_false (by simp) fun hv=>h1 (by have:=hv.l1;omega)⟩
noncomputable def okM(n:Nat)(M:Me):Bool:=match q53 n (M,()) with
 |some ((b,_),_)=>b
 |none=>false
theorem zoa(n:Nat)(hn:2000≤n)(M:Me)(hB:BgM n M):q53 n (M,())=some ((okM n M,()),())∧q17 n (M,())=some ((okM n M,()),())∧(okM n M=true↔MV n M):=by
 obtain⟨b,e,f⟩:=yjb n hn M hB
 obtain⟨c,g,k⟩:=yjh n hn M hB
 have hb:okM n M=b:=by unfold okM;rw[e]
 have hbc:b=c:=by
  cases b <;> cases c <;> simp_all
 rw[hb]
 exact⟨e,by rw[hbc];exact g,f⟩
theorem MV.mw{n:Nat}{M:Me}(h:MV n M)(hn:2000≤n)(hB:BgM n M):MW M:=by
 have g1:=(zfz n hn M.1).2 h.p1
 have g2:=(zfz n hn M.2.1).2 h.p2
 have:=h.l1
 have:=h.l2
 have:=h.l5
 refine⟨by omega,by omega,by omega,by omega,by omega,fun s hs=>?_⟩
 obtain⟨i,hi,rfl⟩:=zxr hs
 have:=(h.sp i (by omega)).small (hB.r _ hs).1 (hB.r _ hs).2
 omega
theorem MV.mi{n:Nat}{M:Me}(h:MV n M)(hn:2000≤n)(hB:BgM n M):MI M:=by
 obtain⟨b,e,f⟩:=zxy n hn M (h.mw hn hB)
 obtain⟨e2,_,f2⟩:=zoa n hn M hB
 rw[f2.2 h]at e2
 rw[e2]at e
 injection e with e
 injection e with e _
 injection e with e _
 exact f e.symm
theorem MW.bg{M:Me}(h:MW M){n:Nat}(hn:2000≤n):BgM n M:=⟨fun s hs=>by have:=h.r s hs;omega⟩
theorem zx7(n:Nat)(P:Pg)(h1:P.1.length≤1000)(h2:P.2.length≤1000):q112 n (P,())=some ((P,()),()):=by
 show zgq n P=_
 rw[zgq,decide_eq_true (by omega),decide_eq_true (by omega)]
 rfl
theorem yn9(n:Nat)(l:List Ar)(h:l.length≤1000):q87 n (l,())=some ((l,()),()):=by
 show cond (decide ((0+l.length)*(24:Nat)≤(140737488355328:Nat))) _ _=_
 rw[decide_eq_true (by omega)]
 rfl
theorem yjm(n:Nat)(l:List Ar)(h:l.length≤1000):q113 n (l,())=some ((l,()),()):=by
 show cond (decide ((0+l.length)*(24:Nat)≤(140737488355328:Nat))) _ _=_
 rw[decide_eq_true (by omega)]
 rfl
theorem zq4(n:Nat)(x3 x4:Int)(x5:List ByteArray)(x6:List Int)(x7:List ByteArray)(x8:List Int)(S:List Sp)(hs:S.length≤1000)(hr:∀ s∈S,s.2.1.length≤1000∧s.2.2.length≤1000):∀ (rest done:List Sp) (m:Nat),done++rest=S→rest.length<m →
  zq5 n m S (S.length:Int) (done.length:Int) x3 x4 x5 x6 x7 x8 done=some ((((x5,x6),((x7,x8),(S,x4))),()),())
 | [],done,0,hd,h=>by simp at h
 | [],done,m+1,hd,h=>by
  show zh4 n _ _ _ _ _ _ _ _ _ _ _=_
  have hd':done=S:=by simpa using hd
  subst hd'
  simp only[zh4,lt_f,cond_false]
 |s::rest,done,0,hd,h=>by simp at h
 |s::rest,done,m+1,hd,h=>by
  have hl:done.length<S.length:=by rw[← hd];simp
  have hg:S.getD done.length (false,[],[])=s:=by rw[← hd];simp
  have hsm:s∈S:=by rw[← hd];simp
  show zh4 n _ _ _ _ _ _ _ _ _ _ _=_
  simp only[zh4,lt_t hl,ge_t,cond_true,zaa,hg]
  rw[yn9 n s.2.1 (hr s hsm).1]
  simp only[Option.bind_some]
  rw[yjm n s.2.2 (hr s hsm).2]
  simp only[Option.bind_some]
  have ih:=zq4 n x3 x4 x5 x6 x7 x8 S hs hr rest (done++[s]) m (by simpa using hd) (by simp at h;omega)
  simp only[List.length_append,List.length_cons,List.length_nil,Nat.zero_add]at ih
  rw[decide_eq_true (by simp;omega)]
  simp only[cond_true]
  rw[wS (by omega)]
  exact ih
theorem yod(n:Nat)(hn:2000≤n)(M:Me)(hM:MW M):q50 n (M,())=some ((M,()),()):=by
 have h1:=hM.a1
 have h2:=hM.a2
 have h3:=hM.b1
 have h4:=hM.b2
 have h5:=hM.s
 show zjk n (zq5 n n) M=_
 rw[zjk,show ((M.1.1,M.1.2):Pg)=M.1 from rfl,show ((M.2.1.1,M.2.1.2):Pg)=M.2.1 from rfl,zx7 n M.1 (by omega) (by omega),zx7 n M.2.1 (by omega) (by omega)]
 simp only[Option.bind_some]
 exact zq4 n 0 M.2.2.2 M.1.1 M.1.2 M.2.1.1 M.2.1.2 M.2.2.1 (by omega) (fun s hs=>by have:=hM.r s hs;omega) M.2.2.1 [] n rfl (by omega)
def Mz:Me:=(([],[]),([],[]),[],0)
def zwt(M:Me)(t:Nat):Me:=(M.1,M.2.1,M.2.2.1.set t (true,[],List.replicate (Int.toNat 16) (0,0,false,false)),M.2.2.2)
def liv(M:Me)(w:Int):Bool:=(decide (0≤w)&&decide (w≤(M.2.2.1.length:Int) - 1))&&(rw' M.2.2.1 w.toNat).1
theorem zs4{M:Me}{w:Int}(h:liv M w=true):∃ k:Nat,w=(k:Int)∧k<M.2.2.1.length∧(rw' M.2.2.1 k).1=true:=by
 unfold liv at h
 simp only[Bool.and_eq_true,decide_eq_true_eq]at h
 obtain⟨⟨h1,h2⟩,h3⟩:=h
 obtain⟨k,rfl⟩:=Int.eq_ofNat_of_zero_le h1
 exact⟨k,rfl,by omega,by simpa using h3⟩
theorem ygs(n:Nat)(M:Me)(w:Int)(hs:M.2.2.1.length≤4000000):q49 n (M,w,())=some ((liv M w,()),()):=by
 show zjl n M w=_
 rw[zjl,wr (by omega) (by omega),zhj]
 simp only[Option.bind_some,liv]
 by_cases h1:0≤w
 ·by_cases h2:w≤(M.2.2.1.length:Int) - 1
  ·rw[decide_eq_true h1,decide_eq_true h2,decide_eq_true (show w<(M.2.2.1.length:Int) by omega)]
   rfl
  ·rw[decide_eq_true h1,decide_eq_false h2]
   rfl
 ·rw[decide_eq_false h1]
  rfl
theorem yja(n:Nat)(M:Me)(w:Int)(hs:M.2.2.1.length≤4000000):q54 n (M,w,())=some ((liv M w,()),()):=by
 show zeo n M w=_
 rw[zeo,wr (by omega) (by omega),zbn]
 simp only[Option.bind_some,liv]
 by_cases h1:0≤w
 ·by_cases h2:w≤(M.2.2.1.length:Int) - 1
  ·rw[decide_eq_true h1,decide_eq_true h2,decide_eq_true (show w<(M.2.2.1.length:Int) by omega)]
   rfl
  ·rw[decide_eq_true h1,decide_eq_false h2]
   rfl
 ·rw[decide_eq_false h1]
  rfl
def zfw(w:Nat):List Nat→Me→Me
 | [],M=>M
 |k::ks,M=>zfw w ks (lose M w k)
def zft(M:Me)(w:Nat):Me:=(M.1,M.2.1,M.2.2.1.set w (false,[],[]),M.2.2.2)
def rngL(k:Nat):Nat→List Nat
 |0=>[]
 |d+1=>k::rngL (k+1) d
theorem zn_(n:Nat)(w:Nat)(hw:w<5)(x3:Int):∀ (d k m:Nat) (M:Me),MI M→(rw' M.2.2.1 w).2.2.length=16→k+d=16→d<m→zma n m (w:Int) (k:Int) M.2.2.2 x3 M.1.1 M.1.2 M.2.1.1 M.2.1.2 M.2.2.1=some ((zft (zfw w (rngL k d) M) w,()),())
 |_,k,0,M,_,_,_,h=>by omega
 |0,k,m+1,M,hM,hl,hk,h=>by
  obtain rfl:k=16:=by omega
  have hw':w<M.2.2.1.length:=by rw[hM.sp.len];exact hw
  show zcc n _ _ _ _ _ _ _ _ _ _=_
  simp only[zcc,ge_t,lt_t hw',cond_true,zaa]
  rfl
 |d+1,k,m+1,M,hM,hl,hk,h=>by
  have hw':w<M.2.2.1.length:=by rw[hM.sp.len];exact hw
  obtain⟨e1,e2,e3⟩:=zla n M hM w k hw (by omega)
  have ih:=zn_ n w hw x3 d (k+1) m (lose M w k) e2 (by rw[(e3 w).2.2];exact hl) (by omega) (by omega)
  show zcc n _ _ _ _ _ _ _ _ _ _=_
  simp only[zcc,show decide ((k:Int)<16)=true from decide_eq_true (by omega),cond_true]
  have e1':q122 n (((M.1.1,M.1.2),(M.2.1.1,M.2.1.2),M.2.2.1,M.2.2.2),(w:Int),(k:Int),())=some ((lose M w k,()),()):=e1
  rw[e1']
  simp only[Option.bind_some,wS (show k≤1000000 by omega)]
  exact ih
theorem yd5(P:Pg)(k:Nat)(h1:k<P.1.length)(h2:k<P.2.length)(hr:0≤P.2.getD k 0∧P.2.getD k 0<1000):zwq P.1 P.2 (k:Int)=some (giv P k):=by
 unfold zwq giv
 rw[ge_t,lt_t h2,lt_t h1,zaa,wr (by omega) (by omega)]
 simp only[cond_true]
 by_cases h:P.2.getD k 0 - 1=0
 ·rw[decide_eq_true h,if_pos h]
  rfl
 ·rw[decide_eq_false h,if_neg h]
  rfl
theorem zk_(n:Nat)(P:Pg)(k:Nat)(h1:k<P.1.length)(h2:k<P.2.length)(hr:0≤P.2.getD k 0∧P.2.getD k 0<1000):zj1 n (P,(k:Int),())=some ((),(giv P k,())):=by
 show (zwq P.1 P.2 (k:Int)).map (fun r=>(((),(r,())):zkc))=_
 rw[yd5 P k h1 h2 hr]
 rfl
theorem zq8(n:Nat)(w:Nat)(hw:w<5)(x3:Int):∀ (d k m:Nat) (M:Me),MI M→(rw' M.2.2.1 w).2.2.length=16→k+d=16→d<m→zq9 n m (w:Int) 16 (k:Int) x3 M.2.2.2 M.1.1 M.1.2 M.2.1.1 M.2.1.2 M.2.2.1=some ((zft (zfw w (rngL k d) M) w,(true,())),())
 |_,k,0,M,_,_,_,h=>by omega
 |0,k,m+1,M,hM,hl,hk,h=>by
  obtain rfl:k=16:=by omega
  have hw':w<M.2.2.1.length:=by rw[hM.sp.len];exact hw
  show zia n _ _ _ _ _ _ _ _ _ _ _=_
  simp only[zia,ge_t,lt_t hw',cond_true,zaa]
  rfl
 |d+1,k,m+1,M,hM,hl,hk,h=>by
  have hw':w<M.2.2.1.length:=by rw[hM.sp.len];exact hw
  have hp:k<(rw' M.2.2.1 w).2.2.length:=by omega
  obtain⟨e1,e2,e3⟩:=zla n M hM w k hw hp
  have ih:=zq8 n w hw x3 d (k+1) m (lose M w k) e2 (by rw[(e3 w).2.2];exact hl) (by omega) (by omega)
  have hsl:=hM.sp.slI hw hp
  have hr1:=hM.ram.l1
  have hr2:=hM.ram.l2
  have hs1:=hM.swp.l1
  have hs2:=hM.swp.l2
  show zia n _ _ _ _ _ _ _ _ _ _ _=_
  simp only[zia,show decide ((k:Int)<16)=true from decide_eq_true (by omega),cond_true,ge_t,lt_t hw',zaa,lt_t hp,wS (show k≤1000000 by omega)]
  show _=some ((zft (zfw w (rngL (k+1) d) (lose M w k)) w,(true,())),())
  rw[← ih]
  by_cases h1:(sl M.2.2.1 w k).1=1
  ·have hat:=hsl.2.2 (by rw[h1];decide)
   obtain⟨j,hj⟩:=Int.eq_ofNat_of_zero_le hat.1
   have hj2:j<12:=by omega
   have hc:=hM.ram.c j hj2
   have ht:=hM.sp.told 1 j
   have hq:=zk_ n M.1 j (by omega) (by omega) (by omega)
   simp only[h1,decide_true,cond_true,hj,lose,if_true,zaa]
   rw[show ((M.1.1,M.1.2):Pg)=M.1 from rfl,hq]
   rfl
  ·by_cases h2:(sl M.2.2.1 w k).1=2
   ·have hat:=hsl.2.2 (by rw[h2];decide)
    obtain⟨j,hj⟩:=Int.eq_ofNat_of_zero_le hat.1
    have hj2:j<12:=by omega
    have hc:=hM.swp.c j hj2
    have ht:=hM.sp.told 2 j
    have hq:=zk_ n M.2.1 j (by omega) (by omega) (by omega)
    simp only[h1,h2,decide_true,decide_false,cond_true,cond_false,hj,lose,if_true,if_false,zaa]
    rw[show ((M.2.1.1,M.2.1.2):Pg)=M.2.1 from rfl,hq]
    rfl
   ·simp only[h1,h2,decide_false,cond_false,lose,if_false]
noncomputable def drM(n:Nat)(M:Me)(w:Int):Me×Bool:=cond (okM n M&&liv M w) (zft (zfw w.toNat (rngL 0 16) M) w.toNat,true) (Mz,false)
theorem yog(n:Nat)(hn:2000≤n)(M:Me)(w:Int)(hB:BgM n M):q36 n (M,w,())=some (((drM n M w).1,((drM n M w).2,())),()):=by
 obtain⟨e1,_,f⟩:=zoa n hn M hB
 show zjs n M w=_
 rw[zjs,show (((M.1.1,M.1.2),(M.2.1.1,M.2.1.2),M.2.2.1,M.2.2.2):Me)=M from rfl,e1]
 simp only[Option.bind_some]
 unfold drM
 cases hk:okM n M with
 |false=>rfl
 |true =>
  simp only[Bool.not_true,cond_false,Bool.true_and]
  have hM:=(f.1 hk).mi hn hB
  have h5:=hM.sp.len
  rw[yja n M w (by omega)]
  simp only[Option.bind_some]
  cases hl:liv M w with
  |false=>rfl
  |true =>
   obtain⟨k,rfl,hk1,hk2⟩:=zs4 hl
   simp only[Bool.not_true,cond_false,cond_true]
   rw[hM.copy n hn]
   simp only[Option.bind_some]
   have hlen:(rw' M.2.2.1 k).2.2.length=16:=(hM.sp.rw _ (zai hk1)).lv hk2
   have e3:q103 n (M,(k:Int),())=some ((zft (zfw k (rngL 0 16) M) k,()),()):=zn_ n k (by omega) 0 16 0 n M hM hlen (by omega) (by omega)
   rw[show (((M.1.1,M.1.2),(M.2.1.1,M.2.1.2),M.2.2.1,M.2.2.2):Me)=M from rfl,e3]
   simp only[Option.bind_some,zaa]
theorem yoh(n:Nat)(hn:2000≤n)(M:Me)(w:Int)(hB:BgM n M):q35 n (M,w,())=some (((drM n M w).1,((drM n M w).2,())),()):=by
 obtain⟨_,e1,f⟩:=zoa n hn M hB
 show zjt n (zq9 n n) M w=_
 rw[zjt,show (((M.1.1,M.1.2),(M.2.1.1,M.2.1.2),M.2.2.1,M.2.2.2):Me)=M from rfl,e1]
 simp only[Option.bind_some]
 unfold drM
 cases hk:okM n M with
 |false=>rfl
 |true =>
  simp only[Bool.not_true,cond_false,Bool.true_and]
  have hv:=f.1 hk
  have hM:=hv.mi hn hB
  have h5:=hM.sp.len
  rw[ygs n M w (by omega)]
  simp only[Option.bind_some]
  cases hl:liv M w with
  |false=>rfl
  |true =>
   obtain⟨k,rfl,hk1,hk2⟩:=zs4 hl
   simp only[Bool.not_true,cond_false,cond_true]
   rw[yod n hn M (hv.mw hn hB)]
   simp only[Option.bind_some,ge_t,lt_t hk1,cond_true,zaa]
   have hlen:(rw' M.2.2.1 k).2.2.length=16:=(hM.sp.rw _ (zai hk1)).lv hk2
   have e3:=zq8 n k (by omega) 0 16 0 n M hM hlen (by omega) (by omega)
   rw[show ((List.length (rw' M.2.2.1 k).2.2:Nat):Int)=16 by rw[hlen];rfl]
   exact e3
structure GI(V:List Bo):Prop where
 dd:∀ i,i<V.length→(rb V i).1=false→rb V i=(false,[],[],[])
 ll:∀ i,i<V.length→(rb V i).1=true→(rb V i).2.2.1.length=16∧(rb V i).2.2.2.length=16
 gg:∀ i i' k k',i<V.length→i'<V.length→k<16→k'<16→(rb V i).1=true→(rb V i').1=true→(rb V i).2.2.1.getD k 0≠0→(rb V i').2.2.1.getD k' 0=(rb V i).2.2.1.getD k 0→(rb V i').2.2.2.getD k' ByteArray.empty=(rb V i).2.2.2.getD k ByteArray.empty∧((rb V i).2.2.2.getD k ByteArray.empty).size=4
theorem Fst.one{S:List Sp}(hS:SpI S){kd a kd' a' g:Int}(h:Fst S kd a g)(h':Fst S kd' a' g):kd=kd'∧a=a':=by
 obtain⟨i,k,h1,h2,h3,h4,_⟩:=h
 obtain⟨i',k',h1',h2',h3',h4',_⟩:=h'
 have hk:=hS.lens i
 have hk':=hS.lens i'
 have e1:i=i':=by omega
 have e2:k=k':=by omega
 subst e1;subst e2
 have:=za0.1 h3
 have:=za0.1 h3'
 omega
theorem VB.nil:VB []:=⟨by simp,fun b hb=>by simp at hb⟩
structure Chk(n:Nat)(V V':List Bo)(w p j:Nat)(g d:Int):Prop where
 st:∀ i k,i<5→k<64→(getB n V' i k).2=(getB n V i k).2
 kp:∀ i k,i<5→k<64→(¬((i=w∧k / 4=p)∨(g≠0∧(rb V i).2.2.1.getD (k / 4) 0=g))∨k % 4≠j∨(getB n V i k).2≠0)→(getB n V i k).1=(getB n V' i k).1
 nw:∀ i k,i<5→k<64→((i=w∧k / 4=p)∨(g≠0∧(rb V i).2.2.1.getD (k / 4) 0=g))→k % 4=j→(getB n V i k).2=0→(getB n V' i k).1=d
 ln:∀ i k,i<5→k<64→(getB n V i k).2=0→i<V.length∧k / 4<(rb V i).2.2.1.length
theorem yoe(n:Nat){l:List Int}(hl:∀ x∈l,0≤x∧x<256):∃ l',q45 n (l,())=some (((l',0),()),())∧Rd (l',0) 0:=by
 obtain⟨l',e,h⟩:=yon n hl
 exact⟨l',e,h,Int.le_refl _,Int.le_refl _⟩
theorem zig(n:Nat)(h0:Int)(M:Me)(hM:MW M):∀ (d i m b:Nat) (r:List Int×Int),i+d=M.2.2.1.length→d<m→Rd r b→b+3*d≤800000→∃ w r',zns n m h0 (i:Int) r.1 r.2 M.1.1 M.1.2 M.2.1.1 M.2.1.2 M.2.2.1 M.2.2.2=some ((w,()),(r',((M.1,M.2.1,M.2.2.1,h0),())))∧Rd r' (b+3*d+3)
 |_,i,0,b,r,_,h,_,_=>by omega
 |0,i,m+1,b,r,hi,h,hr,hb=>by
  have hs:=hM.s
  obtain rfl:i=M.2.2.1.length:=by omega
  show ∃ w r',zh5 n _ _ _ _ _ _ _ _ _ _ _=_∧_
  simp only[zh5,lt_f,cond_false]
  obtain⟨v,p1,a1,b1,hr1⟩:=hr.pick (by omega) n 8 (by decide)
  have p1':q48 n ((r.1,r.2),8,())=some ((v,()),((r.1,r.2+1),())):=p1
  rw[p1']
  simp only[Option.bind_some,decide_eq_true a1,cond_true,show decide (v<(([0,0,0,1,2,4,-1,5]:List Int).length:Int))=true from decide_eq_true b1]
  exact⟨_,_,rfl,hr1.up (by omega)⟩
 |d+1,i,m+1,b,r,hi,h,hr,hb=>by
  have hs:=hM.s
  have hl:i<M.2.2.1.length:=by omega
  have e0:zns n (m+1) h0 (i:Int) r.1 r.2 M.1.1 M.1.2 M.2.1.1 M.2.1.2 M.2.2.1 M.2.2.2=zh5 n (zns n m) h0 (i:Int) r.1 r.2 M.1.1 M.1.2 M.2.1.1 M.2.1.2 M.2.2.1 M.2.2.2:=rfl
  rw[e0,zh5]
  obtain⟨v,p1,a1,b1,hr1⟩:=hr.pick (by omega) n 8 (by decide)
  have p1':q48 n ((r.1,r.2),8,())=some ((v,()),((r.1,r.2+1),())):=p1
  simp only[lt_t hl,cond_true]
  rw[p1']
  simp only[Option.bind_some,ge_t,cond_true,zaa,wS (show i≤1000000 by omega)]
  cases decide (0<v) with
  |false =>
   simp only[cond_false]
   obtain⟨v2,p2,a2,b2,hr2⟩:=hr1.pick (by omega) n 8 (by decide)
   rw[p2]
   simp only[Option.bind_some,decide_eq_true a2,cond_true,show decide (v2<(([0,0,0,1,2,4,-1,5]:List Int).length:Int))=true from decide_eq_true b2]
   exact⟨_,_,rfl,hr2.up (by omega)⟩
  |true =>
   simp only[cond_true]
   cases (M.2.2.1.getD i (false,[],[])).1 with
   |false =>
    obtain⟨w,r',e,hr'⟩:=zig n h0 M hM d (i+1) m (b+1) (r.1,r.2+1) (by omega) (by omega) hr1 (by omega)
    exact⟨w,r',e,hr'.up (by omega)⟩
   |true =>
    simp only[cond_true]
    obtain⟨v2,p2,a2,b2,hr2⟩:=hr1.pick (by omega) n 2 (by decide)
    rw[p2]
    simp only[Option.bind_some]
    cases decide (v2=0) with
    |true=>exact⟨_,_,rfl,hr2.up (by omega)⟩
    |false =>
     obtain⟨w,r',e,hr'⟩:=zig n h0 M hM d (i+1) m (b+2) (r.1,r.2+1+1) (by omega) (by omega) hr2 (by omega)
     exact⟨w,r',e,hr'.up (by omega)⟩
theorem yjc(n:Nat)(hn:2000≤n)(r:List Int×Int)(b:Nat)(hr:Rd r b)(hb:b≤700000)(M:Me)(hM:MW M):∃ w r',q47 n (r,M,())=some ((w,()),(r',(M,())))∧Rd r' (b+400):=by
 have hs:=hM.s
 obtain⟨w,r',e,h⟩:=zig n M.2.2.2 M hM M.2.2.1.length 0 n b r (by omega) (by omega) hr (by omega)
 exact⟨w,r',e,h.up (by omega)⟩
theorem yof{l:List Int}(hl:∀ x∈l,0≤x∧x<256):∃ M w,q41 2000 (l,())=some ((M,(w,())),())∧MW M:=by
 have e0:q41 2000 (l,())=zjp 2000 l:=rfl
 rw[e0,zjp]
 obtain⟨l',e1,h1⟩:=yoe 2000 hl
 rw[e1]
 simp only[Option.bind_some]
 obtain⟨M,r,e2,h2,h3⟩:=yjd (l',0) h1
 rw[e2]
 simp only[Option.bind_some]
 obtain⟨w,r',e3,h4⟩:=yjc 2000 (by omega) r 6000 h3 (by omega) M h2
 rw[e3]
 exact⟨M,w,rfl,h2⟩
theorem zua(n:Nat)(hn:2000≤n)(P:Pg)(h1:P.1.length≤1000)(h2:P.2.length≤1000):q57 n (P,P,())=some ((true,()),()):=by
 show zjh n P P=_
 rw[zjh,yb7 n hn P.1 h1]
 simp only[Option.bind_some,cond_true]
 rw[zx8 n hn P.2 h2]
 rfl
theorem zlj(n:Nat)(a b:Bool)(c d l:List Ar)(hl:l.length≤1000):∀ (e k m:Nat),k+e=l.length→e<m→zq0 n m (k:Int) a c l b d l=some ((true,()),())
 |_,k,0,_,h=>by omega
 |0,k,m+1,hk,h=>by
  obtain rfl:k=l.length:=by omega
  show zh1 n _ _ _ _ _ _ _ _=_
  simp only[zh1,lt_f,cond_false]
 |e+1,k,m+1,hk,h=>by
  have hlt:k<l.length:=by omega
  have ih:=zlj n a b c d l hl e (k+1) m (by omega) (by omega)
  show zh1 n _ _ _ _ _ _ _ _=_
  simp only[zh1,lt_t hlt,ge_t,cond_true,zaa,decide_true,BEq.rfl,Bool.and_self,Bool.not_true,cond_false,wS (show k≤1000000 by omega),ih]
theorem yb5(n:Nat)(hn:2000≤n)(s:Sp)(h1:s.2.1.length≤1000)(h2:s.2.2.length≤1000):q58 n (s,s,())=some ((true,()),()):=by
 show zjg n (zq0 n n) s s=_
 rw[zjg,yb6 n hn s.2.1 h1]
 have e:(!s.1 == s.1)=false:=by cases s.1 <;> rfl
 simp only[Option.bind_some,e,cond_false,Bool.not_true,decide_true]
 exact zlj n s.1 s.1 s.2.1 s.2.1 s.2.2 h2 s.2.2.length 0 n (by omega) (by omega)
theorem zly(n:Nat)(hn:2000≤n)(x1 x7 x3 x9:List ByteArray)(x2 x8 x4 x10:List Int)(x6 x12:Int)(S:List Sp)(hS:S.length≤1000)(hr:∀ s∈S,s.2.1.length≤1000∧s.2.2.length≤1000):∀ (e k m:Nat),k+e=S.length→e<m→zq_ n m (k:Int) x1 x2 x3 x4 S x6 x7 x8 x9 x10 S x12=some ((true,()),())
 |_,k,0,_,h=>by omega
 |0,k,m+1,hk,h=>by
  obtain rfl:k=S.length:=by omega
  show zic n _ _ _ _ _ _ _ _ _ _ _ _ _ _=_
  simp only[zic,lt_f,cond_false]
 |e+1,k,m+1,hk,h=>by
  have hlt:k<S.length:=by omega
  have ih:=zly n hn x1 x7 x3 x9 x2 x8 x4 x10 x6 x12 S hS hr e (k+1) m (by omega) (by omega)
  have hk':=hr _ (zai (d:=(false,[],[])) hlt)
  show zic n _ _ _ _ _ _ _ _ _ _ _ _ _ _=_
  simp only[zic,lt_t hlt,ge_t,cond_true,zaa]
  rw[show ((((S.getD k (false,[],[])).1,(S.getD k (false,[],[])).2.1,(S.getD k (false,[],[])).2.2):Sp))=S.getD k (false,[],[]) from rfl,yb5 n hn _ hk'.1 hk'.2]
  simp only[Option.bind_some,Bool.not_true,cond_false,wS (show k≤1000000 by omega),ih]
theorem zud(n:Nat)(hn:2000≤n)(M:Me)(hM:MW M):q15 n (M,M,())=some ((true,()),()):=by
 have h1:=hM.a1
 have h2:=hM.a2
 have h3:=hM.b1
 have h4:=hM.b2
 have h5:=hM.s
 show zjy n (zq_ n n) M M=_
 rw[zjy,show ((M.1.1,M.1.2):Pg)=M.1 from rfl,show ((M.2.1.1,M.2.1.2):Pg)=M.2.1 from rfl,zua n hn M.1 (by omega) (by omega),zua n hn M.2.1 (by omega) (by omega)]
 simp only[Option.bind_some,Bool.not_true,cond_false,decide_true]
 exact zly n hn _ _ _ _ _ _ _ _ _ _ M.2.2.1 (by omega) (fun s hs=>by have:=hM.r s hs;omega) M.2.2.1.length 0 n (by omega) (by omega)
theorem zxb(kd a:Int)(s':Sp):∀ (S:List Sp) (t:Nat),tlR kd a s'.2.1 0 s'.2.2=tlR kd a (rw' S t).2.1 0 (rw' S t).2.2→tl kd a (S.set t s')=tl kd a S
 | [],t,_=>rfl
 |s::S,0,h=>by
  have h:tlR kd a s'.2.1 0 s'.2.2=tlR kd a s.2.1 0 s.2.2:=h
  rw[List.set_cons_zero,zch,zch,h]
 |s::S,t+1,h=>by
  rw[List.set_cons_succ,zch,zch,zxb kd a s' S t (by simpa [rw'] using h)]
theorem zop{kd a:Int}(hk:kd≠0)(ar:List Ar):∀ (k p:Nat),tlR kd a ar p (List.replicate k z4)=[]
 |0,p=>rfl
 |k+1,p=>by
  have:isT kd a z4=false:=by simp[isT,Ne.symm hk]
  rw[List.replicate_succ,tlR,this,cond_false,zop hk ar k (p+1)]
theorem yl8{n:Nat}(hn:2000≤n):aok n []=true:=by
 obtain⟨m,rfl⟩:∃ m,n=m+1:=⟨n - 1,by omega⟩
 have:q127 (m+1) ([],())=some ((true,()),()):=by
  show zbc (m+1) (zdd (m+1) m) [] 0=_
  rw[zbc]
  rfl
 unfold aok
 rw[this]
theorem MV.fill{n:Nat}{M:Me}(h:MV n M)(hn:2000≤n){t:Nat}(ht:t<5)(hd:(rw' M.2.2.1 t).1=false):MV n (zwt M t):=by
 have h5:=h.l5
 have ht':t<M.2.2.1.length:=by omega
 have hz:=(h.sp t ht).1 hd
 have ct:∀ kd a:Int,kd≠0→tl kd a (M.2.2.1.set t (true,[],List.replicate (Int.toNat 16) z4))=tl kd a M.2.2.1:=fun kd a hk=>by
  refine zxb kd a _ _ _ ?_
  rw[hz.2]
  exact zop hk [] _ 0
 have cd:∀ kd a:Int,kd≠0→told kd a (M.2.2.1.set t (true,[],List.replicate (Int.toNat 16) z4))=told kd a M.2.2.1:=fun kd a hk=>by
  rw[← zgb,← zgb,ct kd a hk]
 refine⟨h.p1,h.p2,h.l1,h.l2,by simp[zwt,h5],h.h0,h.h1,fun w hw=>?_,⟨fun i hi=>?_,fun i hi=>?_⟩⟩
 ·show SpV n (rw' (M.2.2.1.set t _) w)
  by_cases e:w=t
  ·subst e
   rw[rw',zaz ht']
   refine⟨fun h=>(by cases h),fun _=>⟨yl8 hn,by simp,fun i hi=>?_⟩⟩
   have:(List.replicate (Int.toNat 16) z4).getD i z4=z4:=by
    rw[List.getD_eq_getElem?_getD,List.getElem?_replicate]
    split <;> rfl
   show SlV [] i ((List.replicate (Int.toNat 16) z4).getD i z4)∧AtOk ((List.replicate (Int.toNat 16) z4).getD i z4)
   rw[this]
   exact⟨⟨fun _=>rfl,fun h=>absurd rfl h⟩,fun h=>absurd rfl h⟩
  ·rw[rw',getD_set_ne ht' e]
   exact h.sp w hw
 ·show M.1.2.getD i 0=_∧_
  simp only[zwt]
  rw[cd 1 i (by decide),ct 1 i (by decide)]
  exact h.cn.1 i hi
 ·show M.2.1.2.getD i 0=_∧_
  simp only[zwt]
  rw[cd 2 i (by decide),ct 2 i (by decide)]
  exact h.cn.2 i hi
theorem MW.fill {M:Me} (h:MW M) (t:Nat):MW (zwt M t):=⟨h.a1,h.a2,h.b1,h.b2,by simp only [zwt,List.length_set]; exact h.s,fun s hs=>by
 rcases List.mem_or_eq_of_mem_set hs with hs|rfl
 ·exact h.r s hs
 ·simp⟩
theorem MW.z:MW Mz:=⟨by decide,by decide,by decide,by decide,by decide,fun s hs=>by cases hs⟩
theorem yl3{x:Int}(h:(Lit.int .u8 x).wf=true):0≤x∧x<256:=by
 simp only[Lit.wf,Bool.and_eq_true,decide_eq_true_eq,IntKind.min,IntKind.max,IntKind.signed,IntKind.bits,Bool.false_eq_true,if_false]at h
 omega
theorem allS{Q:Nat→Prop}{k n:Nat}(h:k<n):(∀ i,k≤i→i<n→Q i)↔Q k∧∀ i,k+1≤i→i<n→Q i :=
 ⟨fun f=>⟨f k (Nat.le_refl k) h,fun i h1 h2=>f i (by omega) h2⟩,fun f i h1 h2=>by
  rcases Nat.eq_or_lt_of_le h1 with rfl|h3
  ·exact f.1
  ·exact f.2 i h3 h2⟩
def PgK(P:Pg)(i:Nat):Prop:=(0≤P.2.getD i 0∧P.2.getD i 0≤99)∧(P.2.getD i 0=0→(P.1.getD i ByteArray.empty).size=0)∧(P.2.getD i 0≠0→(P.1.getD i ByteArray.empty).size=4)
theorem zf8(n:Nat)(t:List ByteArray)(l:List Int)(htl:t.length=l.length)(hs:l.length≤1000):∀ (d k m:Nat),k+d=l.length→d<m→∃ b,zb2 n m (k:Int) t l=some ((b,()),())∧(b=true↔∀ i,k≤i→i<l.length→PgK (t,l) i)
 |_,k,0,_,h=>by omega
 |0,k,m+1,hk,h=>by
  obtain rfl:k=l.length:=by omega
  have e:decide (((l.length:Nat):Int)<((t.length:Nat):Int))=false:=by rw[htl];exact lt_f _
  show ∃ b,zbp n _ _ _ _=_∧_
  simp only[zbp,e,cond_false]
  exact⟨true,rfl,fun _ i h1 h2=>by omega,fun _=>rfl⟩
 |d+1,k,m+1,hk,h=>by
  have hlt:k<l.length:=by omega
  have hlt':k<t.length:=by omega
  obtain⟨b,e,f⟩:=zf8 n t l htl hs d (k+1) m (by omega) (by omega)
  show ∃ b,zbp n _ _ _ _=_∧_
  simp only[zbp,lt_t hlt,lt_t hlt',ge_t,cond_true,zaa,zbn,Option.bind_some,wS (show k≤1000000 by omega),e]
  rw[allS hlt,← f]
  have no:¬ PgK (t,l) k→∃ b',(some (((false:Bool),()),()):Option R117)=some ((b',()),())∧(b'=true↔PgK (t,l) k∧b=true):=fun hq=>⟨false,rfl,fun h=>(by cases h),fun h=>absurd h.1 hq⟩
  have yes:PgK (t,l) k→∃ b',(some ((b,()),()):Option R117)=some ((b',()),())∧(b'=true↔PgK (t,l) k∧b=true):=fun hq=>⟨b,rfl,fun h=>⟨hq,h⟩,fun h=>h.2⟩
  by_cases h0:l.getD k 0=0
  ·have e1:(decide ((0:Int)≤0)&&decide ((0:Int)≤99))=true:=rfl
   simp only[h0,decide_true,cond_true,e1,Bool.not_true,cond_false]
   by_cases h1:((ByteArray.size (t.getD k ByteArray.empty):Nat):Int)=0
   ·simp only[h1,decide_true,Bool.not_true,cond_false]
    refine yes ⟨(show 0≤l.getD k 0∧l.getD k 0≤99 by omega),fun _=>(show (t.getD k ByteArray.empty).size=0 by omega),fun h=>absurd h0 h⟩
   ·simp only[h1,decide_false,Bool.not_false,cond_true]
    refine no fun h=>h1 ?_
    have:(t.getD k ByteArray.empty).size=0:=h.2.1 h0
    omega
  ·simp only[h0,decide_false,cond_false]
   rw[zbn]
   simp only[Option.bind_some]
   by_cases h2:0≤l.getD k 0∧l.getD k 0≤99
   ·simp only[h2.1,h2.2,decide_true,Bool.and_self,Bool.not_true,cond_false]
    by_cases h1:((ByteArray.size (t.getD k ByteArray.empty):Nat):Int)=4
    ·simp only[h1,decide_true,Bool.not_true,cond_false]
     refine yes ⟨h2,fun h=>absurd h h0,fun _=>(show (t.getD k ByteArray.empty).size=4 by omega)⟩
    ·simp only[h1,decide_false,Bool.not_false,cond_true]
     refine no fun h=>h1 ?_
     have:(t.getD k ByteArray.empty).size=4:=h.2.2 h0
     omega
   ·have e2:(decide ((0:Int)≤l.getD k 0)&&decide (l.getD k 0≤99))=false:=by
     rw[← Bool.decide_and];exact decide_eq_false h2
    simp only[e2,Bool.not_false,cond_true]
    exact no fun h=>h2 h.1
theorem yjo(n:Nat)(hn:2000≤n)(P:Pg):pgB n P=true↔(P.1.length=P.2.length∧1≤P.1.length∧P.1.length≤12)∧∀ i,i<P.2.length→PgK P i:=by
 obtain⟨e,f⟩:=zfz n hn P
 constructor
 ·intro h
  obtain⟨h1,h2,_⟩:=f h
  rw[h]at e
  have e:za_ n (zb2 n n) P=some ((true,()),()):=e
  obtain⟨b,e2,f2⟩:=zf8 n P.1 P.2 h1 (by omega) P.2.length 0 n (by omega) (by omega)
  unfold za_ at e
  rw[zbn,decide_eq_true (show ((P.1.length:Nat):Int)=((P.2.length:Nat):Int) by omega)]at e
  simp only[Option.bind_some,Bool.not_true,cond_false]at e
  by_cases h3:1≤P.1.length
  ·rw[decide_eq_true (show (1:Int)≤((P.1.length:Nat):Int) by omega),decide_eq_true (show ((P.1.length:Nat):Int)≤12 by omega)]at e
   simp only[Bool.and_self,Bool.not_true,cond_false]at e
   have e2':zb2 n n (0:Int) P.1 P.2=_:=e2
   rw[e2']at e
   injection e with e
   injection e with e _
   injection e with e _
   exact⟨⟨h1,h3,h2⟩,fun i hi=>f2.1 e i (Nat.zero_le i) hi⟩
  ·rw[decide_eq_false (show ¬ (1:Int)≤((P.1.length:Nat):Int) by omega)]at e
   simp at e
 ·rintro ⟨⟨h1,h3,h2⟩,h4⟩
  obtain⟨b,e2,f2⟩:=zf8 n P.1 P.2 h1 (by omega) P.2.length 0 n (by omega) (by omega)
  have hb:=f2.2 fun i _ hi=>h4 i hi
  subst hb
  have e3:za_ n (zb2 n n) P=some ((pgB n P,()),()):=e
  have e2':zb2 n n (0:Int) P.1 P.2=_:=e2
  unfold za_ at e3
  rw[zbn,decide_eq_true (show ((P.1.length:Nat):Int)=((P.2.length:Nat):Int) by omega),decide_eq_true (show (1:Int)≤((P.1.length:Nat):Int) by omega),decide_eq_true (show ((P.1.length:Nat):Int)≤12 by omega)]at e3
  simp only[Option.bind_some,Bool.not_true,cond_false,Bool.and_self,e2']at e3
  injection e3 with e3
  injection e3 with e3 _
  injection e3 with e3 _
  exact e3.symm
theorem zpr(P:Pg)(k:Nat):(giv P k).1.length=P.1.length∧(giv P k).2.length=P.2.length:=by
 unfold giv
 constructor
 ·simp only
  split <;> simp
 ·simp
theorem pgB.giv1{n:Nat}(hn:2000≤n){P:Pg}(h:pgB n P=true){k:Nat}(hk:k<P.2.length)(hr:1≤P.2.getD k 0):pgB n (giv P k)=true:=by
 rw[yjo n hn]at h ⊢
 obtain⟨h1,h2⟩:=h
 have g:=zpr P k
 refine⟨by rw[g.1,g.2];exact h1,fun i hi=>?_⟩
 rw[g.2]at hi
 have hq:=h2 i hi
 have hk2:k<P.1.length:=by omega
 unfold PgK at hq ⊢
 unfold giv
 simp only
 rw[zay _ _ _ _ _ hk]
 by_cases e:i=k
 ·subst e
  rw[if_pos rfl]
  refine⟨by omega,fun h0=>?_,fun h0=>?_⟩
  ·rw[if_pos h0,zay _ _ _ _ _ hk2,if_pos rfl];rfl
  ·rw[if_neg h0];exact hq.2.2 (by omega)
 ·rw[if_neg e]
  have e2:(if P.2.getD k 0 - 1=0 then P.1.set k (ByteArray.mk #[]) else P.1).getD i ByteArray.empty=P.1.getD i ByteArray.empty:=by
   split
   ·rw[zay _ _ _ _ _ hk2,if_neg e]
   ·rfl
  rw[e2]
  exact hq
theorem zsh{kd a:Int}(hk:kd≠0)(ar:List Ar):∀ (l:List Ar) (q p:Nat),List.Sublist (tlR kd a ar q (l.set p z4)) (tlR kd a ar q l)
 | [],q,p=>by simp
 |x::l,q,0=>by
  have:isT kd a z4=false:=by simp[isT,Ne.symm hk]
  rw[List.set_cons_zero,tlR,this,cond_false,tlR]
  cases isT kd a x with
  |true=>exact List.sublist_cons_self _ _
  |false=>exact List.Sublist.refl _
 |x::l,q,p+1=>by
  have ih:=zsh (a:=a) hk ar l (q+1) p
  rw[List.set_cons_succ,tlR,tlR]
  cases isT kd a x with
  |true=>exact ih.cons_cons _
  |false=>exact ih
theorem zxa{kd a:Int}(s':Sp):∀ (S:List Sp) (w:Nat),List.Sublist (tlR kd a s'.2.1 0 s'.2.2) (tlR kd a (rw' S w).2.1 0 (rw' S w).2.2)→List.Sublist (tl kd a (S.set w s')) (tl kd a S)
 | [],w,_=>by simp[tl]
 |s::S,0,h=>by
  rw[List.set_cons_zero,zch,zch]
  exact h.append (List.Sublist.refl _)
 |s::S,w+1,h=>by
  rw[List.set_cons_succ,zch,zch]
  exact(List.Sublist.refl _).append (zxa s' S w (by simpa [rw'] using h))
theorem zvm{l l':List (Bool×Bool)}(h:List.Sublist l' l)(ha:alnB l=true):alnB l'=true:=by
 unfold alnB at ha ⊢
 simp only[Bool.or_eq_true,decide_eq_true_eq,Bool.not_eq_true',List.any_eq_false]at ha ⊢
 rcases ha with h1|h1|h1
 ·exact .inl (by have:=h.length_le;omega)
 ·exact .inr (.inl fun x hx=>h1 x (h.subset hx))
 ·exact .inr (.inr fun x hx=>h1 x (h.subset hx))
theorem MI.bg{M:Me}(hM:MI M){n:Nat}(hn:2000≤n):BgM n M:=⟨fun s hs=>by have:=(hM.sp.rw s hs).ar;omega⟩
theorem ygy(M:Me)(w p:Nat):(lose M w p).2.2.2=M.2.2.2:=by
 unfold lose
 split
 ·rfl
 ·split <;> rfl
theorem zu3(M:Me)(w p:Nat):(lose M w p).1=if (sl M.2.2.1 w p).1=1 then giv M.1 (sl M.2.2.1 w p).2.1.toNat else M.1:=by
 unfold lose
 split
 ·rfl
 ·split <;> rfl
theorem zu1(M:Me)(w p:Nat):(lose M w p).2.1=if (sl M.2.2.1 w p).1=2 then giv M.2.1 (sl M.2.2.1 w p).2.1.toNat else M.2.1:=by
 unfold lose
 split
 ·rename_i h
  rw[if_neg (by rw[h];decide)]
 ·split <;> rfl
theorem MI.ref1{M:Me}(hI:MI M){w p:Nat}(hw:w<5)(hp:p<(rw' M.2.2.1 w).2.2.length)(h1:(sl M.2.2.1 w p).1=1):(sl M.2.2.1 w p).2.1.toNat<12∧1≤M.1.2.getD (sl M.2.2.1 w p).2.1.toNat 0:=by
 have hw':w<M.2.2.1.length:=by rw[hI.sp.len];exact hw
 have a:=(hI.sp.slI hw hp).2.2 (by rw[h1];decide)
 obtain⟨k,hk⟩:=Int.eq_ofNat_of_zero_le a.1
 have hpos:0<told 1 k M.2.2.1:=zb1 (zai hw') (zai hp) (za0.2 ⟨h1,hk⟩)
 have hc:=hI.ram.c k (by omega)
 rw[hk]
 exact⟨(show k<12 by omega),(show 1≤M.1.2.getD k 0 by omega)⟩
theorem MI.ref2{M:Me}(hI:MI M){w p:Nat}(hw:w<5)(hp:p<(rw' M.2.2.1 w).2.2.length)(h1:(sl M.2.2.1 w p).1=2):(sl M.2.2.1 w p).2.1.toNat<12∧1≤M.2.1.2.getD (sl M.2.2.1 w p).2.1.toNat 0:=by
 have hw':w<M.2.2.1.length:=by rw[hI.sp.len];exact hw
 have a:=(hI.sp.slI hw hp).2.2 (by rw[h1];decide)
 obtain⟨k,hk⟩:=Int.eq_ofNat_of_zero_le a.1
 have hpos:0<told 2 k M.2.2.1:=zb1 (zai hw') (zai hp) (za0.2 ⟨h1,hk⟩)
 have hc:=hI.swp.c k (by omega)
 rw[hk]
 exact⟨(show k<12 by omega),(show 1≤M.2.1.2.getD k 0 by omega)⟩
theorem MV.los{n:Nat}{M:Me}(h:MV n M)(hn:2000≤n)(hI:MI M){w p:Nat}(hw:w<5)(hv:(rw' M.2.2.1 w).1=true)(hp:p<16):MV n (lose M w p)∧MI (lose M w p):=by
 have hw':w<M.2.2.1.length:=by rw[h.l5];exact hw
 have hlen:(rw' M.2.2.1 w).2.2.length=16:=((h.sp w hw).2 hv).2.1
 obtain⟨_,hI',_⟩:=zla n M hI w p hw (by omega)
 have hS:=zu2 M w p
 have g1:=zpr M.1 (sl M.2.2.1 w p).2.1.toNat
 have g2:=zpr M.2.1 (sl M.2.2.1 w p).2.1.toNat
 refine⟨⟨?_,?_,?_,?_,?_,?_,?_,fun v hv5=>?_,⟨fun i hi=>⟨hI'.ram.c i hi,?_⟩,fun i hi=>⟨hI'.swp.c i hi,?_⟩⟩⟩,hI'⟩
 ·rw[zu3]
  split
  ·rename_i h1
   have r:=hI.ref1 hw (by omega) h1
   exact pgB.giv1 hn h.p1 (by rw[h.l1];exact r.1) r.2
  ·exact h.p1
 ·rw[zu1]
  split
  ·rename_i h1
   have r:=hI.ref2 hw (by omega) h1
   exact pgB.giv1 hn h.p2 (by rw[h.l2];exact r.1) r.2
  ·exact h.p2
 ·exact hI'.ram.l2
 ·exact hI'.swp.l2
 ·exact hI'.sp.len
 ·rw[ygy];exact h.h0
 ·rw[ygy];exact h.h1
 ·rw[hS]
  by_cases e:v=w
  ·subst e
   rw[rw',setS,zaz hw']
   obtain⟨a1,a2,a3⟩:=(h.sp v hw).2 hv
   refine⟨fun h=>absurd (hv.symm.trans h) (by decide),fun _=>⟨a1,by simp only[List.length_set];exact a2,fun i hi=>?_⟩⟩
   show SlV (rw' M.2.2.1 v).2.1 i (((rw' M.2.2.1 v).2.2.set p z4).getD i z4)∧AtOk (((rw' M.2.2.1 v).2.2.set p z4).getD i z4)
   rw[zay _ _ _ _ _ (by omega)]
   split
   ·exact⟨⟨fun _=>rfl,fun h=>absurd rfl h⟩,fun h=>absurd rfl h⟩
   ·exact a3 i hi
  ·rw[rw',setS,getD_set_ne hw' e]
   exact h.sp v hv5
 ·rw[hS]
  exact zvm (zxa _ _ _ (zsh (by decide) _ _ _ _)) (h.cn.1 i hi).2
 ·rw[hS]
  exact zvm (zxa _ _ _ (zsh (by decide) _ _ _ _)) (h.cn.2 i hi).2
theorem zve{P:Pg}{a b:Nat}(ha:a<P.1.length)(ha2:a<P.2.length)(h:(giv P a).2.getD b 0≠0):(giv P a).1.getD b ByteArray.empty=P.1.getD b ByteArray.empty:=by
 unfold giv at h ⊢
 simp only at h ⊢
 split
 ·rename_i h0
  by_cases e:b=a
  ·subst e
   rw[zaz ha2]at h
   exact absurd h0 h
  ·exact getD_set_ne ha e
 ·rfl
theorem zyq{M:Me}{w p v:Nat}(hw:w<M.2.2.1.length)(hv:v≠w):rw' (lose M w p).2.2.1 v=rw' M.2.2.1 v:=by
 rw[zu2,rw',setS,getD_set_ne hw hv]
def Txt(M M':Me)(w:Nat):Prop:=∀ v j,v≠w→v<5→j<(rw' M.2.2.1 v).2.2.length→((sl M.2.2.1 v j).1=1→M'.1.1.getD (sl M.2.2.1 v j).2.1.toNat ByteArray.empty=M.1.1.getD (sl M.2.2.1 v j).2.1.toNat ByteArray.empty)∧((sl M.2.2.1 v j).1=2→M'.2.1.1.getD (sl M.2.2.1 v j).2.1.toNat ByteArray.empty=M.2.1.1.getD (sl M.2.2.1 v j).2.1.toNat ByteArray.empty)
theorem zyp{M:Me}(hI:MI M){w p:Nat}(hw:w<5)(hp:p<(rw' M.2.2.1 w).2.2.length)(hI':MI (lose M w p)):Txt M (lose M w p) w:=fun v j hv hv5 hj=>by
 have hw':w<M.2.2.1.length:=by rw[hI.sp.len];exact hw
 have e:=zyq (p:=p) hw' hv
 have es:sl (lose M w p).2.2.1 v j=sl M.2.2.1 v j:=by
  show (rw' (lose M w p).2.2.1 v).2.2.getD j (0,0,false,false)=_
  rw[e]
 constructor
 ·intro h1
  rw[zu3]
  split
  ·rename_i hx
   have r:=hI.ref1 hw hp hx
   have r2:=hI'.ref1 hv5 (by rw[e];exact hj) (by rw[es];exact h1)
   rw[es,zu3,if_pos hx]at r2
   exact zve (by rw[hI.ram.l1];exact r.1) (by rw[hI.ram.l2];exact r.1) (by omega)
  ·rfl
 ·intro h1
  rw[zu1]
  split
  ·rename_i hx
   have r:=hI.ref2 hw hp hx
   have r2:=hI'.ref2 hv5 (by rw[e];exact hj) (by rw[es];exact h1)
   rw[es,zu1,if_pos hx]at r2
   exact zve (by rw[hI.swp.l1];exact r.1) (by rw[hI.swp.l2];exact r.1) (by omega)
  ·rfl
theorem zsj:∀ (l:List Int) (k:Nat) (y:Int),k<l.length→(l.set k y).sum=l.sum - l.getD k 0+y
 |x::l,0,y,_=>by simp;omega
 |x::l,k+1,y,h=>by
  have:=zsj l k y (by simpa using h)
  simp only[List.set_cons_succ,List.sum_cons,this]
  simp
  omega
def sm(M:Me):Int:=M.1.2.sum+M.2.1.2.sum
def us(x:Ar):Int:=if x.1=0 then 0 else 1
theorem ydo{M:Me}(hI:MI M){w p:Nat}(hw:w<5)(hp:p<(rw' M.2.2.1 w).2.2.length):sm (lose M w p)=sm M - us (sl M.2.2.1 w p):=by
 have hsl:=hI.sp.slI hw hp
 unfold sm us
 rw[zu3,zu1]
 by_cases h1:(sl M.2.2.1 w p).1=1
 ·have r:=hI.ref1 hw hp h1
  rw[if_pos h1,if_neg (by rw[h1];decide),if_neg (by rw[h1];decide)]
  have:=zsj M.1.2 (sl M.2.2.1 w p).2.1.toNat (M.1.2.getD (sl M.2.2.1 w p).2.1.toNat 0 - 1) (by rw[hI.ram.l2];exact r.1)
  show (M.1.2.set _ _).sum+_=_
  rw[this]
  omega
 ·rw[if_neg h1]
  by_cases h2:(sl M.2.2.1 w p).1=2
  ·have r:=hI.ref2 hw hp h2
   rw[if_pos h2,if_neg (by rw[h2];decide)]
   have:=zsj M.2.1.2 (sl M.2.2.1 w p).2.1.toNat (M.2.1.2.getD (sl M.2.2.1 w p).2.1.toNat 0 - 1) (by rw[hI.swp.l2];exact r.1)
   show _+(M.2.1.2.set _ _).sum=_
   rw[this]
   omega
  ·rw[if_neg h2,if_pos (by have:=hsl.1;have:=hsl.2.1;omega)]
   omega
def cu(S:List Sp)(w:Nat):Nat→Nat→Int
 |_,0=>0
 |k,d+1=>us (sl S w k)+cu S w (k+1) d
theorem zvi{S T:List Sp}{w:Nat}:∀ (d k:Nat),(∀ i,k≤i→sl S w i=sl T w i)→cu S w k d=cu T w k d
 |0,_,_=>rfl
 |d+1,k,h=>by
  rw[cu,cu,h k (Nat.le_refl k),zvi d (k+1) fun i hi=>h i (by omega)]
structure Lst(n w:Nat)(M M':Me)(c:Int):Prop where
 v:MV n M'
 i:MI M'
 lv:(rw' M'.2.2.1 w).1=true
 z:∀ j,j<16→sl M'.2.2.1 w j=z4
 o:∀ v,v≠w→rw' M'.2.2.1 v=rw' M.2.2.1 v
 s:sm M'=sm M - c
 t:Txt M M' w
theorem Txt.trans{M M1 M2:Me}{w:Nat}(h:Txt M M1 w)(g:Txt M1 M2 w)(o:∀ v,v≠w→rw' M1.2.2.1 v=rw' M.2.2.1 v):Txt M M2 w:=fun v j hv h5 hj=>by
 have e:sl M1.2.2.1 v j=sl M.2.2.1 v j:=by
  show (rw' M1.2.2.1 v).2.2.getD j (0,0,false,false)=_
  rw[o v hv]
 have h1:=h v j hv h5 hj
 have h2:=g v j hv h5 (by rw[o v hv];exact hj)
 rw[e]at h2
 exact⟨fun a=>(h2.1 a).trans (h1.1 a),fun a=>(h2.2 a).trans (h1.2 a)⟩
theorem zu0{n:Nat}(hn:2000≤n){w:Nat}(hw:w<5):∀ (d k:Nat) (M:Me),k+d=16→MV n M→MI M→(rw' M.2.2.1 w).1=true→(∀ i,i<k→sl M.2.2.1 w i=z4)→Lst n w M (zfw w (rngL k d) M) (cu M.2.2.1 w k d)
 |0,k,M,hk,hV,hI,hv,hz=>⟨hV,hI,hv,fun j hj=>hz j (by omega),fun _ _=>rfl,by show sm M=sm M - 0;omega,fun _ _ _ _ _=>⟨fun _=>rfl,fun _=>rfl⟩⟩
 |d+1,k,M,hk,hV,hI,hv,hz=>by
  have hw':w<M.2.2.1.length:=by rw[hV.l5];exact hw
  have hlen:(rw' M.2.2.1 w).2.2.length=16:=((hV.sp w hw).2 hv).2.1
  obtain⟨hV1,hI1⟩:=hV.los hn hI hw hv (show k<16 by omega)
  have hS:=zu2 M w k
  have hv1:(rw' (lose M w k).2.2.1 w).1=true:=by rw[hS,rw',setS,zaz hw'];exact hv
  have ne:∀ i,i≠k→sl (lose M w k).2.2.1 w i=sl M.2.2.1 w i:=fun i hi=>by rw[hS];exact zqn hw' (by omega) hi
  have ih:=zu0 hn hw d (k+1) (lose M w k) (by omega) hV1 hI1 hv1 fun i hi=>by
   by_cases e:i=k
   ·subst e;rw[hS];exact zkn hw' (by omega)
   ·rw[ne i e];exact hz i (by omega)
  have o1:∀ v,v≠w→rw' (lose M w k).2.2.1 v=rw' M.2.2.1 v:=fun v hv=>zyq hw' hv
  refine⟨ih.v,ih.i,ih.lv,ih.z,fun v hv=>(ih.o v hv).trans (o1 v hv),?_,Txt.trans (zyp hI hw (by omega) hI1) ih.t o1⟩
  have h1:=ih.s
  rw[ydo hI hw (by omega),zvi d (k+1) (T:=M.2.2.1) fun i hi=>ne i (by omega)]at h1
  show sm (zfw w (rngL (k+1) d) (lose M w k))=sm M - (us (sl M.2.2.1 w k)+cu M.2.2.1 w (k+1) d)
  omega
theorem MV.ded{n:Nat}{M:Me}(h:MV n M){w:Nat}(hw:w<5)(hv:(rw' M.2.2.1 w).1=true)(hz:∀ j,j<16→sl M.2.2.1 w j=z4):MV n (zft M w):=by
 have hw':w<M.2.2.1.length:=by rw[h.l5];exact hw
 have hlen:(rw' M.2.2.1 w).2.2.length=16:=((h.sp w hw).2 hv).2.1
 have er:(rw' M.2.2.1 w).2.2=List.replicate 16 z4:=List.eq_replicate_iff.2 ⟨hlen,fun b hb=>by
  obtain⟨i,hi,rfl⟩:=List.getElem_of_mem hb
  have:=hz i (by omega)
  rw[sl,List.getD_eq_getElem?_getD,List.getElem?_eq_getElem hi]at this
  exact this⟩
 have ct:∀ kd a:Int,kd≠0→tl kd a (M.2.2.1.set w (false,[],[]))=tl kd a M.2.2.1:=fun kd a hk=>by
  refine zxb kd a _ _ _ ?_
  rw[er]
  exact(zop hk _ _ 0).symm
 have cd:∀ kd a:Int,kd≠0→told kd a (M.2.2.1.set w (false,[],[]))=told kd a M.2.2.1:=fun kd a hk=>by
  rw[← zgb,← zgb,ct kd a hk]
 refine⟨h.p1,h.p2,h.l1,h.l2,by simp[zft,h.l5],h.h0,h.h1,fun v hv5=>?_,⟨fun i hi=>?_,fun i hi=>?_⟩⟩
 ·show SpV n (rw' (M.2.2.1.set w _) v)
  by_cases e:v=w
  ·subst e
   rw[rw',zaz hw']
   exact⟨fun _=>⟨rfl,rfl⟩,fun h=>by cases h⟩
  ·rw[rw',getD_set_ne hw' e]
   exact h.sp v hv5
 ·show M.1.2.getD i 0=_∧_
  simp only[zft]
  rw[cd 1 i (by decide),ct 1 i (by decide)]
  exact h.cn.1 i hi
 ·show M.2.1.2.getD i 0=_∧_
  simp only[zft]
  rw[cd 2 i (by decide),ct 2 i (by decide)]
  exact h.cn.2 i hi
def pgT(M:Me)(x:Ar):ByteArray:=if x.1=1 then M.1.1.getD x.2.1.toNat ByteArray.empty else if x.1=2 then M.2.1.1.getD x.2.1.toNat ByteArray.empty else List.foldl (fun r n=>r.push (UInt8.ofNat n.toNat)) ByteArray.empty (List.replicate (Int.toNat (4:Int)) (0:Int))
theorem yob(n:Nat)(M:Me)(hI:MI M)(i p:Nat)(hi:i<5)(hp:p<(rw' M.2.2.1 i).2.2.length):q61 n (M,(i:Int),(p:Int),())=some ((pgT M (sl M.2.2.1 i p),()),())∧(pgT M (sl M.2.2.1 i p)).size=4:=by
 have hi':i<M.2.2.1.length:=by rw[hI.sp.len];exact hi
 have l1:=hI.ram.l1
 have l2:=hI.swp.l1
 show zjd n M i p=_∧_
 rw[zjd]
 simp only[ge_t,lt_t hi',lt_t hp,cond_true,zaa]
 by_cases h1:(sl M.2.2.1 i p).1=1
 ·obtain⟨k,hk1,hk2,hk3⟩:=hI.frame hi hp h1
  simp only[h1,decide_true,cond_true,hk1,ge_t,lt_t (show k<M.1.1.length by omega),zaa,pgT,if_true]
  exact⟨trivial,hk3⟩
 ·by_cases h2:(sl M.2.2.1 i p).1=2
  ·obtain⟨k,hk1,hk2,hk3⟩:=hI.sframe hi hp h2
   simp only[h2,show decide ((2:Int)=1)=false from rfl,cond_false,decide_true,cond_true,hk1,ge_t,lt_t (show k<M.2.1.1.length by omega),zaa,pgT,if_true,show ¬((2:Int)=1) from by decide,if_false,decide_false]
   exact⟨trivial,hk3⟩
  ·simp only[h1,h2,decide_false,cond_false,pgT,if_false]
   exact⟨trivial,rfl⟩
theorem yol(M:Me)(x:Ar){j:Nat}(hj:j<4):IntKind.i64.wrap (((pgT M x).data.toList.getD j (0:UInt8)).toNat:Int)=pk M x j:=by
 unfold pgT pk
 split
 ·rfl
 ·split
  ·rfl
  ·have:j=0∨j=1∨j=2∨j=3:=by omega
   rcases this with rfl|rfl|rfl|rfl <;> rfl
def pkQ(M:Me)(i p j:Nat):Int×Bool:=cond ((rw' M.2.2.1 i).1&&decide (0≤at2 (rw' M.2.2.1 i).2.1 p)) (pk M (sl M.2.2.1 i p) j,true) (0,false)
theorem ygt(n:Nat)(hn:2000≤n)(M:Me)(hV:MV n M)(hI:MI M)(i p j:Nat)(hi:i<5)(hp:p<16)(hj:j<4):q16 n (M,(i:Int),((4*p+j:Nat):Int),())=some (((pkQ M i p j).1,((pkQ M i p j).2,())),()):=by
 have hB:BgM n M:=hI.bg hn
 obtain⟨_,e1,f⟩:=zoa n hn M hB
 rw[f.2 hV]at e1
 have hi':i<M.2.2.1.length:=by rw[hV.l5];exact hi
 have e2:=ygs n M i (by rw[hV.l5];decide)
 have hl:liv M i=(rw' M.2.2.1 i).1:=by
  unfold liv
  rw[hV.l5,decide_eq_true (show (0:Int)≤(i:Int) by omega),decide_eq_true (show (i:Int)≤((5:Nat):Int) - 1 by omega)]
  rfl
 have hd:(4*p+j) / 4=p:=by omega
 have hm:(4*p+j) % 4=j:=by omega
 show zjx n M i ((4*p+j:Nat):Int)=_
 rw[zjx,show (((M.1.1,M.1.2),(M.2.1.1,M.2.1.2),M.2.2.1,M.2.2.2):Me)=M from rfl,e1]
 simp only[Option.bind_some,Bool.not_true,cond_false]
 rw[e2,hl]
 simp only[Option.bind_some]
 unfold pkQ
 cases hb:(rw' M.2.2.1 i).1 with
 |false=>rfl
 |true =>
  obtain⟨a1,a2,a3⟩:=(hV.sp i hi).2 hb
  have hr:=(hI.sp.rw _ (zai (d:=(false,[],[])) hi')).ar
  have hr:(rw' M.2.2.1 i).2.1.length≤6:=hr
  have e127:=(zj3 n (rw' M.2.2.1 i).2.1 (by omega) (by omega)).1
  rw[a1]at e127
  have e3:=ygq n hn (rw' M.2.2.1 i).2.1 p (by omega) e127
  obtain⟨e4,e5⟩:=yob n M hI i p hi (by omega)
  simp only[Bool.not_true,cond_false,Bool.true_and]
  rw[zhj,decide_eq_true (show (0:Int)≤((4*p+j:Nat):Int) by omega),decide_eq_true (show ((4*p+j:Nat):Int)≤63 by omega)]
  simp only[Bool.and_self,Option.bind_some,Bool.not_true,cond_false,ge_t,lt_t hi',cond_true,zaa,td4 (show 4*p+j<64 by omega),tm4,hd,hm]
  rw[e3]
  simp only[Option.bind_some]
  by_cases h0:0≤at2 (rw' M.2.2.1 i).2.1 p
  ·rw[decide_eq_false (show ¬ at2 (rw' M.2.2.1 i).2.1 p<0 by omega),decide_eq_true h0,cond_false,cond_true,e4]
   simp only[Option.bind_some,lt_t (show j<(pgT M (sl M.2.2.1 i p)).size by omega),cond_true,yol M _ hj]
  ·rw[decide_eq_true (show at2 (rw' M.2.2.1 i).2.1 p<0 by omega),decide_eq_false h0]
   rfl
theorem zq7(n:Nat)(l:List Int)(hs:l.length≤1000)(hb:∀ x∈l,0≤x∧x≤1000):∀ (rest done:List Int) (m:Nat) (acc:Int),done++rest=l→rest.length<m→0≤acc∧acc≤1000*done.length→zuq n m l acc (done.length:Int)=some ((acc+rest.sum,()),())
 |_,_,0,_,_,h,_=>by omega
 | [],done,m+1,acc,he,h,ha=>by
  rw[List.append_nil]at he
  subst he
  show zh8 n _ done acc (done.length:Int)=_
  simp only[zh8,lt_f,cond_false,List.sum_nil,Int.add_zero]
 |x::rest,done,m+1,acc,he,h,ha=>by
  have hlt:done.length<l.length:=by rw[← he];simp
  have hg:l.getD done.length 0=x:=by rw[← he];simp
  have hx:=hb x (by rw[← he];simp)
  simp only[List.length_cons]at h
  have ih:=zq7 n l hs hb rest (done++[x]) m (acc+x) (by rw[← he];simp) (by omega) (by simp;omega)
  show zh8 n _ l acc (done.length:Int)=_
  simp only[zh8,lt_t hlt,ge_t,cond_true,zaa,hg,wS (show done.length≤1000000 by omega)]
  rw[wr (by omega) (by omega)]
  simp only[List.length_append,List.length_cons,List.length_nil,Nat.zero_add]at ih
  refine ih.trans ?_
  rw[List.sum_cons,Int.add_assoc]
theorem zub(n:Nat)(hn:2000≤n)(l:List Int)(hs:l.length≤1000)(hb:∀ x∈l,0≤x∧x≤1000):q42 n (l,())=some ((l.sum,()),()):=by
 have:=zq7 n l hs hb l [] n 0 rfl (by omega) (by simp)
 rw[Int.zero_add]at this
 exact this
theorem zkl:∀ (l:List Int),(∀ x∈l,0≤x∧x≤1000)→0≤l.sum∧l.sum≤1000*l.length
 | [],_=>by simp
 |x::l,h=>by
  have h1:=h x List.mem_cons_self
  have h2:=zkl l fun y hy=>h y (List.mem_cons_of_mem _ hy)
  simp only[List.sum_cons,List.length_cons]
  omega
theorem MI.refs1{M:Me}(hI:MI M):∀ x∈M.1.2,0≤x∧x≤1000:=fun x hx=>by
 obtain⟨i,hi,rfl⟩:=List.getElem_of_mem hx
 have h1:=hI.ram.l2
 have h2:=hI.ram.c i (by omega)
 have h3:=hI.sp.told 1 i
 rw[List.getD_eq_getElem?_getD,List.getElem?_eq_getElem hi,Option.getD_some]at h2
 omega
theorem MI.refs2{M:Me}(hI:MI M):∀ x∈M.2.1.2,0≤x∧x≤1000:=fun x hx=>by
 obtain⟨i,hi,rfl⟩:=List.getElem_of_mem hx
 have h1:=hI.swp.l2
 have h2:=hI.swp.c i (by omega)
 have h3:=hI.sp.told 2 i
 rw[List.getD_eq_getElem?_getD,List.getElem?_eq_getElem hi,Option.getD_some]at h2
 omega
theorem zn7(n:Nat)(hn:2000≤n)(M D:Me)(hV:MV n M)(hI:MI M)(hV2:MV n D)(hI2:MI D)(w i:Nat)(c:Int)(hi:i<5)(h1:i≠w→∀ p j,p<16→j<4→pkQ M i p j=pkQ D i p j)(h2:i=w→∀ p j,(pkQ D i p j).2=false)
  (g:Int→Int→Int→Int→Int→List ByteArray→List Int→List ByteArray→List Int→List Sp→List ByteArray→List Int→List ByteArray→List Int→List Sp→Option R10) :
  ∀ (d k m:Nat),k+d=64→d<m→zl8 g n m (w:Int) c (i:Int) (k:Int) M.2.2.2 D.2.2.2 M.1.1 M.1.2 M.2.1.1 M.2.1.2 M.2.2.1 D.1.1 D.1.2 D.2.1.1 D.2.1.2 D.2.2.1=g (w:Int) c ((i+1:Nat):Int) M.2.2.2 D.2.2.2 M.1.1 M.1.2 M.2.1.1 M.2.1.2 M.2.2.1 D.1.1 D.1.2 D.2.1.1 D.2.1.2 D.2.2.1
 |_,k,0,_,h=>by omega
 |0,k,m+1,hk,h=>by
  obtain rfl:k=64:=by omega
  show ze6 n _ _ _ _ _ _ _ _ _ _ _ _ _ _ _ _ _ _=_
  have:decide (((64:Nat):Int)<64)=false:=rfl
  simp only[ze6,this,cond_false,wS (show i≤1000000 by omega)]
 |d+1,k,m+1,hk,h=>by
  have ih:=zn7 n hn M D hV hI hV2 hI2 w i c hi h1 h2 g d (k+1) m (by omega) (by omega)
  have hk4:4*(k / 4)+k % 4=k:=by omega
  have e1:=ygt n hn M hV hI i (k / 4) (k % 4) hi (by omega) (by omega)
  have e2:=ygt n hn D hV2 hI2 i (k / 4) (k % 4) hi (by omega) (by omega)
  rw[hk4]at e1 e2
  have hlt:decide ((k:Int)<64)=true:=decide_eq_true (by omega)
  show ze6 n _ _ _ _ _ _ _ _ _ _ _ _ _ _ _ _ _ _=_
  rw[ze6,hlt,cond_true,show (((M.1.1,M.1.2),(M.2.1.1,M.2.1.2),M.2.2.1,M.2.2.2):Me)=M from rfl,e1]
  simp only[Option.bind_some]
  rw[show (((D.1.1,D.1.2),(D.2.1.1,D.2.1.2),D.2.2.1,D.2.2.2):Me)=D from rfl,e2]
  simp only[Option.bind_some,wS (show k≤1000000 by omega),ih]
  by_cases e:i=w
  ·have hq:=h2 e (k / 4) (k % 4)
   have hd:decide ((i:Int)=(w:Int))=true:=decide_eq_true (by omega)
   simp only[hd,Bool.not_true,cond_false,cond_true,hq]
  ·have hq:=h1 e (k / 4) (k % 4) (by omega) (by omega)
   have hd:decide ((i:Int)=(w:Int))=false:=decide_eq_false (by omega)
   have en:∀ b:Bool,(!b == b)=false:=fun b=>by cases b <;> rfl
   simp only[hd,Bool.not_false,cond_true,cond_false,hq,en,decide_true,Bool.not_true]
theorem zn8(n:Nat)(hn:2000≤n)(M D:Me)(hV:MV n M)(hI:MI M)(hV2:MV n D)(hI2:MI D)(w:Nat)(c:Int)(h1:∀ i,i<5→i≠w→∀ p j,p<16→j<4→pkQ M i p j=pkQ D i p j)(h2:∀ p j,(pkQ D w p j).2=false)(hs:sm D=sm M - c) :
  ∀ (d k m:Nat),k+d=5→d<m→zf9 n m (w:Int) c (k:Int) M.2.2.2 D.2.2.2 M.1.1 M.1.2 M.2.1.1 M.2.1.2 M.2.2.1 D.1.1 D.1.2 D.2.1.1 D.2.1.2 D.2.2.1=some ((true,()),())
 |_,k,0,_,h=>by omega
 |0,k,m+1,hk,h=>by
  obtain rfl:k=5:=by omega
  have hB:BgM n D:=hI2.bg hn
  obtain⟨_,e1,f⟩:=zoa n hn D hB
  rw[f.2 hV2]at e1
  have:decide (((5:Nat):Int)<5)=false:=rfl
  have a1:=hI.ram.l2
  have a2:=hI.swp.l2
  have a3:=hI2.ram.l2
  have a4:=hI2.swp.l2
  have r1:=zkl _ hI.refs1
  have r2:=zkl _ hI.refs2
  have r3:=zkl _ hI2.refs1
  have r4:=zkl _ hI2.refs2
  unfold sm at hs
  show ze7 n _ _ _ _ _ _ _ _ _ _ _ _ _ _ _ _=_
  rw[ze7,this,cond_false,show (((D.1.1,D.1.2),(D.2.1.1,D.2.1.2),D.2.2.1,D.2.2.2):Me)=D from rfl,e1]
  simp only[Option.bind_some,cond_true]
  rw[zub n hn _ (by omega) hI2.refs1,zub n hn _ (by omega) hI2.refs2,zub n hn _ (by omega) hI.refs1,zub n hn _ (by omega) hI.refs2]
  simp only[Option.bind_some]
  rw[wr (x:=D.1.2.sum+D.2.1.2.sum) (by omega) (by omega),wr (x:=M.1.2.sum+M.2.1.2.sum) (by omega) (by omega),wr (x:=M.1.2.sum+M.2.1.2.sum - c) (by omega) (by omega),decide_eq_true hs]
 |d+1,k,m+1,hk,h=>by
  have ih:=zn8 n hn M D hV hI hV2 hI2 w c h1 h2 hs d (k+1) m (by omega) (by omega)
  have hlt:decide ((k:Int)<5)=true:=decide_eq_true (by omega)
  show ze7 n (zl8 (zf9 n m) n n) _ _ _ _ _ _ _ _ _ _ _ _ _ _ _=_
  rw[ze7,hlt,cond_true]
  exact(zn7 n hn M D hV hI hV2 hI2 w k c (by omega) (h1 k (by omega)) (fun e=>by subst e;exact h2) (zf9 n m) 64 0 n (by omega) (by omega)).trans ih
theorem ynj(x:Ar):0≤us x∧us x≤1:=by unfold us;split <;> omega
theorem zn9(n:Nat)(M D:Me)(w:Nat)(hw:w<M.2.2.1.length)(hl:(rw' M.2.2.1 w).2.2.length=16):∀ (d k m:Nat) (c:Int),k+d=16→d<m→0≤c∧c≤1000+k →
  zl9 n m (w:Int) c (k:Int) M.2.2.2 D.2.2.2 M.1.1 M.1.2 M.2.1.1 M.2.1.2 M.2.2.1 D.1.1 D.1.2 D.2.1.1 D.2.1.2 D.2.2.1=zf9 n n (w:Int) (c+cu M.2.2.1 w k d) 0 M.2.2.2 D.2.2.2 M.1.1 M.1.2 M.2.1.1 M.2.1.2 M.2.2.1 D.1.1 D.1.2 D.2.1.1 D.2.1.2 D.2.2.1
 |_,k,0,_,_,h,_=>by omega
 |0,k,m+1,c,hk,h,hc=>by
  obtain rfl:k=16:=by omega
  have:decide (((16:Nat):Int) < (((List.getD M.2.2.1 w (false,[],[])).2.2.length:Nat):Int))=false:=decide_eq_false (by
   have:(List.getD M.2.2.1 w (false,[],[])).2.2.length=16:=hl
   omega)
  show ze8 n _ _ _ _ _ _ _ _ _ _ _ _ _ _ _ _ _=_
  simp only[ze8,ge_t,lt_t hw,cond_true,zaa,this,cond_false,cu,Int.add_zero]
 |d+1,k,m+1,c,hk,h,hc=>by
  have hlt:k<(List.getD M.2.2.1 w (false,[],[])).2.2.length:=by
   have:(List.getD M.2.2.1 w (false,[],[])).2.2.length=16:=hl
   omega
  have hu:=ynj (sl M.2.2.1 w k)
  have ih:=zn9 n M D w hw hl d (k+1) m (c+us (sl M.2.2.1 w k)) (by omega) (by omega) (by omega)
  show ze8 n _ _ _ _ _ _ _ _ _ _ _ _ _ _ _ _ _=_
  simp only[ze8,ge_t,lt_t hw,lt_t hlt,cond_true,zaa,wS (show k≤1000000 by omega)]
  rw[cu,← Int.add_assoc,← ih]
  unfold us
  by_cases h0:(sl M.2.2.1 w k).1=0
  ·rw[if_pos h0,Int.add_zero,decide_eq_true h0]
   rfl
  ·rw[if_neg h0,decide_eq_false h0,wr (by omega) (by omega)]
   rfl
theorem yok{M D:Me}{x:Ar}(h1:x.1=1→D.1.1.getD x.2.1.toNat ByteArray.empty=M.1.1.getD x.2.1.toNat ByteArray.empty)(h2:x.1=2→D.2.1.1.getD x.2.1.toNat ByteArray.empty=M.2.1.1.getD x.2.1.toNat ByteArray.empty)(j:Nat):pk M x j=pk D x j:=by
 unfold pk
 split
 ·rename_i h;rw[h1 h]
 ·split
  ·rename_i h;rw[h2 h]
  ·rfl
theorem yov(n:Nat)(hn:2000≤n)(l:List Int)(M:Me)(w:Int)(e1:q41 n (l,())=some ((M,(w,())),()))(hM:MW M):q10 n (l,())=some ((true,()),()):=by
 show zjz n (zl9 n n) l=_
 rw[zjz]
 cases decide ((1048576:Int)<(l.length:Int)) with
 |true=>rfl
 |false =>
  simp only[cond_false]
  rw[e1]
  simp only[Option.bind_some]
  have hB:BgM n M:=hM.bg hn
  rw[show (((M.1.1,M.1.2),(M.2.1.1,M.2.1.2),M.2.2.1,M.2.2.2):Me)=M from rfl,yoh n hn M w hB,yog n hn M w hB]
  simp only[Option.bind_some]
  have en:∀ b:Bool,(!b == b)=false:=fun b=>by cases b <;> rfl
  cases hb:okM n M&&liv M w with
  |false =>
   have hd:drM n M w=(Mz,false):=by unfold drM;rw[hb];rfl
   rw[hd]
   simp only
   rw[show (((Mz.1.1,Mz.1.2),(Mz.2.1.1,Mz.2.1.2),Mz.2.2.1,Mz.2.2.2):Me)=Mz from rfl,zud n hn _ MW.z]
   rfl
  |true =>
   obtain⟨b1,b2⟩:=zb7.1 hb
   obtain⟨k,rfl,hk,hlv⟩:=zs4 b2
   have hV:=(zoa n hn M hB).2.2.1 b1
   have hI:=hV.mi hn hB
   have h5:=hV.l5
   have hlen:(rw' M.2.2.1 k).2.2.length=16:=((hV.sp k (by omega)).2 hlv).2.1
   have hd:drM n M (k:Int)=(zft (zfw k (rngL 0 16) M) k,true):=by unfold drM;rw[hb];rfl
   have L:=zu0 hn (show k<5 by omega) 16 0 M rfl hV hI hlv (fun i hi=>by omega)
   have hV2:=L.v.ded (show k<5 by omega) L.lv L.z
   rw[hd]
   generalize zfw k (rngL 0 16) M=N at *
   have hN5:=L.v.l5
   have hI2:MI (zft N k):=L.i.dead (show k<5 by omega) fun x hx=>by
    have hs16:(rw' N.2.2.1 k).2.2.length=16:=((L.v.sp k (by omega)).2 L.lv).2.1
    obtain⟨i,hi,rfl⟩:=List.getElem_of_mem hx
    have:=L.z i (by omega)
    rw[sl,List.getD_eq_getElem?_getD,List.getElem?_eq_getElem hi,Option.getD_some]at this
    rw[this]
   have ho:∀ v,v≠k→rw' (zft N k).2.2.1 v=rw' M.2.2.1 v:=fun v hv=>by
    show rw' (N.2.2.1.set k _) v=_
    rw[rw',getD_set_ne (by omega) hv]
    exact L.o v hv
   have hw0:rw' (zft N k).2.2.1 k=(false,[],[]):=by
    show rw' (N.2.2.1.set k _) k=_
    rw[rw',zaz (by omega)]
   have hs:sm (zft N k)=sm M - cu M.2.2.1 k 0 16:=L.s
   have hT:Txt M (zft N k) k:=L.t
   generalize zft N k=D at *
   simp only
   rw[show (((D.1.1,D.1.2),(D.2.1.1,D.2.1.2),D.2.2.1,D.2.2.2):Me)=D from rfl,zud n hn D (hV2.mw hn (hI2.bg hn))]
   simp only[Option.bind_some,cond_true,en,cond_false,Bool.not_true]
   refine(zn9 n M D k (by omega) hlen 16 0 n 0 rfl (by omega) (by omega)).trans ?_
   rw[Int.zero_add]
   refine zn8 n hn M D hV hI hV2 hI2 k _ (fun i hi hne p j hp hj=>?_) (fun p j=>?_) hs 5 0 n rfl (by omega)
   ·have es:sl D.2.2.1 i p=sl M.2.2.1 i p:=by
     show (rw' D.2.2.1 i).2.2.getD p (0,0,false,false)=_
     rw[ho i hne]
    unfold pkQ
    rw[ho i hne,es]
    cases hq:(rw' M.2.2.1 i).1 with
    |false=>simp only[Bool.false_and,cond_false]
    |true =>
     have hl2:(rw' M.2.2.1 i).2.2.length=16:=((hV.sp i hi).2 hq).2.1
     have t:=hT i p hne hi (by omega)
     rw[yok t.1 t.2 j]
   ·unfold pkQ
    rw[hw0]
    simp only[Bool.false_and,cond_false]
theorem law10(l:List Int)(hl:∀ x∈l,0≤x∧x<256):q10 2000 (l,())=some ((true,()),()):=by
 obtain⟨M,w,e1,hM⟩:=yof hl
 exact yov 2000 (Nat.le_refl _) l M w e1 hM
theorem pure10(l:List Int)(h:WfT (.row 5 (.int .u8)) l):∃ n o,q10 n (l,())=some ((true,()),o):=⟨2000,(),law10 l fun x hx=>yl3 (h.2 x hx)⟩
end Go.Proofs.Ytdkaagpkeomhmaa.Rx.S
