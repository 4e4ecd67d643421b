/- Plain laws of those functions, no program in sight: the law answers true on all data. No condition. -/
import Derived.Test.YtdkaagpkeomhmaaJP0
set_option linter.unusedVariables false
set_option linter.unusedSimpArgs false
namespace Go.Proofs.Ytdkaagpkeomhmaa.Rx.S
open Go Go.Proofs.Ytdkaagpkeomhmaa.Rx Go.Proofs.Ytdkaagpkeomhmaa.Rx.Pu
set_option maxRecDepth 100000
abbrev Mp:=List ((Int×Int)×Option (List (Bool×Bool)))
def gk(x:(Int×Int)×Option (List (Bool×Bool)))(k a:Int):Bool:=decide (k=x.1.1)&&decide (a=x.1.2)
theorem zeb{x:(Int×Int)×Option (List (Bool×Bool))}{k a:Int}:gk x k a=true↔x.1=(k,a):=by
 obtain⟨⟨p,q⟩,y⟩:=x
 simp only[gk,Bool.and_eq_true,decide_eq_true_eq,Prod.mk.injEq]
 exact⟨fun h=>⟨h.1.symm,h.2.symm⟩,fun h=>⟨h.1.symm,h.2.symm⟩⟩
theorem zfm(x:(Int×Int)×Option (List (Bool×Bool)))(m:Mp)(k a:Int):gfi (x::m) k a=cond (gk x k a) 0 (gfi m k a+1):=by
 unfold gfi gk
 rw[List.findIdx_cons]
theorem zfk(x:(Int×Int)×Option (List (Bool×Bool)))(m:Mp)(k a:Int):gvl (x::m) k a=cond (gk x k a) (x.2.getD []) (gvl m k a):=by
 unfold gvl
 rw[zfm]
 cases gk x k a with
 |true=>obtain⟨p,y⟩:=x;cases y <;> rfl
 |false=>simp
theorem zfl(x:(Int×Int)×Option (List (Bool×Bool)))(m:Mp)(k a:Int):gok (x::m) k a=cond (gk x k a) x.2.isSome (gok m k a):=by
 unfold gok
 rw[zfm]
 cases gk x k a with
 |true=>obtain⟨p,y⟩:=x;cases y <;> rfl
 |false=>simp
def putM(m:Mp)(k a:Int)(xs:List (Bool×Bool)):Mp:=gbk (gou m k a) (gfi m k a:Int) xs
theorem zuk(x:(Int×Int)×Option (List (Bool×Bool)))(m:Mp)(k a:Int):gou (x::m) k a=cond (gk x k a) (((k,a),none)::m) (x::gou m k a):=by
 unfold gou
 rw[zfm]
 cases gk x k a with
 |true=>simp
 |false =>
  simp only[cond_false,List.length_cons,Nat.add_lt_add_iff_right]
  cases decide (gfi m k a<m.length) <;> simp
theorem yc2(x:(Int×Int)×Option (List (Bool×Bool)))(m:Mp)(k a:Int):gol (x::m) k a=cond (gk x k a) (((k,a),none)::m) (x::gol m k a):=by
 unfold gol
 rw[zfm]
 cases gk x k a with
 |true=>simp
 |false =>
  simp only[cond_false,List.length_cons,Nat.add_lt_add_iff_right]
  cases decide (gfi m k a<m.length) <;> simp
theorem ztx(k a:Int)(xs:List (Bool×Bool)):putM [] k a xs=[((k,a),some xs)]:=rfl
theorem zqe(x:(Int×Int)×Option (List (Bool×Bool)))(m:Mp)(k a:Int)(xs:List (Bool×Bool)):putM (x::m) k a xs=cond (gk x k a) (((k,a),some xs)::m) (x::putM m k a xs):=by
 unfold putM gbk
 rw[zuk,zfm]
 cases gk x k a with
 |true=>simp
 |false=>simp
theorem zx6(k a k' a':Int)(xs:List (Bool×Bool)):∀ m:Mp,gvl (putM m k a xs) k' a'=if k'=k∧a'=a then xs else gvl m k' a'
 | []=>by
  rw[ztx,zfk]
  by_cases h:k'=k∧a'=a
  ·rw[if_pos h,h.1,h.2];simp[gk]
  ·rw[if_neg h]
   have:gk ((k,a),some xs) k' a'=false:=by rw[Bool.eq_false_iff];intro hh;have:=zeb.1 hh;simp only[Prod.mk.injEq]at this;exact h ⟨this.1.symm,this.2.symm⟩
   rw[this];rfl
 |x::m=>by
  have ih:=zx6 k a k' a' xs m
  rw[zqe,zfk]
  cases hx:gk x k a with
  |true =>
   have hx':=zeb.1 hx
   simp only[cond_true,zfk]
   by_cases h:k'=k∧a'=a
   ·rw[if_pos h,h.1,h.2];simp[gk]
   ·rw[if_neg h]
    have h1:gk ((k,a),some xs) k' a'=false:=by rw[Bool.eq_false_iff];intro hh;have:=zeb.1 hh;simp only[Prod.mk.injEq]at this;exact h ⟨this.1.symm,this.2.symm⟩
    have h2:gk x k' a'=false:=by rw[Bool.eq_false_iff];intro hh;have:=zeb.1 hh;rw[hx']at this;simp only[Prod.mk.injEq]at this;exact h ⟨this.1.symm,this.2.symm⟩
    rw[h1,h2];rfl
  |false =>
   simp only[cond_false,zfk,ih]
   cases hx2:gk x k' a' with
   |true =>
    have hx2':=zeb.1 hx2
    have:¬ (k'=k∧a'=a):=by rintro ⟨rfl,rfl⟩;rw[hx]at hx2;cases hx2
    simp only[cond_true,if_neg this]
   |false=>rfl
theorem zya(k a k' a':Int)(xs:List (Bool×Bool)):∀ m:Mp,gok (putM m k a xs) k' a'=if k'=k∧a'=a then true else gok m k' a'
 | []=>by
  rw[ztx,zfl]
  by_cases h:k'=k∧a'=a
  ·rw[if_pos h];cases gk ((k,a),some xs) k' a' <;> rfl
  ·rw[if_neg h];cases gk ((k,a),some xs) k' a' <;> rfl
 |x::m=>by
  have ih:=zya k a k' a' xs m
  rw[zqe,zfl]
  cases hx:gk x k a with
  |true =>
   have hx':=zeb.1 hx
   simp only[cond_true,zfl]
   by_cases h:k'=k∧a'=a
   ·rw[if_pos h,h.1,h.2];simp[gk]
   ·rw[if_neg h]
    have h1:gk ((k,a),some xs) k' a'=false:=by rw[Bool.eq_false_iff];intro hh;have:=zeb.1 hh;simp only[Prod.mk.injEq]at this;exact h ⟨this.1.symm,this.2.symm⟩
    have h2:gk x k' a'=false:=by rw[Bool.eq_false_iff];intro hh;have:=zeb.1 hh;rw[hx']at this;simp only[Prod.mk.injEq]at this;exact h ⟨this.1.symm,this.2.symm⟩
    rw[h1,h2];rfl
  |false =>
   simp only[cond_false,zfl,ih]
   cases hx2:gk x k' a' with
   |true =>
    have:¬ (k'=k∧a'=a):=by rintro ⟨rfl,rfl⟩;rw[hx]at hx2;cases hx2
    simp only[cond_true,if_neg this]
   |false=>rfl
theorem zsq(k a k' a':Int)(h:¬ (k'=k∧a'=a)):∀ m:Mp,gvl (gol m k a) k' a'=gvl m k' a'∧gok (gol m k a) k' a'=gok m k' a'
 | []=>⟨rfl,rfl⟩
 |x::m=>by
  have ih:=zsq k a k' a' h m
  rw[yc2]
  cases hx:gk x k a with
  |true =>
   have hx':=zeb.1 hx
   have h1:gk ((k,a),none) k' a'=false:=by rw[Bool.eq_false_iff];intro hh;have:=zeb.1 hh;simp only[Prod.mk.injEq]at this;exact h ⟨this.1.symm,this.2.symm⟩
   have h2:gk x k' a'=false:=by rw[Bool.eq_false_iff];intro hh;have:=zeb.1 hh;rw[hx']at this;simp only[Prod.mk.injEq]at this;exact h ⟨this.1.symm,this.2.symm⟩
   simp only[cond_true,zfk,zfl,h1,h2,cond_false,and_self]
  |false =>
   simp only[cond_false,zfk,zfl,ih.1,ih.2,and_self]
theorem zx_(k a:Int):∀ m:Mp,gfi m k a<(gou m k a).length
 | []=>by simp[gfi,gou]
 |x::m=>by
  have ih:=zx_ k a m
  rw[zuk,zfm]
  cases gk x k a with
  |true=>simp
  |false=>simpa using ih
def Tells(m:Mp)(T:Int→Int→List (Bool×Bool)):Prop:=∀ k a,k≠0→gok m k a=true∧gvl m k a=T k a
theorem Tells.put{m:Mp}{T:Int→Int→List (Bool×Bool)}(h:Tells m T)(k a:Int)(x:Bool×Bool):Tells (putM m k a (gvl m k a++[x])) (fun k' a'=>T k' a'++cond (decide (k=k')&&decide (a=a')) [x] []):=by
 intro k' a' h0
 rw[zx6,zya]
 by_cases hk:k'=k∧a'=a
 ·obtain⟨rfl,rfl⟩:=hk
  simp[(h k' a' h0).2]
 ·rw[if_neg hk,if_neg hk]
  have:(decide (k=k')&&decide (a=a'))=false:=by
   rw[Bool.eq_false_iff];intro hh
   simp only[Bool.and_eq_true,decide_eq_true_eq]at hh
   exact hk ⟨hh.1.symm,hh.2.symm⟩
  show gok m k' a'=true∧gvl m k' a'=T k' a'++cond (decide (k=k')&&decide (a=a')) [x] []
  rw[this]
  simp[h k' a' h0]
theorem Tells.congr{m:Mp}{T T':Int→Int→List (Bool×Bool)}(h:Tells m T)(e:∀ k a,k≠0→T k a=T' k a):Tells m T':=fun k a h0=>by rw[← e k a h0];exact h k a h0
def hasB(l:List Int)(b:Int):Bool:=(decide (0≤b)&&decide (b≤(l.length:Int) - 1))&&decide (0<l.getD b.toNat 0)
theorem yfk(n:Nat)(P:Pg)(hl:P.2.length≤4000000)(b:Int):q64 n (P,b,())=some ((hasB P.2 b,()),()):=by
 show zi2 n P b=_
 unfold zi2 hasB
 rw[wr (by omega) (by omega),zim]
 simp only[Option.bind_some]
 by_cases h1:0≤b
 ·by_cases h2:b≤(P.2.length:Int) - 1
  ·have h3:decide (b<(P.2.length:Int))=true:=decide_eq_true (by omega)
   rw[decide_eq_true h1,decide_eq_true h2,h3]
   simp only[Bool.and_self,cond_true,Bool.true_and]
  ·rw[decide_eq_true h1,decide_eq_false h2]
   rfl
 ·rw[decide_eq_false h1]
  rfl
theorem ymy(n:Nat)(s:Sp)(b:Int)(hq:q60 n (s.2.1,b,())=some ((at2 s.2.1 b,()),())):q65 n (s,b,())=some ((shd s.2.1 b,()),()):=by
 have hr:=zl8 s.2.1 b
 show zi1 n s b=_
 unfold zi1 shd
 rw[hq]
 simp only[Option.bind_some]
 by_cases h1:0≤at2 s.2.1 b
 ·rw[decide_eq_true h1,decide_eq_true hr.2]
  simp only[cond_true,Bool.true_and]
 ·rw[decide_eq_false h1]
  rfl
def CkV(R W:List Int)(ar:List Ar)(k:Nat)(x:Ar):Prop:=(x.1=0→x=z4)∧(x.1≠0→0≤at2 ar k∧(1≤x.1∧x.1≤2)∧(x.1=1→hasB R x.2.1=true)∧(x.1=2→hasB W x.2.1=true)∧(shd ar k=true→x.2.2.1=true))
abbrev GF17:=(List Sp)→Int→Int→(List ByteArray)→(List Int)→(List ByteArray)→(List Int)→(List Sp)→Int→Mp→Option R17
theorem zlc(n:Nat)(g5:GF17)(S0 S1:List Sp)(x1:Int)(w:Nat)(hw:w≤1000)(t1 t2:List ByteArray)(R W:List Int)(hR:R.length≤4000000)(hW:W.length≤4000000)(h:Int)(lv:Bool)(ar l l':List Ar)(hl:l.length≤1000)
    (hq:∀ b,q60 n (ar,b,())=some ((at2 ar b,()),())):∀ (rest done:List Ar) (mf:Nat) (m:Mp) (T:Int→Int→List (Bool×Bool)),done++rest=l→rest.length<mf→Tells m T→(∀ k a,(T k a).length+rest.length≤100000) →
      ((za8 g5 n mf S0 x1 (w:Int) l (l.length:Int) (done.length:Int) t1 R t2 W S1 h m lv ar l'=some ((false,()),())∧¬ ∀ i,done.length≤i→i < l.length→CkV R W ar i (l.getD i z4)) ∨
       (∃ m',za8 g5 n mf S0 x1 (w:Int) l (l.length:Int) (done.length:Int) t1 R t2 W S1 h m lv ar l'=g5 S0 x1 ((w+1:Nat):Int) t1 R t2 W S1 h m'∧(∀ i,done.length≤i→i<l.length→CkV R W ar i (l.getD i z4))∧Tells m' (fun k a=>T k a++tlR k a ar done.length rest)))
  |_,_,0,_,_,_,hf,_,_=>by omega
  | [],done,mf+1,m,T,hd,_,hT,_=>by
    have hd:done=l:=by simpa using hd
    subst hd
    right
    refine⟨m,?_,fun i h1 h2=>by omega,hT.congr fun k a _=>by simp[tlR]⟩
    show za7 n _ _ _ _ _ _ _ _ _ _ _ _ _ _ _ _ _ _=_
    simp only[za7,lt_f,cond_false,wS (show w≤1000000 by omega)]
  |x::rest,done,mf+1,m,T,hd,hf,hT,hb=>by
    have hlt:done.length<l.length:=by rw[← hd];simp
    have hg:l.getD done.length z4=x:=by rw[← hd];exact zbo _ _ _ _
    have ih:=fun m T hT hb=>zlc n g5 S0 S1 x1 w hw t1 t2 R W hR hW h lv ar l l' hl hq rest (done++[x]) mf m T (by simpa using hd) (by simp at hf;omega) hT hb
    simp only[List.length_append,List.length_cons,List.length_nil,Nat.zero_add]at ih hb
    have e1:=zim n x.1 1 2
    have e2:=yfk n (t1,R) hR x.2.1
    have e3:=yfk n (t2,W) hW x.2.1
    have e4:=ymy n (lv,ar,l') done.length (hq _)
    have hx1:x.1≠0→gok m x.1 x.2.1=true:=fun h0=>(hT x.1 x.2.1 h0).1
    have hno:¬ CkV R W ar done.length x→¬ ∀ i,done.length≤i→i<l.length→CkV R W ar i (l.getD i z4):=fun hx hh=>hx (by have:=hh done.length (Nat.le_refl _) hlt;rw[hg]at this;exact this)
    have nxt:∀ m1 T1,Tells m1 T1→(∀ k a,(T1 k a).length+rest.length≤100000)→CkV R W ar done.length x→(∀ k a,k≠0→T1 k a++tlR k a ar (done.length+1) rest=T k a++tlR k a ar done.length (x::rest)) →
        ((za8 g5 n mf S0 x1 (w:Int) l (l.length:Int) ((done.length + 1:Nat):Int) t1 R t2 W S1 h m1 lv ar l'=some ((false,()),())∧¬ ∀ i,done.length≤i→i < l.length→CkV R W ar i (l.getD i z4)) ∨
         (∃ m',za8 g5 n mf S0 x1 (w:Int) l (l.length:Int) ((done.length+1:Nat):Int) t1 R t2 W S1 h m1 lv ar l'=g5 S0 x1 ((w+1:Nat):Int) t1 R t2 W S1 h m'∧(∀ i,done.length≤i→i<l.length→CkV R W ar i (l.getD i z4))∧Tells m' (fun k a=>T k a++tlR k a ar done.length (x::rest)))):=fun m1 T1 hT1 hb1 hck heq=>by
      rcases ih m1 T1 hT1 hb1 with ⟨e,hh⟩|⟨m',e,hh,ht⟩
      · exact .inl ⟨e,fun hq=>hh fun i h1 h2=>hq i (by omega) h2⟩
      · refine .inr ⟨m',e,fun i h1 h2=>?_,ht.congr heq⟩
        by_cases hi:i=done.length
        · subst hi;rw[hg];exact hck
        · exact hh i (by omega) h2
    have ew:=wS (show done.length≤1000000 by omega)
    by_cases h0:x.1=0
    · have hz:=yl8 x h0
      have e0:za8 g5 n (mf+1) S0 x1 (w:Int) l (l.length:Int) (done.length:Int) t1 R t2 W S1 h m lv ar l'=cond (!(decide (x.1=0)&&(decide (x.2.1=0)&&(x.2.2.1 == false&&(x.2.2.2 == false&&true))))) (some ((false,()),())) (za8 g5 n mf S0 x1 (w:Int) l (l.length:Int) ((done.length+1:Nat):Int) t1 R t2 W S1 h m lv ar l'):=by
        show za7 n _ _ _ _ _ _ _ _ _ _ _ _ _ _ _ _ _ _=_
        simp only[za7,lt_t hlt,ge_t,cond_true,zaa,hg,ew]
        rw[show decide (x.1=0)=true from decide_eq_true h0]
        rfl
      rw[e0]
      cases hc:(decide (x.1=0)&&(decide (x.2.1=0)&&(x.2.2.1 == false&&(x.2.2.2 == false&&true)))) with
      |false=>exact .inl ⟨rfl,hno fun hck=>by have:=hz.2 (hck.1 h0);rw[hc]at this;cases this⟩
      |true =>
        refine nxt m T hT (fun k a=>by have:=hb k a;omega) ⟨fun _=>hz.1 hc,fun hh=>absurd h0 hh⟩ fun k a hk=>?_
        have:isT k a x=false:=by rw[Bool.eq_false_iff];exact fun hh=>hk ((za2.1 hh).1.symm.trans h0)
        simp only[tlR,this,cond_false]
    · have hd0:decide (x.1=0)=false:=decide_eq_false h0
      by_cases hat:at2 ar done.length<0
      · left
        refine⟨?_,hno fun hck=>by have:=(hck.2 h0).1;omega⟩
        show za7 n _ _ _ _ _ _ _ _ _ _ _ _ _ _ _ _ _ _=_
        simp only[za7,lt_t hlt,ge_t,cond_true,zaa,hg,ew,hd0,cond_false,hq done.length,Option.bind_some,decide_eq_true hat,Bool.false_and,Bool.not_false]
      · have hat':decide (at2 ar done.length<0)=false:=decide_eq_false hat
        have hlen:decide (((gvl m x.1 x.2.1).length+[(x.2.2.1,shd ar done.length)].length)*(2:Nat)≤(140737488355328:Nat))=true:=by
          have:=hb x.1 x.2.1
          rw[(hT x.1 x.2.1 h0).2]
          exact decide_eq_true (by simp;omega)
        have heqT:∀ k a,k≠0→(T k a++cond (decide (x.1=k)&&decide (x.2.1=a)) [(x.2.2.1,shd ar done.length)] [])++tlR k a ar (done.length+1) rest=T k a++tlR k a ar done.length (x::rest):=fun k a _=>by
          show _=T k a++cond (isT k a x) _ _
          unfold isT
          cases (decide (x.1=k)&&decide (x.2.1=a)) <;> simp
        have fin:=fun hck=>nxt (putM m x.1 x.2.1 (gvl m x.1 x.2.1 ++ [(x.2.2.1,shd ar done.length)])) _ (hT.put x.1 x.2.1 (x.2.2.1,shd ar done.length)) (fun k a=>by
          have:=hb k a
          cases (decide (x.1=k)&&decide (x.2.1=a)) <;> simp <;> omega) hck heqT
        -- behind the checks of the place
        have tail:(1≤x.1∧x.1≤2)→(x.1=1→hasB R x.2.1=true)→(x.1=2→hasB W x.2.1=true) →
            ((cond (shd ar done.length) (cond (!x.2.2.1) (some ((false,()),())) (za8 g5 n mf S0 x1 (w:Int) l (l.length:Int) ((done.length + 1:Nat):Int) t1 R t2 W S1 h (putM m x.1 x.2.1 (gvl m x.1 x.2.1 ++ [(x.2.2.1,shd ar done.length)])) lv ar l')) (za8 g5 n mf S0 x1 (w:Int) l (l.length:Int) ((done.length + 1:Nat):Int) t1 R t2 W S1 h (putM m x.1 x.2.1 (gvl m x.1 x.2.1 ++ [(x.2.2.1,shd ar done.length)])) lv ar l')=some ((false,()),())∧¬ ∀ i,done.length≤i→i < l.length→CkV R W ar i (l.getD i z4)) ∨
             (∃ m',cond (shd ar done.length) (cond (!x.2.2.1) (some ((false,()),())) (za8 g5 n mf S0 x1 (w:Int) l (l.length:Int) ((done.length+1:Nat):Int) t1 R t2 W S1 h (putM m x.1 x.2.1 (gvl m x.1 x.2.1++[(x.2.2.1,shd ar done.length)])) lv ar l')) (za8 g5 n mf S0 x1 (w:Int) l (l.length:Int) ((done.length+1:Nat):Int) t1 R t2 W S1 h (putM m x.1 x.2.1 (gvl m x.1 x.2.1++[(x.2.2.1,shd ar done.length)])) lv ar l')=g5 S0 x1 ((w+1:Nat):Int) t1 R t2 W S1 h m'∧(∀ i,done.length≤i→i<l.length→CkV R W ar i (l.getD i z4))∧Tells m' (fun k a=>T k a++tlR k a ar done.length (x::rest)))):=fun h12 hh1 hh2=>by
          cases hs:shd ar done.length with
          |false =>
            rw[hs]at fin
            exact fin ⟨fun hh=>absurd hh h0,fun _=>⟨by omega,h12,hh1,hh2,fun hh=>by rw[hs]at hh;cases hh⟩⟩
          |true =>
            rw[hs]at fin
            simp only[cond_true]
            cases ho:x.2.2.1 with
            |false=>exact .inl ⟨rfl,hno fun hck=>by have:=(hck.2 h0).2.2.2.2 hs;rw[ho]at this;cases this⟩
            |true =>
              rw[ho]at fin
              exact fin ⟨fun hh=>absurd hh h0,fun _=>⟨by omega,h12,hh1,hh2,fun _=>ho⟩⟩
        have hgo:=hx1 h0
        have hrg:decide (((gfi m x.1 x.2.1:Nat):Int)<(((gou m x.1 x.2.1).length:Nat):Int))=true:=decide_eq_true (Int.ofNat_lt.2 (zx_ x.1 x.2.1 m))
        by_cases k1:x.1=1
        · cases hh1:hasB R x.2.1 with
          |false =>
            left
            refine⟨?_,hno fun hck=>by have:=(hck.2 h0).2.2.1 k1;rw[hh1]at this;cases this⟩
            show za7 n _ _ _ _ _ _ _ _ _ _ _ _ _ _ _ _ _ _=_
            simp only[za7,lt_t hlt,ge_t,cond_true,zaa,hg,ew,hd0,cond_false,hq done.length,Option.bind_some,hat',decide_eq_true k1,e2,hh1,Bool.not_false]
          |true =>
            have e0:za8 g5 n (mf+1) S0 x1 (w:Int) l (l.length:Int) (done.length:Int) t1 R t2 W S1 h m lv ar l'=cond (shd ar done.length) (cond (!x.2.2.1) (some ((false,()),())) (za8 g5 n mf S0 x1 (w:Int) l (l.length:Int) ((done.length+1:Nat):Int) t1 R t2 W S1 h (putM m x.1 x.2.1 (gvl m x.1 x.2.1++[(x.2.2.1,shd ar done.length)])) lv ar l')) (za8 g5 n mf S0 x1 (w:Int) l (l.length:Int) ((done.length+1:Nat):Int) t1 R t2 W S1 h (putM m x.1 x.2.1 (gvl m x.1 x.2.1++[(x.2.2.1,shd ar done.length)])) lv ar l'):=by
              show za7 n _ _ _ _ _ _ _ _ _ _ _ _ _ _ _ _ _ _=_
              simp only[za7,lt_t hlt,ge_t,cond_true,zaa,hg,ew,hd0,cond_false,hq done.length,Option.bind_some,hat',decide_eq_true k1,e2,hh1,Bool.not_true,show decide (x.1=2)=false from decide_eq_false (by omega),e1,show decide (1≤x.1)=true from decide_eq_true (by omega),show decide (x.1≤2)=true from decide_eq_true (by omega),Bool.and_self,e4,hgo,hlen,hrg,Bool.true_and]
              rfl
            rw[e0]
            exact tail ⟨by omega,by omega⟩ (fun _=>hh1) (fun hh=>by omega)
        · have hd1:decide (x.1=1)=false:=decide_eq_false k1
          by_cases k2:x.1=2
          · cases hh2:hasB W x.2.1 with
            |false =>
              left
              refine⟨?_,hno fun hck=>by have:=(hck.2 h0).2.2.2.1 k2;rw[hh2]at this;cases this⟩
              show za7 n _ _ _ _ _ _ _ _ _ _ _ _ _ _ _ _ _ _=_
              simp only[za7,lt_t hlt,ge_t,cond_true,zaa,hg,ew,hd0,cond_false,hq done.length,Option.bind_some,hat',hd1,decide_eq_true k2,e3,hh2,Bool.not_false]
            |true =>
              have e0:za8 g5 n (mf+1) S0 x1 (w:Int) l (l.length:Int) (done.length:Int) t1 R t2 W S1 h m lv ar l'=cond (shd ar done.length) (cond (!x.2.2.1) (some ((false,()),())) (za8 g5 n mf S0 x1 (w:Int) l (l.length:Int) ((done.length+1:Nat):Int) t1 R t2 W S1 h (putM m x.1 x.2.1 (gvl m x.1 x.2.1++[(x.2.2.1,shd ar done.length)])) lv ar l')) (za8 g5 n mf S0 x1 (w:Int) l (l.length:Int) ((done.length+1:Nat):Int) t1 R t2 W S1 h (putM m x.1 x.2.1 (gvl m x.1 x.2.1++[(x.2.2.1,shd ar done.length)])) lv ar l'):=by
                show za7 n _ _ _ _ _ _ _ _ _ _ _ _ _ _ _ _ _ _=_
                simp only[za7,lt_t hlt,ge_t,cond_true,zaa,hg,ew,hd0,cond_false,hq done.length,Option.bind_some,hat',hd1,decide_eq_true k2,e3,hh2,Bool.not_true,e1,show decide (1≤x.1)=true from decide_eq_true (by omega),show decide (x.1≤2)=true from decide_eq_true (by omega),Bool.and_self,e4,hgo,hlen,hrg,Bool.true_and]
                rfl
              rw[e0]
              exact tail ⟨by omega,by omega⟩ (fun hh=>by omega) (fun _=>hh2)
          · left
            have hrng:(decide (1≤x.1)&&decide (x.1≤2))=false:=by
              rw[Bool.eq_false_iff];intro hh
              have:=zb4.1 hh
              have h3:=of_decide_eq_true this.1
              have h4:=of_decide_eq_true this.2
              omega
            refine⟨?_,hno fun hck=>by have:=(hck.2 h0).2.1;omega⟩
            show za7 n _ _ _ _ _ _ _ _ _ _ _ _ _ _ _ _ _ _=_
            simp only[za7,lt_t hlt,ge_t,cond_true,zaa,hg,ew,hd0,cond_false,hq done.length,Option.bind_some,hat',hd1,decide_eq_false k2,e1,hrng,Bool.not_false]
abbrev Lf:=List (Int×List ByteArray×List Int)
abbrev GF29:=Mp→Lf→Lf→Option R17
abbrev GF32:=Int→(List Int)→Int→Int→Mp→Lf→Lf→Option R17
abbrev GF38:=Int→(List Int)→Int→Int→Int→Int→Mp→(List (Bool×Bool))→Lf→Lf→Option R17
abbrev b2:Bool×Bool:=(false,false)
def Pj(l:List (Bool×Bool))(i j:Nat):Prop:=i≠j→(l.getD i b2).1=true→(l.getD i b2).2=true∧(l.getD j b2).2=true
theorem zla(n:Nat)(g29:GF29)(g32:GF32)(g38:GF38)(kd x3 at' x5:Int)(refs:List Int)(m:Mp)(cur left:Lf)(l:List (Bool×Bool))(hl:l.length≤100000)(i:Nat)(hi:i<l.length) :
    ∀ (d k mf:Nat),k+d=l.length→d<mf →
      ((zcs g29 g32 g38 n mf kd (i:Int) refs x3 at' x5 (i:Int) (l.length:Int) (k:Int) m l (l.getD i b2).1 (l.getD i b2).2 cur left=some ((false,()),())∧¬ ∀ j,k≤j→j < l.length→Pj l i j) ∨
       (zcs g29 g32 g38 n mf kd (i:Int) refs x3 at' x5 (i:Int) (l.length:Int) (k:Int) m l (l.getD i b2).1 (l.getD i b2).2 cur left=g38 kd refs x3 at' x5 ((i+1:Nat):Int) m l cur left∧∀ j,k≤j→j<l.length→Pj l i j))
  |_,k,0,_,h=>by omega
  |0,k,mf+1,hk,h=>by
    obtain rfl:k=l.length:=by omega
    right
    refine⟨?_,fun j h1 h2=>by omega⟩
    show zet n _ _ _ _ _ _ _ _ _ _ _ _ _ _ _ _ _=_
    simp only[zet,lt_f,cond_false,wS (show i≤1000000 by omega)]
  |d+1,k,mf+1,hk,h=>by
    have hlt:k<l.length:=by omega
    have ih:=zla n g29 g32 g38 kd x3 at' x5 refs m cur left l hl i hi d (k+1) mf (by omega) (by omega)
    have nxt:Pj l i k→((zcs g29 g32 g38 n mf kd (i:Int) refs x3 at' x5 (i:Int) (l.length:Int) ((k + 1:Nat):Int) m l (l.getD i b2).1 (l.getD i b2).2 cur left=some ((false,()),())∧¬ ∀ j,k≤j→j < l.length→Pj l i j) ∨
       (zcs g29 g32 g38 n mf kd (i:Int) refs x3 at' x5 (i:Int) (l.length:Int) ((k+1:Nat):Int) m l (l.getD i b2).1 (l.getD i b2).2 cur left=g38 kd refs x3 at' x5 ((i+1:Nat):Int) m l cur left∧∀ j,k≤j→j<l.length→Pj l i j)):=fun hx=>by
      rcases ih with ⟨e,hh⟩|⟨e,hh⟩
      · exact .inl ⟨e,fun hq=>hh fun j h1 h2=>hq j (by omega) h2⟩
      · refine .inr ⟨e,fun j h1 h2=>?_⟩
        by_cases hj:j=k
        · subst hj;exact hx
        · exact hh j (by omega) h2
    have e0:zcs g29 g32 g38 n (mf+1) kd (i:Int) refs x3 at' x5 (i:Int) (l.length:Int) (k:Int) m l (l.getD i b2).1 (l.getD i b2).2 cur left=zet n (zcs g29 g32 g38 n mf) g38 kd (i:Int) refs x3 at' x5 (i:Int) (l.length:Int) (k:Int) m l (l.getD i b2).1 (l.getD i b2).2 cur left:=rfl
    rw[e0,zet]
    simp only[lt_t hlt,ge_t,cond_true,zaa,wS (show k≤1000000 by omega)]
    by_cases hik:i=k
    · have:decide ((i:Int)=(k:Int))=true:=decide_eq_true (by omega)
      simp only[this,Bool.not_true,cond_false]
      exact nxt fun h=>absurd hik h
    · have:decide ((i:Int)=(k:Int))=false:=decide_eq_false (by omega)
      simp only[this,Bool.not_false,cond_true]
      cases ho:(l.getD i b2).1 with
      |false=>rw[ho]at nxt;simp only[cond_false];exact nxt fun _ h=>by rw[ho]at h;cases h
      |true =>
        simp only[cond_true]
        cases hs:(l.getD i b2).2 with
        |false =>
          left
          exact⟨rfl,fun hh=>by have:=(hh k (Nat.le_refl _) hlt hik ho).1;rw[hs]at this;cases this⟩
        |true =>
          simp only[cond_true]
          rw[ho,hs]at nxt
          cases hy:(l.getD k b2).2 with
          |false =>
            left
            simp only[Bool.not_false,cond_true]
            exact⟨trivial,fun hh=>by have:=(hh k (Nat.le_refl _) hlt hik ho).2;rw[hy]at this;cases this⟩
          |true =>
            simp only[Bool.not_true,cond_false]
            exact nxt fun _ _=>⟨hs,hy⟩
theorem zlb(n:Nat)(g29:GF29)(g32:GF32)(kd x2 x4:Int)(at':Nat)(hat:at'≤1000000)(refs:List Int)(m:Mp)(cur left:Lf)(l:List (Bool×Bool))(hl:l.length≤100000)(hn:l.length<n)(hx4:x4=(l.length:Int)) :
    ∀ (d k mf:Nat),k+d=l.length→d<mf →
      ((zct g29 g32 n mf kd refs x2 (at':Int) x4 (k:Int) m l cur left=some ((false,()),())∧¬ ∀ i,k≤i→i < l.length→∀ j,j < l.length→Pj l i j) ∨
       (zct g29 g32 n mf kd refs x2 (at':Int) x4 (k:Int) m l cur left=g32 kd refs x2 ((at'+1:Nat):Int) m cur left∧∀ i,k≤i→i<l.length→∀ j,j<l.length→Pj l i j))
  |_,k,0,_,h=>by omega
  |0,k,mf+1,hk,h=>by
    obtain rfl:k=l.length:=by omega
    right
    refine⟨?_,fun j h1 h2=>by omega⟩
    show zeu n _ _ _ _ _ _ _ _ _ _ _ _=_
    simp only[zeu,hx4,lt_f,cond_false,wS hat]
  |d+1,k,mf+1,hk,h=>by
    have hlt:k<l.length:=by omega
    have ih:=zlb n g29 g32 kd x2 x4 at' hat refs m cur left l hl hn hx4 d (k+1) mf (by omega) (by omega)
    have e0:zct g29 g32 n (mf+1) kd refs x2 (at':Int) x4 (k:Int) m l cur left=zeu n (zcs g29 g32 (zct g29 g32 n mf) n n) g32 kd refs x2 (at':Int) x4 (k:Int) m l cur left:=rfl
    rw[e0,zeu]
    have hd:decide ((k:Int)<x4)=true:=by rw[hx4];exact lt_t hlt
    simp only[hd,lt_t hlt,ge_t,cond_true,zaa]
    rcases zla n g29 g32 (zct g29 g32 n mf) kd x2 (at':Int) x4 refs m cur left l hl k hlt l.length 0 n (by omega) hn with ⟨e,hh⟩|⟨e,hh⟩
    · exact .inl ⟨e,fun hq=>hh fun j _ h2=>hq k (Nat.le_refl _) hlt j h2⟩
    · have e:=show zcs g29 g32 (zct g29 g32 n mf) n n kd (k:Int) refs x2 (at':Int) x4 (k:Int) (l.length:Int) 0 m l (l.getD k b2).1 (l.getD k b2).2 cur left=_ from e
      rw[e]
      rcases ih with ⟨e2,hq⟩|⟨e2,hq⟩
      · exact .inl ⟨e2,fun hr=>hq fun i h1 h2=>hr i (by omega) h2⟩
      · refine .inr ⟨e2,fun i h1 h2 j h3=>?_⟩
        by_cases hi:i=k
        · subst hi;exact hh j (Nat.zero_le _) h3
        · exact hq i (by omega) h2 j h3
def CCv(T:Int→Int→List (Bool×Bool))(kd:Int)(refs:List Int)(a:Nat):Prop:=((T kd a).length:Int)=refs.getD a 0∧prB (T kd a)
theorem zfw(n:Nat)(g29:GF29)(T:Int→Int→List (Bool×Bool))(kd:Int)(refs:List Int)(cur left:Lf)(hr:refs.length≤100000)(hT:∀ a:Nat,(T kd a).length≤100000∧(T kd a).length<n) :
    ∀ (d k mf:Nat) (m:Mp),k+d=refs.length→d<mf→(∀ a:Nat,k≤a→a<refs.length→gok m kd a=true∧gvl m kd a=T kd a) →
      ((zds g29 n mf kd refs (refs.length:Int) (k:Int) m cur left=some ((false,()),())∧¬ ∀ a,k≤a→a < refs.length→CCv T kd refs a) ∨
       (∃ m',zds g29 n mf kd refs (refs.length:Int) (k:Int) m cur left=g29 m' cur left∧(∀ a,k≤a→a<refs.length→CCv T kd refs a)∧∀ k' a',k'≠kd→gvl m' k' a'=gvl m k' a'∧gok m' k' a'=gok m k' a'))
  |_,k,0,m,_,h,_=>by omega
  |0,k,mf+1,m,hk,h,_=>by
    obtain rfl:k=refs.length:=by omega
    right
    refine⟨m,?_,(fun a h1 h2=>by omega),fun _ _ _=>⟨rfl,rfl⟩⟩
    show zev n _ _ _ _ _ _ _ _ _=_
    simp only[zev,lt_f,cond_false]
  |d+1,k,mf+1,m,hk,h,hm=>by
    have hlt:k<refs.length:=by omega
    obtain⟨hgo,hgv⟩:=hm k (Nat.le_refl _) hlt
    have hTk:=hT k
    have ih:=zfw n g29 T kd refs cur left hr hT d (k + 1) mf (gol m kd k) (by omega) (by omega) (fun a h1 h2=>by
      obtain⟨e1,e2⟩:=zsq kd k kd a (fun hh=>by have:=hh.2;omega) m
      rw[e1,e2]
      exact hm a (by omega) h2)
    have e0:zds g29 n (mf+1) kd refs (refs.length:Int) (k:Int) m cur left=zev n (zct g29 (zds g29 n mf) n n) g29 kd refs (refs.length:Int) (k:Int) m cur left:=rfl
    rw[e0,zev]
    simp only[lt_t hlt,ge_t,cond_true,zaa,hgo,hgv]
    by_cases hc:((T kd k).length:Int)=refs.getD k 0
    · simp only[decide_eq_true hc,Bool.not_true,cond_false]
      rcases zlb n g29 (zds g29 n mf) kd (refs.length:Int) ((T kd k).length:Int) k (by omega) refs (gol m kd k) cur left (T kd k) hTk.1 hTk.2 rfl (T kd k).length 0 n (by omega) hTk.2 with ⟨e,hh⟩|⟨e,hh⟩
      · refine .inl ⟨e,fun hq=>hh fun i _ hi j hj hne ho=>?_⟩
        exact(hq k (Nat.le_refl _) hlt).2 i j hi hj hne ho
      · have e:=show zct g29 (zds g29 n mf) n n kd refs (refs.length:Int) (k:Int) ((T kd k).length:Int) 0 (gol m kd k) (T kd k) cur left=_ from e
        rw[e]
        have hcc:CCv T kd refs k:=⟨hc,fun i j hi hj hne ho=>hh i (Nat.zero_le _) hi j hj hne ho⟩
        rcases ih with ⟨e2,hq⟩|⟨m',e2,hq,hp⟩
        · exact .inl ⟨e2,fun hr=>hq fun a h1 h2=>hr a (by omega) h2⟩
        · refine .inr ⟨m',e2,fun a h1 h2=>?_,fun k' a' hne=>?_⟩
          · by_cases ha:a=k
            · subst ha;exact hcc
            · exact hq a (by omega) h2
          · obtain⟨e3,e4⟩:=hp k' a' hne
            obtain⟨e5,e6⟩:=zsq kd k k' a' (fun hh=>hne hh.1) m
            exact⟨e3.trans e5,e4.trans e6⟩
    · simp only[decide_eq_false hc,Bool.not_false,cond_true]
      exact .inl ⟨trivial,fun hq=>hc (hq k (Nat.le_refl _) hlt).1⟩
theorem zuo{left:Lf}(hnd:(left.map (·.1)).Nodup){i:Nat}(hi:i<left.length){x:Int×List ByteArray×List Int}(hx:x∈left.eraseIdx i):x.1≠(left.getD i (0,[],[])).1:=fun e=>by
 obtain⟨j,hji,hj⟩:=List.mem_eraseIdx_iff_getElem?.1 hx
 obtain⟨hjl,hjx⟩:=(List.getElem?_eq_some_iff.1 hj)
 have ei:left.getD i (0,[],[])=left[i]:=by rw[List.getD_eq_getElem?_getD,List.getElem?_eq_getElem hi];rfl
 have hp:=List.pairwise_iff_getElem.1 hnd
 rw[ei,← hjx]at e
 rcases Nat.lt_or_gt_of_ne hji with hlt|hlt
 ·have:=hp j i (by simpa using hjl) (by simpa using hi) hlt
  simp only[List.getElem_map]at this
  exact this e
 ·have:=hp i j (by simpa using hi) (by simpa using hjl) hlt
  simp only[List.getElem_map]at this
  exact this e.symm
theorem zfx(n:Nat)(T:Int→Int→List (Bool×Bool))(hT:∀ kd (a:Nat),(T kd a).length≤100000∧(T kd a).length<n) :
  ∀ (c mf:Nat) (m:Mp) (cur left:Lf),left.length=c→c<mf→(left.map (·.1)).Nodup→(∀ x∈left,x.2.2.length≤100000∧x.2.2.length<n)→(∀ x∈left,∀ a:Nat,gok m x.1 a=true∧gvl m x.1 a=T x.1 a) →
   ∃ b,zfy n mf m cur left=some ((b,()),())∧(b=true↔∀ x∈left,∀ a,a<x.2.2.length→CCv T x.1 x.2.2 a)
 |_,0,_,_,_,_,h,_,_,_=>by omega
 |0,mf+1,m,cur,left,hc,_,_,_,_=>by
  have:left=[]:=List.length_eq_zero_iff.1 hc
  subst this
  exact⟨true,rfl,iff_of_true rfl fun x hx=>by cases hx⟩
 |c+1,mf+1,m,cur,left,hc,hf,hnd,hlen,hm=>by
  by_cases hall:∀ x∈left,∀ a,a<x.2.2.length→CCv T x.1 x.2.2 a
  ·refine⟨true,?_,iff_of_true rfl hall⟩
   show zew n _ _ _ _=_
   rw[zew,decide_eq_false (show ¬ left.length=0 by omega)]
   simp only[cond_false]
   refine zzw (by omega) fun i hi=>?_
   have hx:left.getD i (0,[],[])∈left:=zai hi
   rcases zfw n (zfy n mf) T (left.getD i (0,[],[])).1 (left.getD i (0,[],[])).2.2 [left.getD i (0,[],[])] (left.eraseIdx i) (hlen _ hx).1 (hT _) (left.getD i (0,[],[])).2.2.length 0 n m (by omega) (hlen _ hx).2 (fun a _ _=>hm _ hx a) with ⟨e,hh⟩|⟨m',e,hh,hp⟩
   ·exact(hh fun a _ h2=>hall _ hx a h2).elim
   ·refine e.trans ?_
    obtain ⟨b,e2,hb⟩:=zfx n T hT c mf m' [left.getD i (0,[],[])] (left.eraseIdx i) (by rw [List.length_eraseIdx_of_lt hi]; omega) (by omega) (hnd.sublist ((List.eraseIdx_sublist _ _).map _)) (fun x hx=>hlen x ((List.eraseIdx_sublist _ _).subset hx)) (fun x hx a=>by
     have hne:=zuo hnd hi hx
     obtain⟨e3,e4⟩:=hp x.1 a hne
     rw[e3,e4]
     exact hm x ((List.eraseIdx_sublist _ _).subset hx) a)
    rw[e2,hb.2 fun x hx=>hall x ((List.eraseIdx_sublist _ _).subset hx)]
  ·refine⟨false,?_,iff_of_false (by simp) hall⟩
   show zew n _ _ _ _=_
   rw[zew,decide_eq_false (show ¬ left.length=0 by omega)]
   simp only[cond_false]
   refine zzw (by omega) fun i hi=>?_
   have hx:left.getD i (0,[],[])∈left:=zai hi
   rcases zfw n (zfy n mf) T (left.getD i (0,[],[])).1 (left.getD i (0,[],[])).2.2 [left.getD i (0,[],[])] (left.eraseIdx i) (hlen _ hx).1 (hT _) (left.getD i (0,[],[])).2.2.length 0 n m (by omega) (hlen _ hx).2 (fun a _ _=>hm _ hx a) with ⟨e,hh⟩|⟨m',e,hh,hp⟩
   ·exact e
   ·refine e.trans ?_
    obtain ⟨b,e2,hb⟩:=zfx n T hT c mf m' [left.getD i (0,[],[])] (left.eraseIdx i) (by rw [List.length_eraseIdx_of_lt hi]; omega) (by omega) (hnd.sublist ((List.eraseIdx_sublist _ _).map _)) (fun x hx=>hlen x ((List.eraseIdx_sublist _ _).subset hx)) (fun x hx a=>by
     have hne:=zuo hnd hi hx
     obtain⟨e3,e4⟩:=hp x.1 a hne
     rw[e3,e4]
     exact hm x ((List.eraseIdx_sublist _ _).subset hx) a)
    rw[e2]
    cases hbb:b with
    |false=>rfl
    |true =>
     refine(hall fun x hxl=>?_).elim
     have:=hb.1 hbb
     obtain⟨j,hjl,rfl⟩:=List.getElem_of_mem hxl
     by_cases hji:j=i
     ·subst hji
      have ei:left.getD j (0,[],[])=left[j]:=by rw[List.getD_eq_getElem?_getD,List.getElem?_eq_getElem hjl];rfl
      rw[ei]at hh
      exact fun a ha=>hh a (Nat.zero_le _) ha
     ·exact this _ (List.mem_eraseIdx_iff_getElem?.2 ⟨j,hji,List.getElem?_eq_getElem hjl⟩)
def RwC(n:Nat)(R W:List Int)(s:Sp):Prop:=(s.1=false→s.2.1=[]∧s.2.2=[])∧(s.1=true→aok n s.2.1=true∧s.2.2.length=16∧∀ i,i<16→CkV R W s.2.1 i (s.2.2.getD i z4))
theorem zpo{S:List Sp}(h:∀ s∈S,s.2.2.length≤16)(kd a:Int):told kd a S≤16*S.length:=by
 induction S with
 |nil=>exact Nat.zero_le _
 |cons s S ih =>
  rw[zbq]
  have h1:=ih (fun t ht=>h t (List.mem_cons_of_mem _ ht))
  have h2:=zrj kd a s.2.2
  have h3:=h s List.mem_cons_self
  simp only[List.length_cons]
  omega
theorem zng(n:Nat)(hn:2000≤n)(S S1:List Sp)(t1 t2:List ByteArray)(R W:List Int)(hR:R.length≤1000)(hW:W.length≤1000)(h:Int)(hS:S.length≤5)(hA:∀ s∈S,s.2.1.length<n∧s.2.1.length≤4000000) :
  ∀ (rest done:List Sp) (mf:Nat) (m:Mp),done++rest=S→rest.length<mf→Tells m (fun k a=>tl k a done)→(∀ s∈done,s.2.2.length≤16) →
   ∃ b,zdx n mf S (S.length:Int) (done.length:Int) t1 R t2 W S1 h m=some ((b,()),())∧(b=true↔(∀ s∈rest,RwC n R W s)∧(∀ a,a<R.length→CCv (fun k a=>tl k a S) 1 R a)∧(∀ a,a<W.length→CCv (fun k a=>tl k a S) 2 W a))
 |_,_,0,_,_,h,_,_=>by omega
 | [],done,mf+1,m,hd,_,hT,hl=>by
  have hd:done=S:=by simpa using hd
  subst hd
  have hb:∀ kd (a:Nat),(tl kd a done).length≤100000∧(tl kd a done).length<n:=fun kd a=>by
   rw[zj3]
   have:=zpo hl kd a
   omega
  obtain ⟨b,e,f⟩:=zfx n (fun k a=>tl k a done) hb 2 n m [] ([((1:Int),t1,R)] ++ [((2:Int),t2,W)]) rfl (by omega) (by simp) (fun x hx=>by
   have hx:x=(1,t1,R)∨x=(2,t2,W):=by simpa using hx
   rcases hx with rfl|rfl
   ·exact⟨show R.length≤100000 by omega,show R.length<n by omega⟩
   ·exact⟨show W.length≤100000 by omega,show W.length<n by omega⟩) (fun x hx a=>by
   have hx:x=(1,t1,R)∨x=(2,t2,W):=by simpa using hx
   rcases hx with rfl|rfl
   ·exact hT 1 a (by decide)
   ·exact hT 2 a (by decide))
  refine⟨b,?_,f.trans ⟨fun hh=>⟨(fun s hs=>by cases hs),fun a ha=>hh (1,t1,R) (by simp) a ha,fun a ha=>hh (2,t2,W) (by simp) a ha⟩,fun hh x hx a ha=>?_⟩⟩
  ·show zh0 n _ _ _ _ _ _ _ _ _ _ _ _ _=_
   rw[zh0,lt_f]
   simp only[cond_false]
   exact e
  ·have hx:x=(1,t1,R)∨x=(2,t2,W):=by simpa using hx
   rcases hx with rfl|rfl
   ·exact hh.2.1 a ha
   ·exact hh.2.2 a ha
 |s::rest,done,mf+1,m,hd,hf,hT,hl=>by
  have hlt:done.length<S.length:=by rw[← hd];simp
  have hg:S.getD done.length (false,[],[])=s:=by rw[← hd];exact zbo _ _ _ _
  have hsm:s∈S:=by rw[← hd];simp
  have ih:=fun m hT hl=>zng n hn S S1 t1 t2 R W hR hW h hS hA rest (done++[s]) mf m (by simpa using hd) (by simp at hf;omega) hT hl
  simp only[List.length_append,List.length_cons,List.length_nil,Nat.zero_add]at ih
  have e0:zdx n (mf+1) S (S.length:Int) (done.length:Int) t1 R t2 W S1 h m=zh0 n (zdx n mf) (za8 (zdx n mf) n n) (zfy n n) S (S.length:Int) (done.length:Int) t1 R t2 W S1 h m:=rfl
  rw[e0,zh0]
  simp only[lt_t hlt,ge_t,cond_true,zaa,hg,wS (show done.length≤1000000 by omega)]
  have nxt:∀ m',RwC n R W s→Tells m' (fun k a=>tl k a (done++[s]))→s.2.2.length≤16→∃ b,zdx n mf S (S.length:Int) ((done.length+1:Nat):Int) t1 R t2 W S1 h m'=some ((b,()),())∧(b=true↔(∀ t∈s::rest,RwC n R W t)∧(∀ a,a<R.length→CCv (fun k a=>tl k a S) 1 R a)∧(∀ a,a<W.length→CCv (fun k a=>tl k a S) 2 W a)):=fun m' hc hT' hl'=>by
   obtain ⟨b,e,f⟩:=ih m' hT' (fun t ht=>by
    rcases List.mem_append.1 ht with ht|ht
    ·exact hl t ht
    ·rw[List.mem_singleton.1 ht];exact hl')
   exact ⟨b,e,f.trans ⟨fun hh=>⟨fun t ht=>by
    rcases List.mem_cons.1 ht with rfl|ht
    ·exact hc
    ·exact hh.1 t ht,hh.2⟩,fun hh=>⟨fun t ht=>hh.1 t (List.mem_cons_of_mem _ ht),hh.2⟩⟩⟩
  have no:¬ RwC n R W s→∃ b,(some ((false,()),()):Option R17)=some ((b,()),())∧(b=true↔(∀ t∈s::rest,RwC n R W t)∧(∀ a,a<R.length→CCv (fun k a=>tl k a S) 1 R a)∧(∀ a,a<W.length→CCv (fun k a=>tl k a S) 2 W a)):=fun hc =>
   ⟨false,rfl,iff_of_false (by simp) fun hh=>hc (hh.1 s List.mem_cons_self)⟩
  cases hb:s.1 with
  |false =>
   simp only[Bool.not_false,cond_true]
   by_cases h1:s.2.1=[]
   ·have hd1:decide ((0:Int)<((List.length s.2.1:Nat):Int))=false:=by rw[h1];rfl
    rw[hd1]
    simp only[cond_false]
    by_cases h2:s.2.2=[]
    ·have hd2:decide ((0:Int)<((List.length s.2.2:Nat):Int))=false:=by rw[h2];rfl
     rw[hd2]
     simp only[cond_false]
     refine nxt m ⟨fun _=>⟨h1,h2⟩,fun h=>by rw[hb]at h;cases h⟩ (hT.congr fun k a _=>?_) (by rw[h2];simp)
     rw[yff,zd0,h2]
     simp[tlR,tl]
    ·have hd2:decide ((0:Int)<((List.length s.2.2:Nat):Int))=true:=decide_eq_true (by have:=List.length_pos_iff.2 h2;omega)
     rw[hd2]
     simp only[cond_true]
     exact no fun hc=>h2 (hc.1 hb).2
   ·have hd1:decide ((0:Int)<((List.length s.2.1:Nat):Int))=true:=decide_eq_true (by have:=List.length_pos_iff.2 h1;omega)
    rw[hd1]
    simp only[cond_true]
    exact no fun hc=>h1 (hc.1 hb).1
  |true =>
   simp only[Bool.not_true,cond_false]
   obtain⟨ha1,ha2⟩:=hA s hsm
   obtain⟨e1,f1⟩:=zok n s.2.1 ha1 ha2
   rw[yfl,e1]
   simp only[Option.bind_some]
   cases hk:aok n s.2.1 with
   |false=>exact no fun hc=>by have:=(hc.2 hb).1;rw[hk]at this;cases this
   |true =>
    simp only[Bool.not_true,cond_false]
    by_cases h16:((List.length s.2.2:Nat):Int)=16
    ·have h16':s.2.2.length=16:=by omega
     rw[decide_eq_true h16]
     simp only[Bool.not_true,cond_false]
     have hq:∀ b,q60 n (s.2.1,b,())=some ((at2 s.2.1 b,()),()):=fun b=>ymz n hn s.2.1 b (by have:=f1 hk;omega) (by rw[e1,hk])
     rcases zlc n (zdx n mf) S S1 (S.length:Int) done.length (by omega) t1 t2 R W (by omega) (by omega) h true s.2.1 s.2.2 s.2.2 (by omega) hq s.2.2 [] n m (fun k a=>tl k a done) rfl (by omega) hT (fun k a=>by
      rw[zj3]
      have:=zpo hl k a
      omega) with ⟨e,hh⟩|⟨m',e,hh,hT'⟩
     ·have e:=show za8 (zdx n mf) n n S (S.length:Int) (done.length:Int) s.2.2 (s.2.2.length:Int) 0 t1 R t2 W S1 h m true s.2.1 s.2.2=_ from e
      rw[e]
      exact no fun hc=>hh fun i _ hi=>(hc.2 hb).2.2 i (by omega)
     ·have e:=show za8 (zdx n mf) n n S (S.length:Int) (done.length:Int) s.2.2 (s.2.2.length:Int) 0 t1 R t2 W S1 h m true s.2.1 s.2.2=_ from e
      rw[e]
      refine nxt m' ⟨(fun h=>by rw[hb]at h;cases h),fun _=>⟨hk,h16',fun i hi=>hh i (Nat.zero_le _) (by omega)⟩⟩ (hT'.congr fun k a _=>?_) (by omega)
      rw[yff,zd0]
      simp[tl]
    ·rw[decide_eq_false h16]
     simp only[Bool.not_false,cond_true]
     exact no fun hc=>h16 (by have:=(hc.2 hb).2.1;omega)
theorem zjv{l:List Int}(hl:l.length=12){b:Int}:hasB l b=true↔(0≤b∧b<12)∧0<l.getD b.toNat 0:=by
 unfold hasB
 rw[hl]
 simp only[Bool.and_eq_true,decide_eq_true_eq]
 constructor
 ·rintro ⟨⟨h1,h2⟩,h3⟩;exact⟨⟨h1,by omega⟩,h3⟩
 ·rintro ⟨⟨h1,h2⟩,h3⟩;exact⟨⟨h1,by omega⟩,h3⟩
theorem kd12{a:Int}(h:1≤a∧a≤2)(k:¬ a=1):a=2:=by omega
theorem yav(n:Nat)(M:Me)(l1:M.1.2.length=12)(l2:M.2.1.2.length=12)(l5:M.2.2.1.length=5) :
  ((∀ s∈M.2.2.1,RwC n M.1.2 M.2.1.2 s)∧(∀ a,a<M.1.2.length→CCv (fun k a=>tl k a M.2.2.1) 1 M.1.2 a)∧(∀ a,a<M.2.1.2.length→CCv (fun k a=>tl k a M.2.2.1) 2 M.2.1.2 a))↔((∀ w,w<5→SpV n (rw' M.2.2.1 w))∧CnV M):=by
 have cc:∀ (kd:Int) (R:List Int),R.length=12→((∀ a,a<R.length→CCv (fun k a=>tl k a M.2.2.1) kd R a)↔∀ i:Nat,i<12→R.getD i 0=(told kd i M.2.2.1:Int)∧alnB (tl kd i M.2.2.1)=true):=fun kd R hR=>by
  rw[hR]
  constructor
  ·intro h i hi
   obtain⟨h1,h2⟩:=h i hi
   exact⟨by rw[← h1];simp only[zj3],(zut _).2 h2⟩
  ·intro h i hi
   obtain⟨h1,h2⟩:=h i hi
   exact⟨by rw[h1];simp only[zj3],(zut _).1 h2⟩
 rw[cc 1 _ l1,cc 2 _ l2]
 have sh:∀ (ar:List Ar) (i:Nat),0≤at2 ar i→shd ar i=(ar.getD (at2 ar i).toNat z4).2.2.2:=fun ar i h=>by unfold shd;rw[decide_eq_true h];rfl
 constructor
 ·rintro ⟨hr,hc1,hc2⟩
  refine⟨fun w hw=>?_,hc1,hc2⟩
  have h:=hr _ (zai (show w<M.2.2.1.length by omega):rw' M.2.2.1 w∈M.2.2.1)
  refine⟨h.1,fun hb=>⟨(h.2 hb).1,(h.2 hb).2.1,fun i hi=>?_⟩⟩
  obtain⟨c1,c2⟩:=(h.2 hb).2.2 i hi
  refine⟨⟨c1,fun h0=>?_⟩,fun h0=>?_⟩
  ·obtain⟨d1,d2,_,_,d5⟩:=c2 h0
   exact⟨d1,d2,fun hs=>d5 ((sh _ _ d1).trans hs)⟩
  ·obtain⟨d1,d2,d3,d4,d5⟩:=c2 h0
   by_cases k1:((rw' M.2.2.1 w).2.2.getD i z4).1=1
   ·exact((zjv l1).1 (d3 k1)).1
   ·exact((zjv l2).1 (d4 (kd12 d2 k1))).1
 ·rintro ⟨hr,hc1,hc2⟩
  refine⟨fun s hs=>?_,hc1,hc2⟩
  obtain⟨w,hw,rfl⟩:=zwt hs
  have h:=hr w (by omega)
  refine⟨h.1,fun hb=>⟨(h.2 hb).1,(h.2 hb).2.1,fun i hi=>?_⟩⟩
  obtain⟨⟨c1,c2⟩,c3⟩:=(h.2 hb).2.2 i hi
  have hx:(rw' M.2.2.1 w).2.2.getD i z4∈(rw' M.2.2.1 w).2.2:=zai (by have:=(h.2 hb).2.1;omega)
  refine⟨c1,fun h0=>?_⟩
  obtain⟨d1,d2,d3⟩:=c2 h0
  obtain⟨a0,a1⟩:=c3 h0
  have pos:∀ (kd:Int) (R:List Int),(∀ i:Nat,i<12→R.getD i 0=(told kd i M.2.2.1:Int)∧alnB (tl kd i M.2.2.1)=true)→((rw' M.2.2.1 w).2.2.getD i z4).1=kd→0<R.getD ((rw' M.2.2.1 w).2.2.getD i z4).2.1.toNat 0:=fun kd R hc hk=>by
   obtain⟨j,hj⟩:=Int.eq_ofNat_of_zero_le a0
   rw[hj,zaa,(hc j (by omega)).1]
   have:=zcy hs hx (za2.2 ⟨hk,hj⟩)
   omega
  refine⟨d1,d2,fun k1=>(zjv l1).2 ⟨⟨a0,a1⟩,pos 1 _ hc1 k1⟩,fun k2=>(zjv l2).2 ⟨⟨a0,a1⟩,pos 2 _ hc2 k2⟩,fun hs=>d3 ((sh _ _ d1).symm.trans hs)⟩
theorem yh9(n:Nat)(hn:2000≤n)(M:Me)(hB:BgM n M):∃ b,q17 n (M,())=some ((b,()),())∧(b=true↔MV n M):=by
 show ∃ b,zjk n _ M=_∧_
 rw[zjk]
 obtain⟨e1,f1⟩:=zh4 n hn M.1
 obtain⟨e2,f2⟩:=zh4 n hn M.2.1
 rw[show ((M.1.1,M.1.2):Pg)=M.1 from rfl,yfm,e1]
 simp only[Option.bind_some]
 cases hc1:pgB n M.1 with
 |false=>exact⟨_,rfl,iff_of_false (by simp) fun hv=>by have:=hv.p1;rw[hc1]at this;cases this⟩
 |true =>
  simp only[Bool.not_true,cond_false]
  by_cases h1:((M.1.2.length:Int)=12)
  ·rw[decide_eq_true h1]
   simp only[Bool.not_true,cond_false]
   rw[show ((M.2.1.1,M.2.1.2):Pg)=M.2.1 from rfl,yfm,e2]
   simp only[Option.bind_some]
   cases hc2:pgB n M.2.1 with
   |false=>exact⟨_,rfl,iff_of_false (by simp) fun hv=>by have:=hv.p2;rw[hc2]at this;cases this⟩
   |true =>
    simp only[Bool.not_true,cond_false]
    by_cases h2:((M.2.1.2.length:Int)=12)
    ·by_cases h3:((M.2.2.1.length:Int)=5)
     ·rw[decide_eq_true h2,decide_eq_true h3]
      simp only[Bool.not_true,cond_false]
      rw[zim]
      simp only[Option.bind_some]
      cases hh:(decide ((0:Int)≤M.2.2.2)&&decide (M.2.2.2≤11)) with
      |false =>
       refine⟨_,rfl,iff_of_false (by simp) fun hv=>?_⟩
       rw[decide_eq_true hv.h0,decide_eq_true hv.h1]at hh
       cases hh
      |true =>
       simp only[Bool.not_true,cond_false]
       obtain⟨b,e,f⟩:=zng n hn M.2.2.1 M.2.2.1 M.1.1 M.2.1.1 M.1.2 M.2.1.2 (by omega) (by omega) M.2.2.2 (by omega) hB.r M.2.2.1 [] n [] rfl (by omega) (fun k a _=>⟨rfl,rfl⟩) (fun s hs=>by cases hs)
       have hh:=zb4.1 hh
       refine⟨b,e,f.trans ((yav n M (by omega) (by omega) (by omega)).trans ⟨fun hq=>⟨hc1,hc2,by omega,by omega,by omega,of_decide_eq_true hh.1,of_decide_eq_true hh.2,hq.1,hq.2⟩,fun hv=>⟨hv.sp,hv.cn⟩⟩)⟩
     ·rw[decide_eq_true h2,decide_eq_false h3]
      simp only[Bool.not_true,Bool.not_false,cond_false,cond_true]
      exact⟨_,rfl,iff_of_false (by simp) fun hv=>h3 (by have:=hv.l5;omega)⟩
    ·rw[decide_eq_false h2]
     simp only[Bool.not_false,cond_true]
     exact⟨_,rfl,iff_of_false (by simp) fun hv=>h2 (by have:=hv.l2;omega)⟩
  ·rw[decide_eq_false h1]
   simp only[Bool.not_false,cond_true]
   exact⟨_,rfl,iff_of_false (by simp) fun hv=>h1 (by have:=hv.l1;omega)⟩
noncomputable def okM(n:Nat)(M:Me):Bool:=match q53 n (M,()) with
 |some ((b,_),_)=>b
 |none=>false
theorem zls(n:Nat)(hn:2000≤n)(M:Me)(hB:BgM n M):q53 n (M,())=some ((okM n M,()),())∧q17 n (M,())=some ((okM n M,()),())∧(okM n M=true↔MV n M):=by
 obtain⟨b,e,f⟩:=yh4 n hn M hB
 obtain⟨c,g,k⟩:=yh9 n hn M hB
 have hb:okM n M=b:=by unfold okM;rw[e]
 have hbc:b=c:=by
  cases b <;> cases c <;> simp_all
 rw[hb]
 exact⟨e,by rw[hbc];exact g,f⟩
theorem MV.mw{n:Nat}{M:Me}(h:MV n M)(hn:2000≤n)(hB:BgM n M):MW M:=by
 have g1:=(zh4 n hn M.1).2 h.p1
 have g2:=(zh4 n hn M.2.1).2 h.p2
 have:=h.l1
 have:=h.l2
 have:=h.l5
 refine⟨by omega,by omega,by omega,by omega,by omega,fun s hs=>?_⟩
 obtain⟨i,hi,rfl⟩:=zwt hs
 have:=(h.sp i (by omega)).small (hB.r _ hs).1 (hB.r _ hs).2
 omega
theorem MV.mi{n:Nat}{M:Me}(h:MV n M)(hn:2000≤n)(hB:BgM n M):MI M:=by
 obtain⟨b,e,f⟩:=zw1 n hn M (h.mw hn hB)
 obtain⟨e2,_,f2⟩:=zls n hn M hB
 rw[f2.2 h]at e2
 rw[e2]at e
 injection e with e
 injection e with e _
 injection e with e _
 exact f e.symm
theorem MW.bg{M:Me}(h:MW M){n:Nat}(hn:2000≤n):BgM n M:=⟨fun s hs=>by have:=h.r s hs;omega⟩
theorem znk(n:Nat)(S:List Sp)(hs:S.length≤1000):∀ (rest done:List Sp) (m:Nat),done++rest=S→rest.length<m→(∀ s∈done,(!s.1)=false)→zou n m S (S.length:Int) (done.length:Int)=some ((frf S,()),())
 | [],done,0,hd,h,_=>by simp at h
 | [],done,m+1,hd,h,hz=>by
  show ze3 n _ _ _ _=_
  have hd':done=S:=by simpa using hd
  subst hd'
  have hf:frf done = -1:=by
   unfold frf
   rw[if_neg]
   intro hh
   have h1:=List.findIdx_getElem (w:=hh)
   have h2:=hz _ (List.getElem_mem hh)
   rw[h1]at h2
   cases h2
  simp only[ze3,lt_f,cond_false,hf]
 |s::rest,done,0,hd,h,_=>by simp at h
 |s::rest,done,m+1,hd,h,hz=>by
  have hl:done.length<S.length:=by rw[← hd];simp
  have hg:S.getD done.length (false,[],[])=s:=by rw[← hd];simp
  show ze3 n _ _ _ _=_
  have e1:q144 n (s,())=some ((!s.1,()),()):=rfl
  simp only[ze3,lt_t hl,ge_t,cond_true,zaa,hg]
  rw[show ((s.1,s.2.1,s.2.2):Sp)=s from rfl,e1]
  simp only[Option.bind_some]
  cases hb:s.1 with
  |false =>
   have hf:S.findIdx (fun s=>!s.1)=done.length:=by
    rw[← hd,List.findIdx_append,List.findIdx_eq_length_of_false (by simpa using hz)]
    simp[List.findIdx_cons,hb]
   simp only[Bool.not_false,cond_true,frf,hf,if_pos hl]
  |true =>
   simp only[Bool.not_true,cond_false]
   have ih:=znk n S hs rest (done ++ [s]) m (by simpa using hd) (by simp at h; omega) (by
    intro y hy
    rcases List.mem_append.1 hy with hy|hy
    ·exact hz y hy
    ·rw[List.mem_singleton.1 hy,hb];rfl)
   simp only[List.length_append,List.length_cons,List.length_nil,Nat.zero_add]at ih
   rw[wS (by omega),ih]
theorem ymv(n:Nat)(M:Me)(hs:M.2.2.1.length≤1000)(hn:M.2.2.1.length<n):q96 n (M,())=some ((frf M.2.2.1,()),()):=by
 show ziy n M=_
 have e:q143 n (M.2.2.1,(),())=some ((frf M.2.2.1,()),()):=znk n M.2.2.1 hs M.2.2.1 [] n rfl hn (fun _ h=>by cases h)
 rw[ziy,e]
 rfl
theorem zw_(n:Nat)(P:Pg)(h1:P.1.length≤1000)(h2:P.2.length≤1000):q112 n (P,())=some ((P,()),()):=by
 show zgi n P=_
 rw[zgi,decide_eq_true (by omega),decide_eq_true (by omega)]
 rfl
theorem ymw(n:Nat)(l:List Ar)(h:l.length≤1000):q87 n (l,())=some ((l,()),()):=by
 show cond (decide ((0+l.length)*(24:Nat)≤(140737488355328:Nat))) _ _=_
 rw[decide_eq_true (by omega)]
 rfl
theorem yid(n:Nat)(l:List Ar)(h:l.length≤1000):q113 n (l,())=some ((l,()),()):=by
 show cond (decide ((0+l.length)*(24:Nat)≤(140737488355328:Nat))) _ _=_
 rw[decide_eq_true (by omega)]
 rfl
theorem zqm(n:Nat)(x3 x4:Int)(x5:List ByteArray)(x6:List Int)(x7:List ByteArray)(x8:List Int)(S:List Sp)(hs:S.length≤1000)(hr:∀ s∈S,s.2.1.length≤1000∧s.2.2.length≤1000):∀ (rest done:List Sp) (m:Nat),done++rest=S→rest.length<m →
  zqn n m S (S.length:Int) (done.length:Int) x3 x4 x5 x6 x7 x8 done=some ((((x5,x6),((x7,x8),(S,x4))),()),())
 | [],done,0,hd,h=>by simp at h
 | [],done,m+1,hd,h=>by
  show zhu n _ _ _ _ _ _ _ _ _ _ _=_
  have hd':done=S:=by simpa using hd
  subst hd'
  simp only[zhu,lt_f,cond_false]
 |s::rest,done,0,hd,h=>by simp at h
 |s::rest,done,m+1,hd,h=>by
  have hl:done.length<S.length:=by rw[← hd];simp
  have hg:S.getD done.length (false,[],[])=s:=by rw[← hd];simp
  have hsm:s∈S:=by rw[← hd];simp
  show zhu n _ _ _ _ _ _ _ _ _ _ _=_
  simp only[zhu,lt_t hl,ge_t,cond_true,zaa,hg]
  rw[ymw n s.2.1 (hr s hsm).1]
  simp only[Option.bind_some]
  rw[yid n s.2.2 (hr s hsm).2]
  simp only[Option.bind_some]
  have ih:=zqm n x3 x4 x5 x6 x7 x8 S hs hr rest (done++[s]) m (by simpa using hd) (by simp at h;omega)
  simp only[List.length_append,List.length_cons,List.length_nil,Nat.zero_add]at ih
  rw[decide_eq_true (by simp;omega)]
  simp only[cond_true]
  rw[wS (by omega)]
  exact ih
theorem yfo(n:Nat)(hn:2000≤n)(M:Me)(hM:MW M):q50 n (M,())=some ((M,()),()):=by
 have h1:=hM.a1
 have h2:=hM.a2
 have h3:=hM.b1
 have h4:=hM.b2
 have h5:=hM.s
 show zja n (zqn n n) M=_
 rw[zja,show ((M.1.1,M.1.2):Pg)=M.1 from rfl,show ((M.2.1.1,M.2.1.2):Pg)=M.2.1 from rfl,zw_ n M.1 (by omega) (by omega),zw_ n M.2.1 (by omega) (by omega)]
 simp only[Option.bind_some]
 exact zqm n 0 M.2.2.2 M.1.1 M.1.2 M.2.1.1 M.2.1.2 M.2.2.1 (by omega) (fun s hs=>by have:=hM.r s hs;omega) M.2.2.1 [] n rfl (by omega)
def Mz:Me:=(([],[]),([],[]),[],0)
def zdb(M:Me)(t:Nat):Me:=(M.1,M.2.1,M.2.2.1.set t (true,[],List.replicate (Int.toNat 16) (0,0,false,false)),M.2.2.2)
noncomputable def mkM(n:Nat)(M:Me):Me×Int×Bool:=cond (okM n M&&decide (0≤frf M.2.2.1)) (zdb M (frf M.2.2.1).toNat,frf M.2.2.1,true) (Mz,-1,false)
theorem zum{S:List Sp}(h:0≤frf S):(frf S).toNat<S.length∧(rw' S (frf S).toNat).1=false:=by
 rcases zl4 S with ⟨h1,h2⟩|⟨t,h1,h2,h3⟩
 ·omega
 ·rw[h1];exact⟨by simpa using h2,by simpa using h3⟩
theorem ym6(n:Nat)(hn:2000≤n)(M:Me)(hB:BgM n M):q28 n (M,())=some (((mkM n M).1,((mkM n M).2.1,((mkM n M).2.2,()))),()):=by
 have e0:q28 n (M,())=zep n M:=rfl
 obtain⟨e1,_,f⟩:=zls n hn M hB
 rw[e0,zep]
 rw[show (((M.1.1,M.1.2),(M.2.1.1,M.2.1.2),M.2.2.1,M.2.2.2):Me)=M from rfl,e1]
 simp only[Option.bind_some]
 unfold mkM
 cases hk:okM n M with
 |false=>rfl
 |true =>
  simp only[Bool.not_true,cond_false,Bool.true_and]
  have hM:=(f.1 hk).mi hn hB
  have h5:=hM.sp.len
  rw[zw0 n hn M (by omega)]
  simp only[Option.bind_some]
  by_cases h:0≤frf M.2.2.1
  ·obtain⟨h1,h2⟩:=zum h
   rw[decide_eq_true h,decide_eq_false (show ¬ frf M.2.2.1<0 by omega)]
   simp only[cond_false,cond_true]
   rw[hM.copy n hn]
   simp only[Option.bind_some]
   rw[decide_eq_true (show frf M.2.2.1<(M.2.2.1.length:Int) by omega)]
   rfl
  ·rw[decide_eq_false h,decide_eq_true (show frf M.2.2.1<0 by omega)]
   rfl
theorem ym5(n:Nat)(hn:2000≤n)(M:Me)(hB:BgM n M):q30 n (M,())=some (((mkM n M).1,((mkM n M).2.1,((mkM n M).2.2,()))),()):=by
 have e0:q30 n (M,())=zjj n M:=rfl
 obtain⟨_,e1,f⟩:=zls n hn M hB
 rw[e0,zjj]
 rw[show (((M.1.1,M.1.2),(M.2.1.1,M.2.1.2),M.2.2.1,M.2.2.2):Me)=M from rfl,e1]
 simp only[Option.bind_some]
 unfold mkM
 cases hk:okM n M with
 |false=>rfl
 |true =>
  simp only[Bool.not_true,cond_false,Bool.true_and]
  have hv:=f.1 hk
  have hM:=hv.mi hn hB
  have h5:=hM.sp.len
  rw[ymv n M (by omega) (by omega)]
  simp only[Option.bind_some]
  by_cases h:0≤frf M.2.2.1
  ·obtain⟨h1,h2⟩:=zum h
   rw[decide_eq_true h,decide_eq_false (show ¬ frf M.2.2.1<0 by omega)]
   simp only[cond_false,cond_true]
   rw[yfo n hn M (hv.mw hn hB)]
   simp only[Option.bind_some]
   rw[decide_eq_true (show frf M.2.2.1<(M.2.2.1.length:Int) by omega)]
   rfl
  ·rw[decide_eq_false h,decide_eq_true (show frf M.2.2.1<0 by omega)]
   rfl
def liv(M:Me)(w:Int):Bool:=(decide (0≤w)&&decide (w≤(M.2.2.1.length:Int) - 1))&&(rw' M.2.2.1 w.toNat).1
theorem yin{M:Me}{w:Int}(h:liv M w=true):∃ k:Nat,w=(k:Int)∧k<M.2.2.1.length∧(rw' M.2.2.1 k).1=true:=by
 unfold liv at h
 simp only[Bool.and_eq_true,decide_eq_true_eq]at h
 obtain⟨⟨h1,h2⟩,h3⟩:=h
 obtain⟨k,rfl⟩:=Int.eq_ofNat_of_zero_le h1
 exact⟨k,rfl,by omega,by simpa using h3⟩
theorem ym1(n:Nat)(M:Me)(w:Int)(hs:M.2.2.1.length≤4000000):q49 n (M,w,())=some ((liv M w,()),()):=by
 show zjb n M w=_
 rw[zjb,wr (by omega) (by omega),zim]
 simp only[Option.bind_some,liv]
 by_cases h1:0≤w
 ·by_cases h2:w≤(M.2.2.1.length:Int) - 1
  ·rw[decide_eq_true h1,decide_eq_true h2,decide_eq_true (show w<(M.2.2.1.length:Int) by omega)]
   rfl
  ·rw[decide_eq_true h1,decide_eq_false h2]
   rfl
 ·rw[decide_eq_false h1]
  rfl
def zns(w:Nat):List Nat→Me→Me
 | [],M=>M
 |k::ks,M=>zns w ks (lose M w k)
def yki(M:Me)(w:Nat):Me:=(M.1,M.2.1,M.2.2.1.set w (false,[],[]),M.2.2.2)
def rngL(k:Nat):Nat→List Nat
 |0=>[]
 |d+1=>k::rngL (k+1) d
theorem yc3(P:Pg)(k:Nat)(h1:k<P.1.length)(h2:k<P.2.length)(hr:0≤P.2.getD k 0∧P.2.getD k 0<1000):zvw P.1 P.2 (k:Int)=some (giv P k):=by
 unfold zvw giv
 rw[ge_t,lt_t h2,lt_t h1,zaa,wr (by omega) (by omega)]
 simp only[cond_true]
 by_cases h:P.2.getD k 0 - 1=0
 ·rw[decide_eq_true h,if_pos h]
  rfl
 ·rw[decide_eq_false h,if_neg h]
  rfl
theorem zkt(n:Nat)(P:Pg)(k:Nat)(h1:k<P.1.length)(h2:k<P.2.length)(hr:0≤P.2.getD k 0∧P.2.getD k 0<1000):zjo n (P,(k:Int),())=some ((),(giv P k,())):=by
 show (zvw P.1 P.2 (k:Int)).map (fun r=>(((),(r,())):zjz))=_
 rw[yc3 P k h1 h2 hr]
 rfl
theorem zqp(n:Nat)(w:Nat)(hw:w<5)(x3:Int):∀ (d k m:Nat) (M:Me),MI M→(rw' M.2.2.1 w).2.2.length=16→k+d=16→d<m→zqq n m (w:Int) 16 (k:Int) x3 M.2.2.2 M.1.1 M.1.2 M.2.1.1 M.2.1.2 M.2.2.1=some ((yki (zns w (rngL k d) M) w,(true,())),())
 |_,k,0,M,_,_,_,h=>by omega
 |0,k,m+1,M,hM,hl,hk,h=>by
  obtain rfl:k=16:=by omega
  have hw':w<M.2.2.1.length:=by rw[hM.sp.len];exact hw
  show zhz n _ _ _ _ _ _ _ _ _ _ _=_
  simp only[zhz,ge_t,lt_t hw',cond_true,zaa]
  rfl
 |d+1,k,m+1,M,hM,hl,hk,h=>by
  have hw':w<M.2.2.1.length:=by rw[hM.sp.len];exact hw
  have hp:k<(rw' M.2.2.1 w).2.2.length:=by omega
  obtain⟨e1,e2,e3⟩:=zr8 n M hM w k hw hp
  have ih:=zqp n w hw x3 d (k+1) m (lose M w k) e2 (by rw[(e3 w).2.2];exact hl) (by omega) (by omega)
  have hsl:=hM.sp.slI hw hp
  have hr1:=hM.ram.l1
  have hr2:=hM.ram.l2
  have hs1:=hM.swp.l1
  have hs2:=hM.swp.l2
  show zhz n _ _ _ _ _ _ _ _ _ _ _=_
  simp only[zhz,show decide ((k:Int)<16)=true from decide_eq_true (by omega),cond_true,ge_t,lt_t hw',zaa,lt_t hp,wS (show k≤1000000 by omega)]
  show _=some ((yki (zns w (rngL (k+1) d) (lose M w k)) w,(true,())),())
  rw[← ih]
  by_cases h1:(sl M.2.2.1 w k).1=1
  ·have hat:=hsl.2.2 (by rw[h1];decide)
   obtain⟨j,hj⟩:=Int.eq_ofNat_of_zero_le hat.1
   have hj2:j<12:=by omega
   have hc:=hM.ram.c j hj2
   have ht:=hM.sp.told 1 j
   have hq:=zkt n M.1 j (by omega) (by omega) (by omega)
   simp only[h1,decide_true,cond_true,hj,lose,if_true,zaa]
   rw[show ((M.1.1,M.1.2):Pg)=M.1 from rfl,hq]
   rfl
  ·by_cases h2:(sl M.2.2.1 w k).1=2
   ·have hat:=hsl.2.2 (by rw[h2];decide)
    obtain⟨j,hj⟩:=Int.eq_ofNat_of_zero_le hat.1
    have hj2:j<12:=by omega
    have hc:=hM.swp.c j hj2
    have ht:=hM.sp.told 2 j
    have hq:=zkt n M.2.1 j (by omega) (by omega) (by omega)
    simp only[h1,h2,decide_true,decide_false,cond_true,cond_false,hj,lose,if_true,if_false,zaa]
    rw[show ((M.2.1.1,M.2.1.2):Pg)=M.2.1 from rfl,hq]
    rfl
   ·simp only[h1,h2,decide_false,cond_false,lose,if_false]
noncomputable def drM(n:Nat)(M:Me)(w:Int):Me×Bool:=cond (okM n M&&liv M w) (yki (zns w.toNat (rngL 0 16) M) w.toNat,true) (Mz,false)
theorem ym3(n:Nat)(hn:2000≤n)(M:Me)(w:Int)(hB:BgM n M):q35 n (M,w,())=some (((drM n M w).1,((drM n M w).2,())),()):=by
 obtain⟨_,e1,f⟩:=zls n hn M hB
 show zjh n (zqq n n) M w=_
 rw[zjh,show (((M.1.1,M.1.2),(M.2.1.1,M.2.1.2),M.2.2.1,M.2.2.2):Me)=M from rfl,e1]
 simp only[Option.bind_some]
 unfold drM
 cases hk:okM n M with
 |false=>rfl
 |true =>
  simp only[Bool.not_true,cond_false,Bool.true_and]
  have hv:=f.1 hk
  have hM:=hv.mi hn hB
  have h5:=hM.sp.len
  rw[ym1 n M w (by omega)]
  simp only[Option.bind_some]
  cases hl:liv M w with
  |false=>rfl
  |true =>
   obtain⟨k,rfl,hk1,hk2⟩:=yin hl
   simp only[Bool.not_true,cond_false,cond_true]
   rw[yfo n hn M (hv.mw hn hB)]
   simp only[Option.bind_some,ge_t,lt_t hk1,cond_true,zaa]
   have hlen:(rw' M.2.2.1 k).2.2.length=16:=(hM.sp.rw _ (zai hk1)).lv hk2
   have e3:=zqp n k (by omega) 0 16 0 n M hM hlen (by omega) (by omega)
   rw[show ((List.length (rw' M.2.2.1 k).2.2:Nat):Int)=16 by rw[hlen];rfl]
   exact e3
structure GI(V:List Bo):Prop where
 dd:∀ i,i<V.length→(rb V i).1=false→rb V i=(false,[],[],[])
 ll:∀ i,i<V.length→(rb V i).1=true→(rb V i).2.2.1.length=16∧(rb V i).2.2.2.length=16
 gg:∀ i i' k k',i<V.length→i'<V.length→k<16→k'<16→(rb V i).1=true→(rb V i').1=true→(rb V i).2.2.1.getD k 0≠0→(rb V i').2.2.1.getD k' 0=(rb V i).2.2.1.getD k 0→(rb V i').2.2.2.getD k' ByteArray.empty=(rb V i).2.2.2.getD k ByteArray.empty∧((rb V i).2.2.2.getD k ByteArray.empty).size=4
theorem Fst.one{S:List Sp}(hS:SpI S){kd a kd' a' g:Int}(h:Fst S kd a g)(h':Fst S kd' a' g):kd=kd'∧a=a':=by
 obtain⟨i,k,h1,h2,h3,h4,_⟩:=h
 obtain⟨i',k',h1',h2',h3',h4',_⟩:=h'
 have hk:=hS.lens i
 have hk':=hS.lens i'
 have e1:i=i':=by omega
 have e2:k=k':=by omega
 subst e1;subst e2
 have:=za2.1 h3
 have:=za2.1 h3'
 omega
theorem VB.nil:VB []:=⟨by simp,fun b hb=>by simp at hb⟩
structure Chk(n:Nat)(V V':List Bo)(w p j:Nat)(g d:Int):Prop where
 st:∀ i k,i<5→k<64→(getB n V' i k).2=(getB n V i k).2
 kp:∀ i k,i<5→k<64→(¬((i=w∧k / 4=p)∨(g≠0∧(rb V i).2.2.1.getD (k / 4) 0=g))∨k % 4≠j∨(getB n V i k).2≠0)→(getB n V i k).1=(getB n V' i k).1
 nw:∀ i k,i<5→k<64→((i=w∧k / 4=p)∨(g≠0∧(rb V i).2.2.1.getD (k / 4) 0=g))→k % 4=j→(getB n V i k).2=0→(getB n V' i k).1=d
 ln:∀ i k,i<5→k<64→(getB n V i k).2=0→i<V.length∧k / 4<(rb V i).2.2.1.length
theorem ym2(n:Nat){l:List Int}(hl:∀ x∈l,0≤x∧x<256):∃ l',q45 n (l,())=some (((l',0),()),())∧Rd (l',0) 0:=by
 obtain⟨l',e,h⟩:=ym8 n hl
 exact⟨l',e,h,Int.le_refl _,Int.le_refl _⟩
theorem ym4{l:List Int}(hl:∀ x∈l,0≤x∧x<256):∃ M,q34 2000 (l,())=some ((M,()),())∧MW M:=by
 have e0:q34 2000 (l,())=zji 2000 l:=rfl
 rw[e0,zji]
 obtain⟨l',e1,h1⟩:=ym2 2000 hl
 rw[e1]
 simp only[Option.bind_some]
 obtain⟨M,r,e2,h2,h3⟩:=yh5 (l',0) h1
 rw[e2]
 exact⟨M,rfl,h2⟩
theorem zto(n:Nat)(hn:2000≤n)(P:Pg)(h1:P.1.length≤1000)(h2:P.2.length≤1000):q57 n (P,P,())=some ((true,()),()):=by
 show zi7 n P P=_
 rw[zi7,ya4 n hn P.1 h1]
 simp only[Option.bind_some,cond_true]
 rw[zxa n hn P.2 h2]
 rfl
theorem zk2(n:Nat)(a b:Bool)(c d l:List Ar)(hl:l.length≤1000):∀ (e k m:Nat),k+e=l.length→e<m→zqi n m (k:Int) a c l b d l=some ((true,()),())
 |_,k,0,_,h=>by omega
 |0,k,m+1,hk,h=>by
  obtain rfl:k=l.length:=by omega
  show zhr n _ _ _ _ _ _ _ _=_
  simp only[zhr,lt_f,cond_false]
 |e+1,k,m+1,hk,h=>by
  have hlt:k<l.length:=by omega
  have ih:=zk2 n a b c d l hl e (k+1) m (by omega) (by omega)
  show zhr n _ _ _ _ _ _ _ _=_
  simp only[zhr,lt_t hlt,ge_t,cond_true,zaa,decide_true,BEq.rfl,Bool.and_self,Bool.not_true,cond_false,wS (show k≤1000000 by omega),ih]
theorem ya2(n:Nat)(hn:2000≤n)(s:Sp)(h1:s.2.1.length≤1000)(h2:s.2.2.length≤1000):q58 n (s,s,())=some ((true,()),()):=by
 show zi6 n (zqi n n) s s=_
 rw[zi6,ya3 n hn s.2.1 h1]
 have e:(!s.1 == s.1)=false:=by cases s.1 <;> rfl
 simp only[Option.bind_some,e,cond_false,Bool.not_true,decide_true]
 exact zk2 n s.1 s.1 s.2.1 s.2.1 s.2.2 h2 s.2.2.length 0 n (by omega) (by omega)
theorem zlg(n:Nat)(hn:2000≤n)(x1 x7 x3 x9:List ByteArray)(x2 x8 x4 x10:List Int)(x6 x12:Int)(S:List Sp)(hS:S.length≤1000)(hr:∀ s∈S,s.2.1.length≤1000∧s.2.2.length≤1000):∀ (e k m:Nat),k+e=S.length→e<m→zqr n m (k:Int) x1 x2 x3 x4 S x6 x7 x8 x9 x10 S x12=some ((true,()),())
 |_,k,0,_,h=>by omega
 |0,k,m+1,hk,h=>by
  obtain rfl:k=S.length:=by omega
  show zh1 n _ _ _ _ _ _ _ _ _ _ _ _ _ _=_
  simp only[zh1,lt_f,cond_false]
 |e+1,k,m+1,hk,h=>by
  have hlt:k<S.length:=by omega
  have ih:=zlg n hn x1 x7 x3 x9 x2 x8 x4 x10 x6 x12 S hS hr e (k+1) m (by omega) (by omega)
  have hk':=hr _ (zai (d:=(false,[],[])) hlt)
  show zh1 n _ _ _ _ _ _ _ _ _ _ _ _ _ _=_
  simp only[zh1,lt_t hlt,ge_t,cond_true,zaa]
  rw[show ((((S.getD k (false,[],[])).1,(S.getD k (false,[],[])).2.1,(S.getD k (false,[],[])).2.2):Sp))=S.getD k (false,[],[]) from rfl,ya2 n hn _ hk'.1 hk'.2]
  simp only[Option.bind_some,Bool.not_true,cond_false,wS (show k≤1000000 by omega),ih]
theorem ztq(n:Nat)(hn:2000≤n)(M:Me)(hM:MW M):q15 n (M,M,())=some ((true,()),()):=by
 have h1:=hM.a1
 have h2:=hM.a2
 have h3:=hM.b1
 have h4:=hM.b2
 have h5:=hM.s
 show zjm n (zqr n n) M M=_
 rw[zjm,show ((M.1.1,M.1.2):Pg)=M.1 from rfl,show ((M.2.1.1,M.2.1.2):Pg)=M.2.1 from rfl,zto n hn M.1 (by omega) (by omega),zto n hn M.2.1 (by omega) (by omega)]
 simp only[Option.bind_some,Bool.not_true,cond_false,decide_true]
 exact zlg n hn _ _ _ _ _ _ _ _ _ _ M.2.2.1 (by omega) (fun s hs=>by have:=hM.r s hs;omega) M.2.2.1.length 0 n (by omega) (by omega)
theorem yfe(kd a:Int)(s':Sp):∀ (S:List Sp) (t:Nat),tlR kd a s'.2.1 0 s'.2.2=tlR kd a (rw' S t).2.1 0 (rw' S t).2.2→tl kd a (S.set t s')=tl kd a S
 | [],t,_=>rfl
 |s::S,0,h=>by
  have h:tlR kd a s'.2.1 0 s'.2.2=tlR kd a s.2.1 0 s.2.2:=h
  rw[List.set_cons_zero,zd0,zd0,h]
 |s::S,t+1,h=>by
  rw[List.set_cons_succ,zd0,zd0,yfe kd a s' S t (by simpa [rw'] using h)]
theorem ztc{kd a:Int}(hk:kd≠0)(ar:List Ar):∀ (k p:Nat),tlR kd a ar p (List.replicate k z4)=[]
 |0,p=>rfl
 |k+1,p=>by
  have:isT kd a z4=false:=by simp[isT,Ne.symm hk]
  rw[List.replicate_succ,tlR,this,cond_false,ztc hk ar k (p+1)]
theorem yku{n:Nat}(hn:2000≤n):aok n []=true:=by
 obtain⟨m,rfl⟩:∃ m,n=m+1:=⟨n - 1,by omega⟩
 have:q127 (m+1) ([],())=some ((true,()),()):=by
  show zbb (m+1) (zda (m+1) m) [] 0=_
  rw[zbb]
  rfl
 unfold aok
 rw[this]
theorem MV.fill{n:Nat}{M:Me}(h:MV n M)(hn:2000≤n){t:Nat}(ht:t<5)(hd:(rw' M.2.2.1 t).1=false):MV n (zdb M t):=by
 have h5:=h.l5
 have ht':t<M.2.2.1.length:=by omega
 have hz:=(h.sp t ht).1 hd
 have ct:∀ kd a:Int,kd≠0→tl kd a (M.2.2.1.set t (true,[],List.replicate (Int.toNat 16) z4))=tl kd a M.2.2.1:=fun kd a hk=>by
  refine yfe kd a _ _ _ ?_
  rw[hz.2]
  exact ztc hk [] _ 0
 have cd:∀ kd a:Int,kd≠0→told kd a (M.2.2.1.set t (true,[],List.replicate (Int.toNat 16) z4))=told kd a M.2.2.1:=fun kd a hk=>by
  rw[← zj3,← zj3,ct kd a hk]
 refine⟨h.p1,h.p2,h.l1,h.l2,by simp[zdb,h5],h.h0,h.h1,fun w hw=>?_,⟨fun i hi=>?_,fun i hi=>?_⟩⟩
 ·show SpV n (rw' (M.2.2.1.set t _) w)
  by_cases e:w=t
  ·subst e
   rw[rw',za4 ht']
   refine⟨fun h=>(by cases h),fun _=>⟨yku hn,by simp,fun i hi=>?_⟩⟩
   have:(List.replicate (Int.toNat 16) z4).getD i z4=z4:=by
    rw[List.getD_eq_getElem?_getD,List.getElem?_replicate]
    split <;> rfl
   show SlV [] i ((List.replicate (Int.toNat 16) z4).getD i z4)∧AtOk ((List.replicate (Int.toNat 16) z4).getD i z4)
   rw[this]
   exact⟨⟨fun _=>rfl,fun h=>absurd rfl h⟩,fun h=>absurd rfl h⟩
  ·rw[rw',getD_set_ne ht' e]
   exact h.sp w hw
 ·show M.1.2.getD i 0=_∧_
  simp only[zdb]
  rw[cd 1 i (by decide),ct 1 i (by decide)]
  exact h.cn.1 i hi
 ·show M.2.1.2.getD i 0=_∧_
  simp only[zdb]
  rw[cd 2 i (by decide),ct 2 i (by decide)]
  exact h.cn.2 i hi
theorem zxr{M:Me}{w p:Nat}(hw:w<M.2.2.1.length)(hp:p<(rw' M.2.2.1 w).2.2.length)(hz:sl M.2.2.1 w p=z4):lose M w p=M:=by
 have h0:(sl M.2.2.1 w p).1=0:=by rw[hz]
 have hs:setS M.2.2.1 w p z4=M.2.2.1:=by
  apply List.ext_getElem?
  intro i
  unfold setS
  rw[List.getElem?_set]
  split
  ·rename_i e
   subst e
   rw[List.getElem?_eq_getElem hw]
   have eg:M.2.2.1.getD w (false,[],[])=M.2.2.1[w]:=by rw[List.getD_eq_getElem?_getD,List.getElem?_eq_getElem hw];rfl
   rw[eg]
   have e2:List.set M.2.2.1[w].2.2 p z4=M.2.2.1[w].2.2:=by
    apply List.ext_getElem?
    intro j
    rw[List.getElem?_set]
    split
    ·rename_i e
     subst e
     have hp':p<M.2.2.1[w].2.2.length:=by rw[← eg];exact hp
     rw[if_pos hp',List.getElem?_eq_getElem hp']
     have hz':(M.2.2.1.getD w (false,[],[])).2.2.getD p z4=z4:=hz
     rw[eg,List.getD_eq_getElem?_getD,List.getElem?_eq_getElem hp',Option.getD_some]at hz'
     exact congrArg some hz'.symm
    ·rfl
   rw[e2]
  ·rfl
 unfold lose
 rw[if_neg (by rw[h0];decide),if_neg (by rw[h0];decide),hs]
theorem zlw{M:Me}{w:Nat}(hw:w<M.2.2.1.length)(hl:(rw' M.2.2.1 w).2.2.length=16)(hz:∀ p,p<16→sl M.2.2.1 w p=z4):∀ (d k:Nat),k+d≤16→zns w (rngL k d) M=M
 |0,k,_=>rfl
 |d+1,k,h=>by
  show zns w (rngL (k+1) d) (lose M w k)=M
  rw[zxr hw (by omega) (hz k (by omega))]
  exact zlw hw hl hz d (k+1) (by omega)
theorem zy5{n:Nat}{M:Me}(h:MV n M)(hn:2000≤n)(hB:BgM n (zdb M (frf M.2.2.1).toNat))(h0:0≤frf M.2.2.1)(hk:okM n (zdb M (frf M.2.2.1).toNat)=true):drM n (zdb M (frf M.2.2.1).toNat) (frf M.2.2.1)=(M,true):=by
 obtain⟨h1,h2⟩:=zum h0
 have h5:=h.l5
 generalize ht:(frf M.2.2.1).toNat=t at *
 have hft:frf M.2.2.1=(t:Int):=by omega
 rw[hft]
 have hrow:rw' (zdb M t).2.2.1 t=(true,[],List.replicate (Int.toNat 16) z4):=za4 h1
 have hlen:(zdb M t).2.2.1.length=M.2.2.1.length:=by simp[zdb]
 have hlv:liv (zdb M t) (t:Int)=true:=by
  unfold liv
  rw[hlen,zaa,hrow,ge_t,decide_eq_true (show (t:Int)≤(M.2.2.1.length:Int) - 1 by omega)]
  rfl
 unfold drM
 rw[hk,hlv]
 simp only[Bool.and_self,cond_true,zaa]
 rw [zlw (by rw [hlen]; exact h1) (by rw [hrow]; simp) (fun p hp=>by
  show (rw' (zdb M t).2.2.1 t).2.2.getD p z4=z4
  rw[hrow,List.getD_eq_getElem?_getD,List.getElem?_replicate]
  split <;> rfl) 16 0 (by omega)]
 have hz:=(h.sp t (by omega)).1 h2
 have hrw:rw' M.2.2.1 t=(false,[],[]):=Prod.ext h2 (Prod.ext hz.1 hz.2)
 have hss:(M.2.2.1.set t (true,[],List.replicate (Int.toNat 16) z4)).set t (false,[],[])=M.2.2.1:=by
  rw[List.set_set]
  apply List.ext_getElem?
  intro i
  rw[List.getElem?_set]
  split
  ·rename_i e
   subst e
   rw[List.getElem?_eq_getElem h1,← hrw,rw',List.getD_eq_getElem?_getD,List.getElem?_eq_getElem h1]
   rfl
  ·rfl
 show ((M.1,M.2.1,(M.2.2.1.set t (true,[],List.replicate (Int.toNat 16) z4)).set t (false,[],[]),M.2.2.2),true)=(M,true)
 rw[hss]
theorem MW.fill {M:Me} (h:MW M) (t:Nat):MW (zdb M t):=⟨h.a1,h.a2,h.b1,h.b2,by simp only [zdb,List.length_set]; exact h.s,fun s hs=>by
 rcases List.mem_or_eq_of_mem_set hs with hs|rfl
 ·exact h.r s hs
 ·simp⟩
theorem MW.z:MW Mz:=⟨by decide,by decide,by decide,by decide,by decide,fun s hs=>by cases hs⟩
theorem MW.ofMk{M:Me}(h:MW M)(n:Nat):MW (mkM n M).1:=by
 unfold mkM
 cases okM n M&&decide (0≤frf M.2.2.1) with
 |true=>exact h.fill _
 |false=>exact MW.z
theorem law7(l:List Int)(hl:∀ x∈l,0≤x∧x<256):q7 2000 (l,())=some ((true,()),()):=by
 have hn:2000≤2000:=Nat.le_refl _
 show zn6 2000 l=_
 rw[zn6]
 cases decide ((1048576:Int)<(l.length:Int)) with
 |true=>rfl
 |false =>
  simp only[cond_false]
  obtain⟨M,e1,hM⟩:=ym4 hl
  rw[e1]
  simp only[Option.bind_some]
  have hB:BgM 2000 M:=hM.bg hn
  rw[show (((M.1.1,M.1.2),(M.2.1.1,M.2.1.2),M.2.2.1,M.2.2.2):Me)=M from rfl,ym5 2000 hn M hB,ym6 2000 hn M hB]
  simp only[Option.bind_some]
  rw[show ((((mkM 2000 M).1.1.1,(mkM 2000 M).1.1.2),((mkM 2000 M).1.2.1.1,(mkM 2000 M).1.2.1.2),(mkM 2000 M).1.2.2.1,(mkM 2000 M).1.2.2.2):Me)=(mkM 2000 M).1 from rfl,ztq 2000 hn _ (hM.ofMk 2000)]
  have en:∀ b:Bool,(!b == b)=false:=fun b=>by cases b <;> rfl
  simp only[Option.bind_some,cond_true,decide_true,en,cond_false]
  cases hok:(mkM 2000 M).2.2 with
  |false=>rfl
  |true =>
   simp only[Bool.not_true,cond_false]
   have hmk:okM 2000 M=true∧0≤frf M.2.2.1:=by
    unfold mkM at hok
    cases hb:(okM 2000 M&&decide (0≤frf M.2.2.1)) with
    |false=>rw[hb]at hok;cases hok
    |true =>
     have:=zb4.1 hb
     exact⟨this.1,of_decide_eq_true this.2⟩
   have hv:=(zls 2000 hn M hB).2.2.1 hmk.1
   have hmM:mkM 2000 M=(zdb M (frf M.2.2.1).toNat,frf M.2.2.1,true):=by
    unfold mkM
    rw[hmk.1,decide_eq_true hmk.2]
    rfl
   rw[hmM]
   simp only
   obtain⟨h1,h2⟩:=zum hmk.2
   have hB2:BgM 2000 (zdb M (frf M.2.2.1).toNat):=(hM.fill _).bg hn
   have hv2:MV 2000 (zdb M (frf M.2.2.1).toNat):=hv.fill hn (by have:=hv.l5;omega) h2
   have hk2:=(zls 2000 hn _ hB2).2.2.2 hv2
   have hq17:=(zls 2000 hn _ hB2).2.1
   rw[hk2]at hq17
   have hq35:=ym3 2000 hn (zdb M (frf M.2.2.1).toNat) (frf M.2.2.1) hB2
   rw[zy5 hv hn hB2 hmk.2 hk2]at hq35
   generalize hF:zdb M (frf M.2.2.1).toNat=F at *
   rw[hq35]
   simp only[Option.bind_some]
   rw[hq17]
   simp only[Option.bind_some,cond_true]
   rw[ztq 2000 hn M hM]
   simp only[Option.bind_some,cond_true]
   have hFl:F.2.2.1.length=M.2.2.1.length:=by rw[← hF];simp[zdb]
   have hFr:rw' F.2.2.1 (frf M.2.2.1).toNat=(true,[],List.replicate (Int.toNat 16) z4):=by rw[← hF];exact za4 h1
   rw[decide_eq_true hmk.2,decide_eq_true (show frf M.2.2.1<(F.2.2.1.length:Int) by rw[hFl];omega)]
   simp only[cond_true]
   rw[show List.getD F.2.2.1 (Int.toNat (frf M.2.2.1)) (false,[],[])=(true,[],List.replicate (Int.toNat 16) z4) from hFr]
   rfl
theorem ykp{x:Int}(h:(Lit.int .u8 x).wf=true):0≤x∧x<256:=by
 simp only[Lit.wf,Bool.and_eq_true,decide_eq_true_eq,IntKind.min,IntKind.max,IntKind.signed,IntKind.bits,Bool.false_eq_true,if_false]at h
 omega
theorem pure7(l:List Int)(h:WfT (.row 5 (.int .u8)) l):∃ n o,q7 n (l,())=some ((true,()),o):=⟨2000,(),law7 l fun x hx=>ykp (h.2 x hx)⟩
end Go.Proofs.Ytdkaagpkeomhmaa.Rx.S
