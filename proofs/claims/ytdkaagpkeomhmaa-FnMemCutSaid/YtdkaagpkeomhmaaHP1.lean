/- Plain laws of those functions, no program in sight: the law answers true on all data. No condition. -/
import Derived.Test.YtdkaagpkeomhmaaHP0
set_option linter.unusedVariables false
set_option linter.unusedSimpArgs false
namespace Go.Proofs.Ytdkaagpkeomhmaa.Rx.S
open Go Go.Proofs.Ytdkaagpkeomhmaa.Rx Go.Proofs.Ytdkaagpkeomhmaa.Rx.Pu
set_option maxRecDepth 100000
abbrev Mp:=List ((Int×Int)×Option (List (Bool×Bool)))
def gk(x:(Int×Int)×Option (List (Bool×Bool)))(k a:Int):Bool:=decide (k=x.1.1)&&decide (a=x.1.2)
theorem zeg{x:(Int×Int)×Option (List (Bool×Bool))}{k a:Int}:gk x k a=true↔x.1=(k,a):=by
 obtain⟨⟨p,q⟩,y⟩:=x;simp only[gk,Bool.and_eq_true,decide_eq_true_eq,Prod.mk.injEq];exact⟨fun h=>⟨h.1.symm,h.2.symm⟩,fun h=>⟨h.1.symm,h.2.symm⟩⟩
theorem zfr(x:(Int×Int)×Option (List (Bool×Bool)))(m:Mp)(k a:Int):gfi (x::m) k a=cond (gk x k a) 0 (gfi m k a+1):=by
 unfold gfi gk;rw[List.findIdx_cons]
theorem zfp(x:(Int×Int)×Option (List (Bool×Bool)))(m:Mp)(k a:Int):gvl (x::m) k a=cond (gk x k a) (x.2.getD []) (gvl m k a):=by
 unfold gvl;rw[zfr]
 cases gk x k a with
 |true=>obtain⟨p,y⟩:=x;cases y <;> rfl
 |false=>simp
theorem zfq(x:(Int×Int)×Option (List (Bool×Bool)))(m:Mp)(k a:Int):gok (x::m) k a=cond (gk x k a) x.2.isSome (gok m k a):=by
 unfold gok;rw[zfr]
 cases gk x k a with
 |true=>obtain⟨p,y⟩:=x;cases y <;> rfl
 |false=>simp
def putM(m:Mp)(k a:Int)(xs:List (Bool×Bool)):Mp:=gbk (gou m k a) (gfi m k a:Int) xs
theorem zvj(x:(Int×Int)×Option (List (Bool×Bool)))(m:Mp)(k a:Int):gou (x::m) k a=cond (gk x k a) (((k,a),none)::m) (x::gou m k a):=by
 unfold gou;rw[zfr]
 cases gk x k a with
 |true=>simp
 |false =>
  simp only[cond_false,List.length_cons,Nat.add_lt_add_iff_right];cases decide (gfi m k a<m.length) <;> simp
theorem yef(x:(Int×Int)×Option (List (Bool×Bool)))(m:Mp)(k a:Int):gol (x::m) k a=cond (gk x k a) (((k,a),none)::m) (x::gol m k a):=by
 unfold gol;rw[zfr]
 cases gk x k a with
 |true=>simp
 |false =>
  simp only[cond_false,List.length_cons,Nat.add_lt_add_iff_right];cases decide (gfi m k a<m.length) <;> simp
theorem zuu(k a:Int)(xs:List (Bool×Bool)):putM [] k a xs=[((k,a),some xs)]:=rfl
theorem zq0(x:(Int×Int)×Option (List (Bool×Bool)))(m:Mp)(k a:Int)(xs:List (Bool×Bool)):putM (x::m) k a xs=cond (gk x k a) (((k,a),some xs)::m) (x::putM m k a xs):=by
 unfold putM gbk;rw[zvj,zfr]
 cases gk x k a with
 |true=>simp
 |false=>simp
theorem zze(k a k' a':Int)(xs:List (Bool×Bool)):∀ m:Mp,gvl (putM m k a xs) k' a'=if k'=k∧a'=a then xs else gvl m k' a'
 | []=>by
  rw[zuu,zfp]
  by_cases h:k'=k∧a'=a
  ·rw[if_pos h,h.1,h.2];simp[gk]
  ·rw[if_neg h];have:gk ((k,a),some xs) k' a'=false:=by rw[Bool.eq_false_iff];intro hh;have:=zeg.1 hh;simp only[Prod.mk.injEq]at this;exact h ⟨this.1.symm,this.2.symm⟩
   rw[this];rfl
 |x::m=>by
  have ih:=zze k a k' a' xs m;rw[zq0,zfp]
  cases hx:gk x k a with
  |true =>
   have hx':=zeg.1 hx;simp only[cond_true,zfp]
   by_cases h:k'=k∧a'=a
   ·rw[if_pos h,h.1,h.2];simp[gk]
   ·rw[if_neg h];have h1:gk ((k,a),some xs) k' a'=false:=by rw[Bool.eq_false_iff];intro hh;have:=zeg.1 hh;simp only[Prod.mk.injEq]at this;exact h ⟨this.1.symm,this.2.symm⟩
    have h2:gk x k' a'=false:=by rw[Bool.eq_false_iff];intro hh;have:=zeg.1 hh;rw[hx']at this;simp only[Prod.mk.injEq]at this;exact h ⟨this.1.symm,this.2.symm⟩
    rw[h1,h2];rfl
  |false =>
   simp only[cond_false,zfp,ih]
   cases hx2:gk x k' a' with
   |true =>
    have hx2':=zeg.1 hx2;have:¬ (k'=k∧a'=a):=by rintro ⟨rfl,rfl⟩;rw[hx]at hx2;cases hx2
    simp only[cond_true,if_neg this]
   |false=>rfl
theorem zzj(k a k' a':Int)(xs:List (Bool×Bool)):∀ m:Mp,gok (putM m k a xs) k' a'=if k'=k∧a'=a then true else gok m k' a'
 | []=>by
  rw[zuu,zfq]
  by_cases h:k'=k∧a'=a
  ·rw[if_pos h];cases gk ((k,a),some xs) k' a' <;> rfl
  ·rw[if_neg h];cases gk ((k,a),some xs) k' a' <;> rfl
 |x::m=>by
  have ih:=zzj k a k' a' xs m;rw[zq0,zfq]
  cases hx:gk x k a with
  |true =>
   have hx':=zeg.1 hx;simp only[cond_true,zfq]
   by_cases h:k'=k∧a'=a
   ·rw[if_pos h,h.1,h.2];simp[gk]
   ·rw[if_neg h];have h1:gk ((k,a),some xs) k' a'=false:=by rw[Bool.eq_false_iff];intro hh;have:=zeg.1 hh;simp only[Prod.mk.injEq]at this;exact h ⟨this.1.symm,this.2.symm⟩
    have h2:gk x k' a'=false:=by rw[Bool.eq_false_iff];intro hh;have:=zeg.1 hh;rw[hx']at this;simp only[Prod.mk.injEq]at this;exact h ⟨this.1.symm,this.2.symm⟩
    rw[h1,h2];rfl
  |false =>
   simp only[cond_false,zfq,ih]
   cases hx2:gk x k' a' with
   |true =>
    have:¬ (k'=k∧a'=a):=by rintro ⟨rfl,rfl⟩;rw[hx]at hx2;cases hx2
    simp only[cond_true,if_neg this]
   |false=>rfl
theorem ztm(k a k' a':Int)(h:¬ (k'=k∧a'=a)):∀ m:Mp,gvl (gol m k a) k' a'=gvl m k' a'∧gok (gol m k a) k' a'=gok m k' a'
 | []=>⟨rfl,rfl⟩
 |x::m=>by
  have ih:=ztm k a k' a' h m;rw[yef]
  cases hx:gk x k a with
  |true =>
   have hx':=zeg.1 hx;have h1:gk ((k,a),none) k' a'=false:=by rw[Bool.eq_false_iff];intro hh;have:=zeg.1 hh;simp only[Prod.mk.injEq]at this;exact h ⟨this.1.symm,this.2.symm⟩
   have h2:gk x k' a'=false:=by rw[Bool.eq_false_iff];intro hh;have:=zeg.1 hh;rw[hx']at this;simp only[Prod.mk.injEq]at this;exact h ⟨this.1.symm,this.2.symm⟩
   simp only[cond_true,zfp,zfq,h1,h2,cond_false,and_self]
  |false =>
   simp only[cond_false,zfp,zfq,ih.1,ih.2,and_self]
theorem zzi(k a:Int):∀ m:Mp,gfi m k a<(gou m k a).length
 | []=>by simp[gfi,gou]
 |x::m=>by
  have ih:=zzi k a m;rw[zvj,zfr]
  cases gk x k a with
  |true=>simp
  |false=>simpa using ih
def Tells(m:Mp)(T:Int→Int→List (Bool×Bool)):Prop:=∀ k a,k≠0→gok m k a=true∧gvl m k a=T k a
theorem Tells.put{m:Mp}{T:Int→Int→List (Bool×Bool)}(h:Tells m T)(k a:Int)(x:Bool×Bool):Tells (putM m k a (gvl m k a++[x])) (fun k' a'=>T k' a'++cond (decide (k=k')&&decide (a=a')) [x] []):=by
 intro k' a' h0;rw[zze,zzj]
 by_cases hk:k'=k∧a'=a
 ·obtain⟨rfl,rfl⟩:=hk;simp[(h k' a' h0).2]
 ·rw[if_neg hk,if_neg hk]
  have:(decide (k=k')&&decide (a=a'))=false:=by
   rw[Bool.eq_false_iff];intro hh;simp only[Bool.and_eq_true,decide_eq_true_eq]at hh;exact hk ⟨hh.1.symm,hh.2.symm⟩
  show gok m k' a'=true∧gvl m k' a'=T k' a'++cond (decide (k=k')&&decide (a=a')) [x] [];rw[this];simp[h k' a' h0]
theorem Tells.congr{m:Mp}{T T':Int→Int→List (Bool×Bool)}(h:Tells m T)(e:∀ k a,k≠0→T k a=T' k a):Tells m T':=fun k a h0=>by rw[← e k a h0];exact h k a h0
def hasB(l:List Int)(b:Int):Bool:=(decide (0≤b)&&decide (b≤(l.length:Int) - 1))&&decide (0<l.getD b.toNat 0)
theorem yg6(n:Nat)(P:Pg)(hl:P.2.length≤4000000)(b:Int):q64 n (P,b,())=some ((hasB P.2 b,()),()):=by
 show zjd n P b=_;unfold zjd hasB;rw[wr (by omega) (by omega),zhi];simp only[Option.bind_some]
 by_cases h1:0≤b
 ·by_cases h2:b≤(P.2.length:Int) - 1
  ·have h3:decide (b<(P.2.length:Int))=true:=decide_eq_true (by omega);rw[decide_eq_true h1,decide_eq_true h2,h3];simp only[Bool.and_self,cond_true,Bool.true_and]
  ·rw[decide_eq_true h1,decide_eq_false h2];rfl
 ·rw[decide_eq_false h1];rfl
theorem yow(n:Nat)(s:Sp)(b:Int)(hq:q60 n (s.2.1,b,())=some ((at2 s.2.1 b,()),())):q65 n (s,b,())=some ((shd s.2.1 b,()),()):=by
 have hr:=zms s.2.1 b;show zjc n s b=_;unfold zjc shd;rw[hq];simp only[Option.bind_some]
 by_cases h1:0≤at2 s.2.1 b
 ·rw[decide_eq_true h1,decide_eq_true hr.2];simp only[cond_true,Bool.true_and]
 ·rw[decide_eq_false h1];rfl
def CkV(R W:List Int)(ar:List Ar)(k:Nat)(x:Ar):Prop:=(x.1=0→x=z4)∧(x.1≠0→0≤at2 ar k∧(1≤x.1∧x.1≤2)∧(x.1=1→hasB R x.2.1=true)∧(x.1=2→hasB W x.2.1=true)∧(shd ar k=true→x.2.2.1=true))
abbrev GF17:=(List Sp)→Int→Int→(List ByteArray)→(List Int)→(List ByteArray)→(List Int)→(List Sp)→Int→Mp→Option R17
theorem zly(n:Nat)(g5:GF17)(S0 S1:List Sp)(x1:Int)(w:Nat)(hw:w≤1000)(t1 t2:List ByteArray)(R W:List Int)(hR:R.length≤4000000)(hW:W.length≤4000000)(h:Int)(lv:Bool)(ar l l':List Ar)(hl:l.length≤1000)
    (hq:∀ b,q60 n (ar,b,())=some ((at2 ar b,()),())):∀ (rest done:List Ar) (mf:Nat) (m:Mp) (T:Int→Int→List (Bool×Bool)),done++rest=l→rest.length<mf→Tells m T→(∀ k a,(T k a).length+rest.length≤100000) →
      ((za9 g5 n mf S0 x1 (w:Int) l (l.length:Int) (done.length:Int) t1 R t2 W S1 h m lv ar l'=some ((false,()),())∧¬ ∀ i,done.length≤i→i < l.length→CkV R W ar i (l.getD i z4)) ∨
       (∃ m',za9 g5 n mf S0 x1 (w:Int) l (l.length:Int) (done.length:Int) t1 R t2 W S1 h m lv ar l'=g5 S0 x1 ((w+1:Nat):Int) t1 R t2 W S1 h m'∧(∀ i,done.length≤i→i<l.length→CkV R W ar i (l.getD i z4))∧Tells m' (fun k a=>T k a++tlR k a ar done.length rest)))
  |_,_,0,_,_,_,hf,_,_=>by omega
  | [],done,mf+1,m,T,hd,_,hT,_=>by
    have hd:done=l:=by simpa using hd
    subst hd;right;refine⟨m,?_,fun i h1 h2=>by omega,hT.congr fun k a _=>by simp[tlR]⟩;show za8 n _ _ _ _ _ _ _ _ _ _ _ _ _ _ _ _ _ _=_;simp only[za8,lt_f,cond_false,wS (show w≤1000000 by omega)]
  |x::rest,done,mf+1,m,T,hd,hf,hT,hb=>by
    have hlt:done.length<l.length:=by rw[← hd];simp
    have hg:l.getD done.length z4=x:=by rw[← hd];exact zbt _ _ _ _
    have ih:=fun m T hT hb=>zly n g5 S0 S1 x1 w hw t1 t2 R W hR hW h lv ar l l' hl hq rest (done++[x]) mf m T (by simpa using hd) (by simp at hf;omega) hT hb;simp only[List.length_append,List.length_cons,List.length_nil,Nat.zero_add]at ih hb;have e1:=zhi n x.1 1 2;have e2:=yg6 n (t1,R) hR x.2.1;have e3:=yg6 n (t2,W) hW x.2.1;have e4:=yow n (lv,ar,l') done.length (hq _);have hx1:x.1≠0→gok m x.1 x.2.1=true:=fun h0=>(hT x.1 x.2.1 h0).1;have hno:¬ CkV R W ar done.length x→¬ ∀ i,done.length≤i→i<l.length→CkV R W ar i (l.getD i z4):=fun hx hh=>hx (by have:=hh done.length (Nat.le_refl _) hlt;rw[hg]at this;exact this)
    have nxt:∀ m1 T1,Tells m1 T1→(∀ k a,(T1 k a).length+rest.length≤100000)→CkV R W ar done.length x→(∀ k a,k≠0→T1 k a++tlR k a ar (done.length+1) rest=T k a++tlR k a ar done.length (x::rest)) →
        ((za9 g5 n mf S0 x1 (w:Int) l (l.length:Int) ((done.length + 1:Nat):Int) t1 R t2 W S1 h m1 lv ar l'=some ((false,()),())∧¬ ∀ i,done.length≤i→i < l.length→CkV R W ar i (l.getD i z4)) ∨
         (∃ m',za9 g5 n mf S0 x1 (w:Int) l (l.length:Int) ((done.length+1:Nat):Int) t1 R t2 W S1 h m1 lv ar l'=g5 S0 x1 ((w+1:Nat):Int) t1 R t2 W S1 h m'∧(∀ i,done.length≤i→i<l.length→CkV R W ar i (l.getD i z4))∧Tells m' (fun k a=>T k a++tlR k a ar done.length (x::rest)))):=fun m1 T1 hT1 hb1 hck heq=>by
      rcases ih m1 T1 hT1 hb1 with ⟨e,hh⟩|⟨m',e,hh,ht⟩
      · exact .inl ⟨e,fun hq=>hh fun i h1 h2=>hq i (by omega) h2⟩
      · refine .inr ⟨m',e,fun i h1 h2=>?_,ht.congr heq⟩
        by_cases hi:i=done.length
        · subst hi;rw[hg];exact hck
        · exact hh i (by omega) h2
    have ew:=wS (show done.length≤1000000 by omega)
    by_cases h0:x.1=0
    · have hz:=yn1 x h0
      have e0:za9 g5 n (mf+1) S0 x1 (w:Int) l (l.length:Int) (done.length:Int) t1 R t2 W S1 h m lv ar l'=cond (!(decide (x.1=0)&&(decide (x.2.1=0)&&(x.2.2.1 == false&&(x.2.2.2 == false&&true))))) (some ((false,()),())) (za9 g5 n mf S0 x1 (w:Int) l (l.length:Int) ((done.length+1:Nat):Int) t1 R t2 W S1 h m lv ar l'):=by
        show za8 n _ _ _ _ _ _ _ _ _ _ _ _ _ _ _ _ _ _=_;simp only[za8,lt_t hlt,ge_t,cond_true,zaa,hg,ew];rw[show decide (x.1=0)=true from decide_eq_true h0];rfl
      rw[e0]
      cases hc:(decide (x.1=0)&&(decide (x.2.1=0)&&(x.2.2.1 == false&&(x.2.2.2 == false&&true)))) with
      |false=>exact .inl ⟨rfl,hno fun hck=>by have:=hz.2 (hck.1 h0);rw[hc]at this;cases this⟩
      |true =>
        refine nxt m T hT (fun k a=>by have:=hb k a;omega) ⟨fun _=>hz.1 hc,fun hh=>absurd h0 hh⟩ fun k a hk=>?_;have:isT k a x=false:=by rw[Bool.eq_false_iff];exact fun hh=>hk ((za0.1 hh).1.symm.trans h0)
        simp only[tlR,this,cond_false]
    · have hd0:decide (x.1=0)=false:=decide_eq_false h0
      by_cases hat:at2 ar done.length<0
      · left;refine⟨?_,hno fun hck=>by have:=(hck.2 h0).1;omega⟩;show za8 n _ _ _ _ _ _ _ _ _ _ _ _ _ _ _ _ _ _=_;simp only[za8,lt_t hlt,ge_t,cond_true,zaa,hg,ew,hd0,cond_false,hq done.length,Option.bind_some,decide_eq_true hat,Bool.false_and,Bool.not_false]
      · have hat':decide (at2 ar done.length<0)=false:=decide_eq_false hat
        have hlen:decide (((gvl m x.1 x.2.1).length+[(x.2.2.1,shd ar done.length)].length)*(2:Nat)≤(140737488355328:Nat))=true:=by
          have:=hb x.1 x.2.1;rw[(hT x.1 x.2.1 h0).2];exact decide_eq_true (by simp;omega)
        have heqT:∀ k a,k≠0→(T k a++cond (decide (x.1=k)&&decide (x.2.1=a)) [(x.2.2.1,shd ar done.length)] [])++tlR k a ar (done.length+1) rest=T k a++tlR k a ar done.length (x::rest):=fun k a _=>by
          show _=T k a++cond (isT k a x) _ _;unfold isT;cases (decide (x.1=k)&&decide (x.2.1=a)) <;> simp
        have fin:=fun hck=>nxt (putM m x.1 x.2.1 (gvl m x.1 x.2.1 ++ [(x.2.2.1,shd ar done.length)])) _ (hT.put x.1 x.2.1 (x.2.2.1,shd ar done.length)) (fun k a=>by
          have:=hb k a
          cases (decide (x.1=k)&&decide (x.2.1=a)) <;> simp <;> omega) hck heqT
        -- behind the checks of the place
        have tail:(1≤x.1∧x.1≤2)→(x.1=1→hasB R x.2.1=true)→(x.1=2→hasB W x.2.1=true) →
            ((cond (shd ar done.length) (cond (!x.2.2.1) (some ((false,()),())) (za9 g5 n mf S0 x1 (w:Int) l (l.length:Int) ((done.length + 1:Nat):Int) t1 R t2 W S1 h (putM m x.1 x.2.1 (gvl m x.1 x.2.1 ++ [(x.2.2.1,shd ar done.length)])) lv ar l')) (za9 g5 n mf S0 x1 (w:Int) l (l.length:Int) ((done.length + 1:Nat):Int) t1 R t2 W S1 h (putM m x.1 x.2.1 (gvl m x.1 x.2.1 ++ [(x.2.2.1,shd ar done.length)])) lv ar l')=some ((false,()),())∧¬ ∀ i,done.length≤i→i < l.length→CkV R W ar i (l.getD i z4)) ∨
             (∃ m',cond (shd ar done.length) (cond (!x.2.2.1) (some ((false,()),())) (za9 g5 n mf S0 x1 (w:Int) l (l.length:Int) ((done.length+1:Nat):Int) t1 R t2 W S1 h (putM m x.1 x.2.1 (gvl m x.1 x.2.1++[(x.2.2.1,shd ar done.length)])) lv ar l')) (za9 g5 n mf S0 x1 (w:Int) l (l.length:Int) ((done.length+1:Nat):Int) t1 R t2 W S1 h (putM m x.1 x.2.1 (gvl m x.1 x.2.1++[(x.2.2.1,shd ar done.length)])) lv ar l')=g5 S0 x1 ((w+1:Nat):Int) t1 R t2 W S1 h m'∧(∀ i,done.length≤i→i<l.length→CkV R W ar i (l.getD i z4))∧Tells m' (fun k a=>T k a++tlR k a ar done.length (x::rest)))):=fun h12 hh1 hh2=>by
          cases hs:shd ar done.length with
          |false =>
            rw[hs]at fin;exact fin ⟨fun hh=>absurd hh h0,fun _=>⟨by omega,h12,hh1,hh2,fun hh=>by rw[hs]at hh;cases hh⟩⟩
          |true =>
            rw[hs]at fin;simp only[cond_true]
            cases ho:x.2.2.1 with
            |false=>exact .inl ⟨rfl,hno fun hck=>by have:=(hck.2 h0).2.2.2.2 hs;rw[ho]at this;cases this⟩
            |true =>
              rw[ho]at fin;exact fin ⟨fun hh=>absurd hh h0,fun _=>⟨by omega,h12,hh1,hh2,fun _=>ho⟩⟩
        have hgo:=hx1 h0;have hrg:decide (((gfi m x.1 x.2.1:Nat):Int)<(((gou m x.1 x.2.1).length:Nat):Int))=true:=decide_eq_true (Int.ofNat_lt.2 (zzi x.1 x.2.1 m))
        by_cases k1:x.1=1
        · cases hh1:hasB R x.2.1 with
          |false =>
            left;refine⟨?_,hno fun hck=>by have:=(hck.2 h0).2.2.1 k1;rw[hh1]at this;cases this⟩;show za8 n _ _ _ _ _ _ _ _ _ _ _ _ _ _ _ _ _ _=_;simp only[za8,lt_t hlt,ge_t,cond_true,zaa,hg,ew,hd0,cond_false,hq done.length,Option.bind_some,hat',decide_eq_true k1,e2,hh1,Bool.not_false]
          |true =>
            have e0:za9 g5 n (mf+1) S0 x1 (w:Int) l (l.length:Int) (done.length:Int) t1 R t2 W S1 h m lv ar l'=cond (shd ar done.length) (cond (!x.2.2.1) (some ((false,()),())) (za9 g5 n mf S0 x1 (w:Int) l (l.length:Int) ((done.length+1:Nat):Int) t1 R t2 W S1 h (putM m x.1 x.2.1 (gvl m x.1 x.2.1++[(x.2.2.1,shd ar done.length)])) lv ar l')) (za9 g5 n mf S0 x1 (w:Int) l (l.length:Int) ((done.length+1:Nat):Int) t1 R t2 W S1 h (putM m x.1 x.2.1 (gvl m x.1 x.2.1++[(x.2.2.1,shd ar done.length)])) lv ar l'):=by
              show za8 n _ _ _ _ _ _ _ _ _ _ _ _ _ _ _ _ _ _=_;simp only[za8,lt_t hlt,ge_t,cond_true,zaa,hg,ew,hd0,cond_false,hq done.length,Option.bind_some,hat',decide_eq_true k1,e2,hh1,Bool.not_true,show decide (x.1=2)=false from decide_eq_false (by omega),e1,show decide (1≤x.1)=true from decide_eq_true (by omega),show decide (x.1≤2)=true from decide_eq_true (by omega),Bool.and_self,e4,hgo,hlen,hrg,Bool.true_and];rfl
            rw[e0];exact tail ⟨by omega,by omega⟩ (fun _=>hh1) (fun hh=>by omega)
        · have hd1:decide (x.1=1)=false:=decide_eq_false k1
          by_cases k2:x.1=2
          · cases hh2:hasB W x.2.1 with
            |false =>
              left;refine⟨?_,hno fun hck=>by have:=(hck.2 h0).2.2.2.1 k2;rw[hh2]at this;cases this⟩;show za8 n _ _ _ _ _ _ _ _ _ _ _ _ _ _ _ _ _ _=_;simp only[za8,lt_t hlt,ge_t,cond_true,zaa,hg,ew,hd0,cond_false,hq done.length,Option.bind_some,hat',hd1,decide_eq_true k2,e3,hh2,Bool.not_false]
            |true =>
              have e0:za9 g5 n (mf+1) S0 x1 (w:Int) l (l.length:Int) (done.length:Int) t1 R t2 W S1 h m lv ar l'=cond (shd ar done.length) (cond (!x.2.2.1) (some ((false,()),())) (za9 g5 n mf S0 x1 (w:Int) l (l.length:Int) ((done.length+1:Nat):Int) t1 R t2 W S1 h (putM m x.1 x.2.1 (gvl m x.1 x.2.1++[(x.2.2.1,shd ar done.length)])) lv ar l')) (za9 g5 n mf S0 x1 (w:Int) l (l.length:Int) ((done.length+1:Nat):Int) t1 R t2 W S1 h (putM m x.1 x.2.1 (gvl m x.1 x.2.1++[(x.2.2.1,shd ar done.length)])) lv ar l'):=by
                show za8 n _ _ _ _ _ _ _ _ _ _ _ _ _ _ _ _ _ _=_;simp only[za8,lt_t hlt,ge_t,cond_true,zaa,hg,ew,hd0,cond_false,hq done.length,Option.bind_some,hat',hd1,decide_eq_true k2,e3,hh2,Bool.not_true,e1,show decide (1≤x.1)=true from decide_eq_true (by omega),show decide (x.1≤2)=true from decide_eq_true (by omega),Bool.and_self,e4,hgo,hlen,hrg,Bool.true_and];rfl
              rw[e0];exact tail ⟨by omega,by omega⟩ (fun hh=>by omega) (fun _=>hh2)
          · left
            have hrng:(decide (1≤x.1)&&decide (x.1≤2))=false:=by
              rw[Bool.eq_false_iff];intro hh;have:=za_.1 hh;have h3:=of_decide_eq_true this.1;have h4:=of_decide_eq_true this.2;omega
            refine⟨?_,hno fun hck=>by have:=(hck.2 h0).2.1;omega⟩;show za8 n _ _ _ _ _ _ _ _ _ _ _ _ _ _ _ _ _ _=_;simp only[za8,lt_t hlt,ge_t,cond_true,zaa,hg,ew,hd0,cond_false,hq done.length,Option.bind_some,hat',hd1,decide_eq_false k2,e1,hrng,Bool.not_false]
abbrev Lf:=List (Int×List ByteArray×List Int)
abbrev GF29:=Mp→Lf→Lf→Option R17
abbrev GF32:=Int→(List Int)→Int→Int→Mp→Lf→Lf→Option R17
abbrev GF38:=Int→(List Int)→Int→Int→Int→Int→Mp→(List (Bool×Bool))→Lf→Lf→Option R17
abbrev b2:Bool×Bool:=(false,false)
def Pj(l:List (Bool×Bool))(i j:Nat):Prop:=i≠j→(l.getD i b2).1=true→(l.getD i b2).2=true∧(l.getD j b2).2=true
theorem zlw(n:Nat)(g29:GF29)(g32:GF32)(g38:GF38)(kd x3 at' x5:Int)(refs:List Int)(m:Mp)(cur left:Lf)(l:List (Bool×Bool))(hl:l.length≤100000)(i:Nat)(hi:i<l.length) :
    ∀ (d k mf:Nat),k+d=l.length→d<mf →
      ((zcy g29 g32 g38 n mf kd (i:Int) refs x3 at' x5 (i:Int) (l.length:Int) (k:Int) m l (l.getD i b2).1 (l.getD i b2).2 cur left=some ((false,()),())∧¬ ∀ j,k≤j→j < l.length→Pj l i j) ∨
       (zcy g29 g32 g38 n mf kd (i:Int) refs x3 at' x5 (i:Int) (l.length:Int) (k:Int) m l (l.getD i b2).1 (l.getD i b2).2 cur left=g38 kd refs x3 at' x5 ((i+1:Nat):Int) m l cur left∧∀ j,k≤j→j<l.length→Pj l i j))
  |_,k,0,_,h=>by omega
  |0,k,mf+1,hk,h=>by
    obtain rfl:k=l.length:=by omega
    right;refine⟨?_,fun j h1 h2=>by omega⟩;show zez n _ _ _ _ _ _ _ _ _ _ _ _ _ _ _ _ _=_;simp only[zez,lt_f,cond_false,wS (show i≤1000000 by omega)]
  |d+1,k,mf+1,hk,h=>by
    have hlt:k<l.length:=by omega
    have ih:=zlw n g29 g32 g38 kd x3 at' x5 refs m cur left l hl i hi d (k+1) mf (by omega) (by omega)
    have nxt:Pj l i k→((zcy g29 g32 g38 n mf kd (i:Int) refs x3 at' x5 (i:Int) (l.length:Int) ((k + 1:Nat):Int) m l (l.getD i b2).1 (l.getD i b2).2 cur left=some ((false,()),())∧¬ ∀ j,k≤j→j < l.length→Pj l i j) ∨
       (zcy g29 g32 g38 n mf kd (i:Int) refs x3 at' x5 (i:Int) (l.length:Int) ((k+1:Nat):Int) m l (l.getD i b2).1 (l.getD i b2).2 cur left=g38 kd refs x3 at' x5 ((i+1:Nat):Int) m l cur left∧∀ j,k≤j→j<l.length→Pj l i j)):=fun hx=>by
      rcases ih with ⟨e,hh⟩|⟨e,hh⟩
      · exact .inl ⟨e,fun hq=>hh fun j h1 h2=>hq j (by omega) h2⟩
      · refine .inr ⟨e,fun j h1 h2=>?_⟩
        by_cases hj:j=k
        · subst hj;exact hx
        · exact hh j (by omega) h2
    have e0:zcy g29 g32 g38 n (mf+1) kd (i:Int) refs x3 at' x5 (i:Int) (l.length:Int) (k:Int) m l (l.getD i b2).1 (l.getD i b2).2 cur left=zez n (zcy g29 g32 g38 n mf) g38 kd (i:Int) refs x3 at' x5 (i:Int) (l.length:Int) (k:Int) m l (l.getD i b2).1 (l.getD i b2).2 cur left:=rfl;rw[e0,zez];simp only[lt_t hlt,ge_t,cond_true,zaa,wS (show k≤1000000 by omega)]
    by_cases hik:i=k
    · have:decide ((i:Int)=(k:Int))=true:=decide_eq_true (by omega);simp only[this,Bool.not_true,cond_false];exact nxt fun h=>absurd hik h
    · have:decide ((i:Int)=(k:Int))=false:=decide_eq_false (by omega);simp only[this,Bool.not_false,cond_true]
      cases ho:(l.getD i b2).1 with
      |false=>rw[ho]at nxt;simp only[cond_false];exact nxt fun _ h=>by rw[ho]at h;cases h
      |true =>
        simp only[cond_true]
        cases hs:(l.getD i b2).2 with
        |false =>
          left;exact⟨rfl,fun hh=>by have:=(hh k (Nat.le_refl _) hlt hik ho).1;rw[hs]at this;cases this⟩
        |true =>
          simp only[cond_true];rw[ho,hs]at nxt
          cases hy:(l.getD k b2).2 with
          |false =>
            left;simp only[Bool.not_false,cond_true];exact⟨trivial,fun hh=>by have:=(hh k (Nat.le_refl _) hlt hik ho).2;rw[hy]at this;cases this⟩
          |true =>
            simp only[Bool.not_true,cond_false];exact nxt fun _ _=>⟨hs,hy⟩
theorem zlx(n:Nat)(g29:GF29)(g32:GF32)(kd x2 x4:Int)(at':Nat)(hat:at'≤1000000)(refs:List Int)(m:Mp)(cur left:Lf)(l:List (Bool×Bool))(hl:l.length≤100000)(hn:l.length<n)(hx4:x4=(l.length:Int)) :
    ∀ (d k mf:Nat),k+d=l.length→d<mf →
      ((zcz g29 g32 n mf kd refs x2 (at':Int) x4 (k:Int) m l cur left=some ((false,()),())∧¬ ∀ i,k≤i→i < l.length→∀ j,j < l.length→Pj l i j) ∨
       (zcz g29 g32 n mf kd refs x2 (at':Int) x4 (k:Int) m l cur left=g32 kd refs x2 ((at'+1:Nat):Int) m cur left∧∀ i,k≤i→i<l.length→∀ j,j<l.length→Pj l i j))
  |_,k,0,_,h=>by omega
  |0,k,mf+1,hk,h=>by
    obtain rfl:k=l.length:=by omega
    right;refine⟨?_,fun j h1 h2=>by omega⟩;show ze0 n _ _ _ _ _ _ _ _ _ _ _ _=_;simp only[ze0,hx4,lt_f,cond_false,wS hat]
  |d+1,k,mf+1,hk,h=>by
    have hlt:k<l.length:=by omega
    have ih:=zlx n g29 g32 kd x2 x4 at' hat refs m cur left l hl hn hx4 d (k+1) mf (by omega) (by omega);have e0:zcz g29 g32 n (mf+1) kd refs x2 (at':Int) x4 (k:Int) m l cur left=ze0 n (zcy g29 g32 (zcz g29 g32 n mf) n n) g32 kd refs x2 (at':Int) x4 (k:Int) m l cur left:=rfl;rw[e0,ze0];have hd:decide ((k:Int)<x4)=true:=by rw[hx4];exact lt_t hlt
    simp only[hd,lt_t hlt,ge_t,cond_true,zaa];rcases zlw n g29 g32 (zcz g29 g32 n mf) kd x2 (at':Int) x4 refs m cur left l hl k hlt l.length 0 n (by omega) hn with ⟨e,hh⟩|⟨e,hh⟩
    · exact .inl ⟨e,fun hq=>hh fun j _ h2=>hq k (Nat.le_refl _) hlt j h2⟩
    · have e:=show zcy g29 g32 (zcz g29 g32 n mf) n n kd (k:Int) refs x2 (at':Int) x4 (k:Int) (l.length:Int) 0 m l (l.getD k b2).1 (l.getD k b2).2 cur left=_ from e;rw[e];rcases ih with ⟨e2,hq⟩|⟨e2,hq⟩
      · exact .inl ⟨e2,fun hr=>hq fun i h1 h2=>hr i (by omega) h2⟩
      · refine .inr ⟨e2,fun i h1 h2 j h3=>?_⟩
        by_cases hi:i=k
        · subst hi;exact hh j (Nat.zero_le _) h3
        · exact hq i (by omega) h2 j h3
def CCv(T:Int→Int→List (Bool×Bool))(kd:Int)(refs:List Int)(a:Nat):Prop:=((T kd a).length:Int)=refs.getD a 0∧prB (T kd a)
theorem zf4(n:Nat)(g29:GF29)(T:Int→Int→List (Bool×Bool))(kd:Int)(refs:List Int)(cur left:Lf)(hr:refs.length≤100000)(hT:∀ a:Nat,(T kd a).length≤100000∧(T kd a).length<n) :
    ∀ (d k mf:Nat) (m:Mp),k+d=refs.length→d<mf→(∀ a:Nat,k≤a→a<refs.length→gok m kd a=true∧gvl m kd a=T kd a) →
      ((zdz g29 n mf kd refs (refs.length:Int) (k:Int) m cur left=some ((false,()),())∧¬ ∀ a,k≤a→a < refs.length→CCv T kd refs a) ∨
       (∃ m',zdz g29 n mf kd refs (refs.length:Int) (k:Int) m cur left=g29 m' cur left∧(∀ a,k≤a→a<refs.length→CCv T kd refs a)∧∀ k' a',k'≠kd→gvl m' k' a'=gvl m k' a'∧gok m' k' a'=gok m k' a'))
  |_,k,0,m,_,h,_=>by omega
  |0,k,mf+1,m,hk,h,_=>by
    obtain rfl:k=refs.length:=by omega
    right;refine⟨m,?_,(fun a h1 h2=>by omega),fun _ _ _=>⟨rfl,rfl⟩⟩;show ze1 n _ _ _ _ _ _ _ _ _=_;simp only[ze1,lt_f,cond_false]
  |d+1,k,mf+1,m,hk,h,hm=>by
    have hlt:k<refs.length:=by omega
    obtain⟨hgo,hgv⟩:=hm k (Nat.le_refl _) hlt;have hTk:=hT k
    have ih:=zf4 n g29 T kd refs cur left hr hT d (k + 1) mf (gol m kd k) (by omega) (by omega) (fun a h1 h2=>by
      obtain⟨e1,e2⟩:=ztm kd k kd a (fun hh=>by have:=hh.2;omega) m;rw[e1,e2]
      exact hm a (by omega) h2)
    have e0:zdz g29 n (mf+1) kd refs (refs.length:Int) (k:Int) m cur left=ze1 n (zcz g29 (zdz g29 n mf) n n) g29 kd refs (refs.length:Int) (k:Int) m cur left:=rfl;rw[e0,ze1];simp only[lt_t hlt,ge_t,cond_true,zaa,hgo,hgv]
    by_cases hc:((T kd k).length:Int)=refs.getD k 0
    · simp only[decide_eq_true hc,Bool.not_true,cond_false];rcases zlx n g29 (zdz g29 n mf) kd (refs.length:Int) ((T kd k).length:Int) k (by omega) refs (gol m kd k) cur left (T kd k) hTk.1 hTk.2 rfl (T kd k).length 0 n (by omega) hTk.2 with ⟨e,hh⟩|⟨e,hh⟩
      · refine .inl ⟨e,fun hq=>hh fun i _ hi j hj hne ho=>?_⟩;exact(hq k (Nat.le_refl _) hlt).2 i j hi hj hne ho
      · have e:=show zcz g29 (zdz g29 n mf) n n kd refs (refs.length:Int) (k:Int) ((T kd k).length:Int) 0 (gol m kd k) (T kd k) cur left=_ from e;rw[e];have hcc:CCv T kd refs k:=⟨hc,fun i j hi hj hne ho=>hh i (Nat.zero_le _) hi j hj hne ho⟩;rcases ih with ⟨e2,hq⟩|⟨m',e2,hq,hp⟩
        · exact .inl ⟨e2,fun hr=>hq fun a h1 h2=>hr a (by omega) h2⟩
        · refine .inr ⟨m',e2,fun a h1 h2=>?_,fun k' a' hne=>?_⟩
          · by_cases ha:a=k
            · subst ha;exact hcc
            · exact hq a (by omega) h2
          · obtain⟨e3,e4⟩:=hp k' a' hne;obtain⟨e5,e6⟩:=ztm kd k k' a' (fun hh=>hne hh.1) m;exact⟨e3.trans e5,e4.trans e6⟩
    · simp only[decide_eq_false hc,Bool.not_false,cond_true];exact .inl ⟨trivial,fun hq=>hc (hq k (Nat.le_refl _) hlt).1⟩
theorem zvn{left:Lf}(hnd:(left.map (·.1)).Nodup){i:Nat}(hi:i<left.length){x:Int×List ByteArray×List Int}(hx:x∈left.eraseIdx i):x.1≠(left.getD i (0,[],[])).1:=fun e=>by
 obtain⟨j,hji,hj⟩:=List.mem_eraseIdx_iff_getElem?.1 hx;obtain⟨hjl,hjx⟩:=(List.getElem?_eq_some_iff.1 hj);have ei:left.getD i (0,[],[])=left[i]:=by rw[List.getD_eq_getElem?_getD,List.getElem?_eq_getElem hi];rfl
 have hp:=List.pairwise_iff_getElem.1 hnd;rw[ei,← hjx]at e;rcases Nat.lt_or_gt_of_ne hji with hlt|hlt
 ·have:=hp j i (by simpa using hjl) (by simpa using hi) hlt;simp only[List.getElem_map]at this;exact this e
 ·have:=hp i j (by simpa using hi) (by simpa using hjl) hlt;simp only[List.getElem_map]at this;exact this e.symm
theorem zf5(n:Nat)(T:Int→Int→List (Bool×Bool))(hT:∀ kd (a:Nat),(T kd a).length≤100000∧(T kd a).length<n) :
  ∀ (c mf:Nat) (m:Mp) (cur left:Lf),left.length=c→c<mf→(left.map (·.1)).Nodup→(∀ x∈left,x.2.2.length≤100000∧x.2.2.length<n)→(∀ x∈left,∀ a:Nat,gok m x.1 a=true∧gvl m x.1 a=T x.1 a) →
   ∃ b,zf6 n mf m cur left=some ((b,()),())∧(b=true↔∀ x∈left,∀ a,a<x.2.2.length→CCv T x.1 x.2.2 a)
 |_,0,_,_,_,_,h,_,_,_=>by omega
 |0,mf+1,m,cur,left,hc,_,_,_,_=>by
  have:left=[]:=List.length_eq_zero_iff.1 hc;subst this;exact⟨true,rfl,iff_of_true rfl fun x hx=>by cases hx⟩
 |c+1,mf+1,m,cur,left,hc,hf,hnd,hlen,hm=>by
  by_cases hall:∀ x∈left,∀ a,a<x.2.2.length→CCv T x.1 x.2.2 a
  ·refine⟨true,?_,iff_of_true rfl hall⟩;show ze2 n _ _ _ _=_;rw[ze2,decide_eq_false (show ¬ left.length=0 by omega)];simp only[cond_false];refine ya4 (by omega) fun i hi=>?_;have hx:left.getD i (0,[],[])∈left:=zag hi;rcases zf4 n (zf6 n mf) T (left.getD i (0,[],[])).1 (left.getD i (0,[],[])).2.2 [left.getD i (0,[],[])] (left.eraseIdx i) (hlen _ hx).1 (hT _) (left.getD i (0,[],[])).2.2.length 0 n m (by omega) (hlen _ hx).2 (fun a _ _=>hm _ hx a) with ⟨e,hh⟩|⟨m',e,hh,hp⟩
   ·exact(hh fun a _ h2=>hall _ hx a h2).elim
   ·refine e.trans ?_
    obtain ⟨b,e2,hb⟩:=zf5 n T hT c mf m' [left.getD i (0,[],[])] (left.eraseIdx i) (by rw [List.length_eraseIdx_of_lt hi]; omega) (by omega) (hnd.sublist ((List.eraseIdx_sublist _ _).map _)) (fun x hx=>hlen x ((List.eraseIdx_sublist _ _).subset hx)) (fun x hx a=>by
     have hne:=zvn hnd hi hx;obtain⟨e3,e4⟩:=hp x.1 a hne;rw[e3,e4]
     exact hm x ((List.eraseIdx_sublist _ _).subset hx) a)
    rw[e2,hb.2 fun x hx=>hall x ((List.eraseIdx_sublist _ _).subset hx)]
  ·refine⟨false,?_,iff_of_false (by simp) hall⟩;show ze2 n _ _ _ _=_;rw[ze2,decide_eq_false (show ¬ left.length=0 by omega)];simp only[cond_false];refine ya4 (by omega) fun i hi=>?_;have hx:left.getD i (0,[],[])∈left:=zag hi;rcases zf4 n (zf6 n mf) T (left.getD i (0,[],[])).1 (left.getD i (0,[],[])).2.2 [left.getD i (0,[],[])] (left.eraseIdx i) (hlen _ hx).1 (hT _) (left.getD i (0,[],[])).2.2.length 0 n m (by omega) (hlen _ hx).2 (fun a _ _=>hm _ hx a) with ⟨e,hh⟩|⟨m',e,hh,hp⟩
   ·exact e
   ·refine e.trans ?_
    obtain ⟨b,e2,hb⟩:=zf5 n T hT c mf m' [left.getD i (0,[],[])] (left.eraseIdx i) (by rw [List.length_eraseIdx_of_lt hi]; omega) (by omega) (hnd.sublist ((List.eraseIdx_sublist _ _).map _)) (fun x hx=>hlen x ((List.eraseIdx_sublist _ _).subset hx)) (fun x hx a=>by
     have hne:=zvn hnd hi hx;obtain⟨e3,e4⟩:=hp x.1 a hne;rw[e3,e4]
     exact hm x ((List.eraseIdx_sublist _ _).subset hx) a)
    rw[e2]
    cases hbb:b with
    |false=>rfl
    |true =>
     refine(hall fun x hxl=>?_).elim;have:=hb.1 hbb;obtain⟨j,hjl,rfl⟩:=List.getElem_of_mem hxl
     by_cases hji:j=i
     ·subst hji;have ei:left.getD j (0,[],[])=left[j]:=by rw[List.getD_eq_getElem?_getD,List.getElem?_eq_getElem hjl];rfl
      rw[ei]at hh;exact fun a ha=>hh a (Nat.zero_le _) ha
     ·exact this _ (List.mem_eraseIdx_iff_getElem?.2 ⟨j,hji,List.getElem?_eq_getElem hjl⟩)
def RwC(n:Nat)(R W:List Int)(s:Sp):Prop:=(s.1=false→s.2.1=[]∧s.2.2=[])∧(s.1=true→aok n s.2.1=true∧s.2.2.length=16∧∀ i,i<16→CkV R W s.2.1 i (s.2.2.getD i z4))
theorem zqa{S:List Sp}(h:∀ s∈S,s.2.2.length≤16)(kd a:Int):told kd a S≤16*S.length:=by
 induction S with
 |nil=>exact Nat.zero_le _
 |cons s S ih =>
  rw[zbv];have h1:=ih (fun t ht=>h t (List.mem_cons_of_mem _ ht));have h2:=zsb kd a s.2.2;have h3:=h s List.mem_cons_self;simp only[List.length_cons];omega
theorem zn0(n:Nat)(hn:2000≤n)(S S1:List Sp)(t1 t2:List ByteArray)(R W:List Int)(hR:R.length≤1000)(hW:W.length≤1000)(h:Int)(hS:S.length≤5)(hA:∀ s∈S,s.2.1.length<n∧s.2.1.length≤4000000) :
  ∀ (rest done:List Sp) (mf:Nat) (m:Mp),done++rest=S→rest.length<mf→Tells m (fun k a=>tl k a done)→(∀ s∈done,s.2.2.length≤16) →
   ∃ b,zd3 n mf S (S.length:Int) (done.length:Int) t1 R t2 W S1 h m=some ((b,()),())∧(b=true↔(∀ s∈rest,RwC n R W s)∧(∀ a,a<R.length→CCv (fun k a=>tl k a S) 1 R a)∧(∀ a,a<W.length→CCv (fun k a=>tl k a S) 2 W a))
 |_,_,0,_,_,h,_,_=>by omega
 | [],done,mf+1,m,hd,_,hT,hl=>by
  have hd:done=S:=by simpa using hd
  subst hd
  have hb:∀ kd (a:Nat),(tl kd a done).length≤100000∧(tl kd a done).length<n:=fun kd a=>by
   rw[zkg];have:=zqa hl kd a;omega
  obtain ⟨b,e,f⟩:=zf5 n (fun k a=>tl k a done) hb 2 n m [] ([((1:Int),t1,R)] ++ [((2:Int),t2,W)]) rfl (by omega) (by simp) (fun x hx=>by
   have hx:x=(1,t1,R)∨x=(2,t2,W):=by simpa using hx
   rcases hx with rfl|rfl
   ·exact⟨show R.length≤100000 by omega,show R.length<n by omega⟩
   ·exact⟨show W.length≤100000 by omega,show W.length<n by omega⟩) (fun x hx a=>by
   have hx:x=(1,t1,R)∨x=(2,t2,W):=by simpa using hx
   rcases hx with rfl|rfl
   ·exact hT 1 a (by decide)
   ·exact hT 2 a (by decide))
  refine⟨b,?_,f.trans ⟨fun hh=>⟨(fun s hs=>by cases hs),fun a ha=>hh (1,t1,R) (by simp) a ha,fun a ha=>hh (2,t2,W) (by simp) a ha⟩,fun hh x hx a ha=>?_⟩⟩
  ·show zia n _ _ _ _ _ _ _ _ _ _ _ _ _=_;rw[zia,lt_f];simp only[cond_false];exact e
  ·have hx:x=(1,t1,R)∨x=(2,t2,W):=by simpa using hx
   rcases hx with rfl|rfl
   ·exact hh.2.1 a ha
   ·exact hh.2.2 a ha
 |s::rest,done,mf+1,m,hd,hf,hT,hl=>by
  have hlt:done.length<S.length:=by rw[← hd];simp
  have hg:S.getD done.length (false,[],[])=s:=by rw[← hd];exact zbt _ _ _ _
  have hsm:s∈S:=by rw[← hd];simp
  have ih:=fun m hT hl=>zn0 n hn S S1 t1 t2 R W hR hW h hS hA rest (done++[s]) mf m (by simpa using hd) (by simp at hf;omega) hT hl;simp only[List.length_append,List.length_cons,List.length_nil,Nat.zero_add]at ih;have e0:zd3 n (mf+1) S (S.length:Int) (done.length:Int) t1 R t2 W S1 h m=zia n (zd3 n mf) (za9 (zd3 n mf) n n) (zf6 n n) S (S.length:Int) (done.length:Int) t1 R t2 W S1 h m:=rfl;rw[e0,zia];simp only[lt_t hlt,ge_t,cond_true,zaa,hg,wS (show done.length≤1000000 by omega)]
  have nxt:∀ m',RwC n R W s→Tells m' (fun k a=>tl k a (done++[s]))→s.2.2.length≤16→∃ b,zd3 n mf S (S.length:Int) ((done.length+1:Nat):Int) t1 R t2 W S1 h m'=some ((b,()),())∧(b=true↔(∀ t∈s::rest,RwC n R W t)∧(∀ a,a<R.length→CCv (fun k a=>tl k a S) 1 R a)∧(∀ a,a<W.length→CCv (fun k a=>tl k a S) 2 W a)):=fun m' hc hT' hl'=>by
   obtain ⟨b,e,f⟩:=ih m' hT' (fun t ht=>by
    rcases List.mem_append.1 ht with ht|ht
    ·exact hl t ht
    ·rw[List.mem_singleton.1 ht];exact hl')
   exact ⟨b,e,f.trans ⟨fun hh=>⟨fun t ht=>by
    rcases List.mem_cons.1 ht with rfl|ht
    ·exact hc
    ·exact hh.1 t ht,hh.2⟩,fun hh=>⟨fun t ht=>hh.1 t (List.mem_cons_of_mem _ ht),hh.2⟩⟩⟩
  have no:¬ RwC n R W s→∃ b,(some ((false,()),()):Option R17)=some ((b,()),())∧(b=true↔(∀ t∈s::rest,RwC n R W t)∧(∀ a,a<R.length→CCv (fun k a=>tl k a S) 1 R a)∧(∀ a,a<W.length→CCv (fun k a=>tl k a S) 2 W a)):=fun hc =>
   ⟨false,rfl,iff_of_false (by simp) fun hh=>hc (hh.1 s List.mem_cons_self)⟩
  cases hb:s.1 with
  |false =>
   simp only[Bool.not_false,cond_true]
   by_cases h1:s.2.1=[]
   ·have hd1:decide ((0:Int)<((List.length s.2.1:Nat):Int))=false:=by rw[h1];rfl
    rw[hd1];simp only[cond_false]
    by_cases h2:s.2.2=[]
    ·have hd2:decide ((0:Int)<((List.length s.2.2:Nat):Int))=false:=by rw[h2];rfl
     rw[hd2];simp only[cond_false];refine nxt m ⟨fun _=>⟨h1,h2⟩,fun h=>by rw[hb]at h;cases h⟩ (hT.congr fun k a _=>?_) (by rw[h2];simp);rw[yg0,zcj,h2];simp[tlR,tl]
    ·have hd2:decide ((0:Int)<((List.length s.2.2:Nat):Int))=true:=decide_eq_true (by have:=List.length_pos_iff.2 h2;omega);rw[hd2];simp only[cond_true];exact no fun hc=>h2 (hc.1 hb).2
   ·have hd1:decide ((0:Int)<((List.length s.2.1:Nat):Int))=true:=decide_eq_true (by have:=List.length_pos_iff.2 h1;omega);rw[hd1];simp only[cond_true];exact no fun hc=>h1 (hc.1 hb).1
  |true =>
   simp only[Bool.not_true,cond_false];obtain⟨ha1,ha2⟩:=hA s hsm;obtain⟨e1,f1⟩:=zj3 n s.2.1 ha1 ha2;rw[zx7,e1];simp only[Option.bind_some]
   cases hk:aok n s.2.1 with
   |false=>exact no fun hc=>by have:=(hc.2 hb).1;rw[hk]at this;cases this
   |true =>
    simp only[Bool.not_true,cond_false]
    by_cases h16:((List.length s.2.2:Nat):Int)=16
    ·have h16':s.2.2.length=16:=by omega
     rw[decide_eq_true h16];simp only[Bool.not_true,cond_false];have hq:∀ b,q60 n (s.2.1,b,())=some ((at2 s.2.1 b,()),()):=fun b=>yg8 n hn s.2.1 b (by have:=f1 hk;omega) (by rw[e1,hk])
     rcases zly n (zd3 n mf) S S1 (S.length:Int) done.length (by omega) t1 t2 R W (by omega) (by omega) h true s.2.1 s.2.2 s.2.2 (by omega) hq s.2.2 [] n m (fun k a=>tl k a done) rfl (by omega) hT (fun k a=>by
      rw[zkg];have:=zqa hl k a
      omega) with ⟨e,hh⟩|⟨m',e,hh,hT'⟩
     ·have e:=show za9 (zd3 n mf) n n S (S.length:Int) (done.length:Int) s.2.2 (s.2.2.length:Int) 0 t1 R t2 W S1 h m true s.2.1 s.2.2=_ from e;rw[e];exact no fun hc=>hh fun i _ hi=>(hc.2 hb).2.2 i (by omega)
     ·have e:=show za9 (zd3 n mf) n n S (S.length:Int) (done.length:Int) s.2.2 (s.2.2.length:Int) 0 t1 R t2 W S1 h m true s.2.1 s.2.2=_ from e;rw[e];refine nxt m' ⟨(fun h=>by rw[hb]at h;cases h),fun _=>⟨hk,h16',fun i hi=>hh i (Nat.zero_le _) (by omega)⟩⟩ (hT'.congr fun k a _=>?_) (by omega);rw[yg0,zcj];simp[tl]
    ·rw[decide_eq_false h16];simp only[Bool.not_false,cond_true];exact no fun hc=>h16 (by have:=(hc.2 hb).2.1;omega)
theorem zj9{l:List Int}(hl:l.length=12){b:Int}:hasB l b=true↔(0≤b∧b<12)∧0<l.getD b.toNat 0:=by
 unfold hasB;rw[hl];simp only[Bool.and_eq_true,decide_eq_true_eq];constructor
 ·rintro ⟨⟨h1,h2⟩,h3⟩;exact⟨⟨h1,by omega⟩,h3⟩
 ·rintro ⟨⟨h1,h2⟩,h3⟩;exact⟨⟨h1,by omega⟩,h3⟩
theorem kd12{a:Int}(h:1≤a∧a≤2)(k:¬ a=1):a=2:=by omega
theorem yb_(n:Nat)(M:Me)(l1:M.1.2.length=12)(l2:M.2.1.2.length=12)(l5:M.2.2.1.length=5) :
  ((∀ s∈M.2.2.1,RwC n M.1.2 M.2.1.2 s)∧(∀ a,a<M.1.2.length→CCv (fun k a=>tl k a M.2.2.1) 1 M.1.2 a)∧(∀ a,a<M.2.1.2.length→CCv (fun k a=>tl k a M.2.2.1) 2 M.2.1.2 a))↔((∀ w,w<5→SpV n (rw' M.2.2.1 w))∧CnV M):=by
 have cc:∀ (kd:Int) (R:List Int),R.length=12→((∀ a,a<R.length→CCv (fun k a=>tl k a M.2.2.1) kd R a)↔∀ i:Nat,i<12→R.getD i 0=(told kd i M.2.2.1:Int)∧alnB (tl kd i M.2.2.1)=true):=fun kd R hR=>by
  rw[hR];constructor
  ·intro h i hi;obtain⟨h1,h2⟩:=h i hi;exact⟨by rw[← h1];simp only[zkg],(zvw _).2 h2⟩
  ·intro h i hi;obtain⟨h1,h2⟩:=h i hi;exact⟨by rw[h1];simp only[zkg],(zvw _).1 h2⟩
 rw[cc 1 _ l1,cc 2 _ l2];have sh:∀ (ar:List Ar) (i:Nat),0≤at2 ar i→shd ar i=(ar.getD (at2 ar i).toNat z4).2.2.2:=fun ar i h=>by unfold shd;rw[decide_eq_true h];rfl
 constructor
 ·rintro ⟨hr,hc1,hc2⟩;refine⟨fun w hw=>?_,hc1,hc2⟩;have h:=hr _ (zag (show w<M.2.2.1.length by omega):rw' M.2.2.1 w∈M.2.2.1);refine⟨h.1,fun hb=>⟨(h.2 hb).1,(h.2 hb).2.1,fun i hi=>?_⟩⟩;obtain⟨c1,c2⟩:=(h.2 hb).2.2 i hi;refine⟨⟨c1,fun h0=>?_⟩,fun h0=>?_⟩
  ·obtain⟨d1,d2,_,_,d5⟩:=c2 h0;exact⟨d1,d2,fun hs=>d5 ((sh _ _ d1).trans hs)⟩
  ·obtain⟨d1,d2,d3,d4,d5⟩:=c2 h0
   by_cases k1:((rw' M.2.2.1 w).2.2.getD i z4).1=1
   ·exact((zj9 l1).1 (d3 k1)).1
   ·exact((zj9 l2).1 (d4 (kd12 d2 k1))).1
 ·rintro ⟨hr,hc1,hc2⟩;refine⟨fun s hs=>?_,hc1,hc2⟩;obtain⟨w,hw,rfl⟩:=zx0 hs;have h:=hr w (by omega);refine⟨h.1,fun hb=>⟨(h.2 hb).1,(h.2 hb).2.1,fun i hi=>?_⟩⟩;obtain⟨⟨c1,c2⟩,c3⟩:=(h.2 hb).2.2 i hi;have hx:(rw' M.2.2.1 w).2.2.getD i z4∈(rw' M.2.2.1 w).2.2:=zag (by have:=(h.2 hb).2.1;omega);refine⟨c1,fun h0=>?_⟩;obtain⟨d1,d2,d3⟩:=c2 h0;obtain⟨a0,a1⟩:=c3 h0
  have pos:∀ (kd:Int) (R:List Int),(∀ i:Nat,i<12→R.getD i 0=(told kd i M.2.2.1:Int)∧alnB (tl kd i M.2.2.1)=true)→((rw' M.2.2.1 w).2.2.getD i z4).1=kd→0<R.getD ((rw' M.2.2.1 w).2.2.getD i z4).2.1.toNat 0:=fun kd R hc hk=>by
   obtain⟨j,hj⟩:=Int.eq_ofNat_of_zero_le a0;rw[hj,zaa,(hc j (by omega)).1];have:=zb3 hs hx (za0.2 ⟨hk,hj⟩);omega
  refine⟨d1,d2,fun k1=>(zj9 l1).2 ⟨⟨a0,a1⟩,pos 1 _ hc1 k1⟩,fun k2=>(zj9 l2).2 ⟨⟨a0,a1⟩,pos 2 _ hc2 k2⟩,fun hs=>d3 ((sh _ _ d1).symm.trans hs)⟩
theorem yj1(n:Nat)(hn:2000≤n)(M:Me)(hB:BgM n M):∃ b,q17 n (M,())=some ((b,()),())∧(b=true↔MV n M):=by
 show ∃ b,zju n _ M=_∧_;rw[zju];obtain⟨e1,f1⟩:=zf2 n hn M.1;obtain⟨e2,f2⟩:=zf2 n hn M.2.1;rw[show ((M.1.1,M.1.2):Pg)=M.1 from rfl,yg7,e1];simp only[Option.bind_some]
 cases hc1:pgB n M.1 with
 |false=>exact⟨_,rfl,iff_of_false (by simp) fun hv=>by have:=hv.p1;rw[hc1]at this;cases this⟩
 |true =>
  simp only[Bool.not_true,cond_false]
  by_cases h1:((M.1.2.length:Int)=12)
  ·rw[decide_eq_true h1];simp only[Bool.not_true,cond_false];rw[show ((M.2.1.1,M.2.1.2):Pg)=M.2.1 from rfl,yg7,e2];simp only[Option.bind_some]
   cases hc2:pgB n M.2.1 with
   |false=>exact⟨_,rfl,iff_of_false (by simp) fun hv=>by have:=hv.p2;rw[hc2]at this;cases this⟩
   |true =>
    simp only[Bool.not_true,cond_false]
    by_cases h2:((M.2.1.2.length:Int)=12)
    ·by_cases h3:((M.2.2.1.length:Int)=5)
     ·rw[decide_eq_true h2,decide_eq_true h3];simp only[Bool.not_true,cond_false];rw[zhi];simp only[Option.bind_some]
      cases hh:(decide ((0:Int)≤M.2.2.2)&&decide (M.2.2.2≤11)) with
      |false =>
       refine⟨_,rfl,iff_of_false (by simp) fun hv=>?_⟩;rw[decide_eq_true hv.h0,decide_eq_true hv.h1]at hh;cases hh
      |true =>
       simp only[Bool.not_true,cond_false];obtain⟨b,e,f⟩:=zn0 n hn M.2.2.1 M.2.2.1 M.1.1 M.2.1.1 M.1.2 M.2.1.2 (by omega) (by omega) M.2.2.2 (by omega) hB.r M.2.2.1 [] n [] rfl (by omega) (fun k a _=>⟨rfl,rfl⟩) (fun s hs=>by cases hs);have hh:=za_.1 hh;refine⟨b,e,f.trans ((yb_ n M (by omega) (by omega) (by omega)).trans ⟨fun hq=>⟨hc1,hc2,by omega,by omega,by omega,of_decide_eq_true hh.1,of_decide_eq_true hh.2,hq.1,hq.2⟩,fun hv=>⟨hv.sp,hv.cn⟩⟩)⟩
     ·rw[decide_eq_true h2,decide_eq_false h3];simp only[Bool.not_true,Bool.not_false,cond_false,cond_true];exact⟨_,rfl,iff_of_false (by simp) fun hv=>h3 (by have:=hv.l5;omega)⟩
    ·rw[decide_eq_false h2];simp only[Bool.not_false,cond_true];exact⟨_,rfl,iff_of_false (by simp) fun hv=>h2 (by have:=hv.l2;omega)⟩
  ·rw[decide_eq_false h1];simp only[Bool.not_false,cond_true];exact⟨_,rfl,iff_of_false (by simp) fun hv=>h1 (by have:=hv.l1;omega)⟩
noncomputable def okM(n:Nat)(M:Me):Bool:=match q53 n (M,()) with
 |some ((b,_),_)=>b
 |none=>false
theorem zoa(n:Nat)(hn:2000≤n)(M:Me)(hB:BgM n M):q53 n (M,())=some ((okM n M,()),())∧q17 n (M,())=some ((okM n M,()),())∧(okM n M=true↔MV n M):=by
 obtain⟨b,e,f⟩:=yjv n hn M hB;obtain⟨c,g,k⟩:=yj1 n hn M hB;have hb:okM n M=b:=by unfold okM;rw[e]
 have hbc:b=c:=by
  cases b <;> cases c <;> simp_all
 rw[hb];exact⟨e,by rw[hbc];exact g,f⟩
theorem MV.mw{n:Nat}{M:Me}(h:MV n M)(hn:2000≤n)(hB:BgM n M):MW M:=by
 have g1:=(zf2 n hn M.1).2 h.p1;have g2:=(zf2 n hn M.2.1).2 h.p2;have:=h.l1;have:=h.l2;have:=h.l5;refine⟨by omega,by omega,by omega,by omega,by omega,fun s hs=>?_⟩;obtain⟨i,hi,rfl⟩:=zx0 hs;have:=(h.sp i (by omega)).small (hB.r _ hs).1 (hB.r _ hs).2;omega
theorem MV.mi{n:Nat}{M:Me}(h:MV n M)(hn:2000≤n)(hB:BgM n M):MI M:=by
 obtain⟨b,e,f⟩:=zx8 n hn M (h.mw hn hB);obtain⟨e2,_,f2⟩:=zoa n hn M hB;rw[f2.2 h]at e2;rw[e2]at e;injection e with e
 injection e with e _
 injection e with e _
 exact f e.symm
theorem MW.bg{M:Me}(h:MW M){n:Nat}(hn:2000≤n):BgM n M:=⟨fun s hs=>by have:=h.r s hs;omega⟩
theorem zyf(n:Nat)(P:Pg)(h1:P.1.length≤1000)(h2:P.2.length≤1000):q112 n (P,())=some ((P,()),()):=by
 show zgr n P=_;rw[zgr,decide_eq_true (by omega),decide_eq_true (by omega)];rfl
theorem yot(n:Nat)(l:List Ar)(h:l.length≤1000):q87 n (l,())=some ((l,()),()):=by
 show cond (decide ((0+l.length)*(24:Nat)≤(140737488355328:Nat))) _ _=_;rw[decide_eq_true (by omega)];rfl
theorem yj6(n:Nat)(l:List Ar)(h:l.length≤1000):q113 n (l,())=some ((l,()),()):=by
 show cond (decide ((0+l.length)*(24:Nat)≤(140737488355328:Nat))) _ _=_;rw[decide_eq_true (by omega)];rfl
theorem zq_(n:Nat)(x3 x4:Int)(x5:List ByteArray)(x6:List Int)(x7:List ByteArray)(x8:List Int)(S:List Sp)(hs:S.length≤1000)(hr:∀ s∈S,s.2.1.length≤1000∧s.2.2.length≤1000):∀ (rest done:List Sp) (m:Nat),done++rest=S→rest.length<m →
  zra n m S (S.length:Int) (done.length:Int) x3 x4 x5 x6 x7 x8 done=some ((((x5,x6),((x7,x8),(S,x4))),()),())
 | [],done,0,hd,h=>by simp at h
 | [],done,m+1,hd,h=>by
  show zh3 n _ _ _ _ _ _ _ _ _ _ _=_;have hd':done=S:=by simpa using hd
  subst hd';simp only[zh3,lt_f,cond_false]
 |s::rest,done,0,hd,h=>by simp at h
 |s::rest,done,m+1,hd,h=>by
  have hl:done.length<S.length:=by rw[← hd];simp
  have hg:S.getD done.length (false,[],[])=s:=by rw[← hd];simp
  have hsm:s∈S:=by rw[← hd];simp
  show zh3 n _ _ _ _ _ _ _ _ _ _ _=_;simp only[zh3,lt_t hl,ge_t,cond_true,zaa,hg];rw[yot n s.2.1 (hr s hsm).1];simp only[Option.bind_some];rw[yj6 n s.2.2 (hr s hsm).2];simp only[Option.bind_some];have ih:=zq_ n x3 x4 x5 x6 x7 x8 S hs hr rest (done++[s]) m (by simpa using hd) (by simp at h;omega);simp only[List.length_append,List.length_cons,List.length_nil,Nat.zero_add]at ih;rw[decide_eq_true (by simp;omega)];simp only[cond_true];rw[wS (by omega)];exact ih
theorem yo1(n:Nat)(hn:2000≤n)(M:Me)(hM:MW M):q50 n (M,())=some ((M,()),()):=by
 have h1:=hM.a1;have h2:=hM.a2;have h3:=hM.b1;have h4:=hM.b2;have h5:=hM.s;show zjm n (zra n n) M=_;rw[zjm,show ((M.1.1,M.1.2):Pg)=M.1 from rfl,show ((M.2.1.1,M.2.1.2):Pg)=M.2.1 from rfl,zyf n M.1 (by omega) (by omega),zyf n M.2.1 (by omega) (by omega)];simp only[Option.bind_some];exact zq_ n 0 M.2.2.2 M.1.1 M.1.2 M.2.1.1 M.2.1.2 M.2.2.1 (by omega) (fun s hs=>by have:=hM.r s hs;omega) M.2.2.1 [] n rfl (by omega)
def Mz:Me:=(([],[]),([],[]),[],0)
def zw2(M:Me)(t:Nat):Me:=(M.1,M.2.1,M.2.2.1.set t (true,[],List.replicate (Int.toNat 16) (0,0,false,false)),M.2.2.2)
def liv(M:Me)(w:Int):Bool:=(decide (0≤w)&&decide (w≤(M.2.2.1.length:Int) - 1))&&(rw' M.2.2.1 w.toNat).1
theorem zte{M:Me}{w:Int}(h:liv M w=true):∃ k:Nat,w=(k:Int)∧k<M.2.2.1.length∧(rw' M.2.2.1 k).1=true:=by
 unfold liv at h;simp only[Bool.and_eq_true,decide_eq_true_eq]at h;obtain⟨⟨h1,h2⟩,h3⟩:=h;obtain⟨k,rfl⟩:=Int.eq_ofNat_of_zero_le h1;exact⟨k,rfl,by omega,by simpa using h3⟩
theorem yg_(n:Nat)(M:Me)(w:Int)(hs:M.2.2.1.length≤4000000):q49 n (M,w,())=some ((liv M w,()),()):=by
 show zjn n M w=_;rw[zjn,wr (by omega) (by omega),zhi];simp only[Option.bind_some,liv]
 by_cases h1:0≤w
 ·by_cases h2:w≤(M.2.2.1.length:Int) - 1
  ·rw[decide_eq_true h1,decide_eq_true h2,decide_eq_true (show w<(M.2.2.1.length:Int) by omega)];rfl
  ·rw[decide_eq_true h1,decide_eq_false h2];rfl
 ·rw[decide_eq_false h1];rfl
theorem yju(n:Nat)(M:Me)(w:Int)(hs:M.2.2.1.length≤4000000):q54 n (M,w,())=some ((liv M w,()),()):=by
 show zeu n M w=_;rw[zeu,wr (by omega) (by omega),zbp];simp only[Option.bind_some,liv]
 by_cases h1:0≤w
 ·by_cases h2:w≤(M.2.2.1.length:Int) - 1
  ·rw[decide_eq_true h1,decide_eq_true h2,decide_eq_true (show w<(M.2.2.1.length:Int) by omega)];rfl
  ·rw[decide_eq_true h1,decide_eq_false h2];rfl
 ·rw[decide_eq_false h1];rfl
def zfz(w:Nat):List Nat→Me→Me
 | [],M=>M
 |k::ks,M=>zfz w ks (lose M w k)
def rngL(k:Nat):Nat→List Nat
 |0=>[]
 |d+1=>k::rngL (k+1) d
theorem yeg(P:Pg)(k:Nat)(h1:k<P.1.length)(h2:k<P.2.length)(hr:0≤P.2.getD k 0∧P.2.getD k 0<1000):zwz P.1 P.2 (k:Int)=some (giv P k):=by
 unfold zwz giv;rw[ge_t,lt_t h2,lt_t h1,zaa,wr (by omega) (by omega)];simp only[cond_true]
 by_cases h:P.2.getD k 0 - 1=0
 ·rw[decide_eq_true h,if_pos h];rfl
 ·rw[decide_eq_false h,if_neg h];rfl
theorem zla(n:Nat)(P:Pg)(k:Nat)(h1:k<P.1.length)(h2:k<P.2.length)(hr:0≤P.2.getD k 0∧P.2.getD k 0<1000):zfk n (P,(k:Int),())=some ((),(giv P k,())):=by
 show (zwz P.1 P.2 (k:Int)).map (fun r=>(((),(r,())):zkc))=_;rw[yeg P k h1 h2 hr];rfl
structure GI(V:List Bo):Prop where
 dd:∀ i,i<V.length→(rb V i).1=false→rb V i=(false,[],[],[])
 ll:∀ i,i<V.length→(rb V i).1=true→(rb V i).2.2.1.length=16∧(rb V i).2.2.2.length=16
 gg:∀ i i' k k',i<V.length→i'<V.length→k<16→k'<16→(rb V i).1=true→(rb V i').1=true→(rb V i).2.2.1.getD k 0≠0→(rb V i').2.2.1.getD k' 0=(rb V i).2.2.1.getD k 0→(rb V i').2.2.2.getD k' ByteArray.empty=(rb V i).2.2.2.getD k ByteArray.empty∧((rb V i).2.2.2.getD k ByteArray.empty).size=4
theorem Fst.one{S:List Sp}(hS:SpI S){kd a kd' a' g:Int}(h:Fst S kd a g)(h':Fst S kd' a' g):kd=kd'∧a=a':=by
 obtain⟨i,k,h1,h2,h3,h4,_⟩:=h;obtain⟨i',k',h1',h2',h3',h4',_⟩:=h';have hk:=hS.lens i;have hk':=hS.lens i';have e1:i=i':=by omega
 have e2:k=k':=by omega
 subst e1;subst e2;have:=za0.1 h3;have:=za0.1 h3';omega
theorem VB.nil:VB []:=⟨by simp,fun b hb=>by simp at hb⟩
structure Chk(n:Nat)(V V':List Bo)(w p j:Nat)(g d:Int):Prop where
 st:∀ i k,i<5→k<64→(getB n V' i k).2=(getB n V i k).2
 kp:∀ i k,i<5→k<64→(¬((i=w∧k / 4=p)∨(g≠0∧(rb V i).2.2.1.getD (k / 4) 0=g))∨k % 4≠j∨(getB n V i k).2≠0)→(getB n V i k).1=(getB n V' i k).1
 nw:∀ i k,i<5→k<64→((i=w∧k / 4=p)∨(g≠0∧(rb V i).2.2.1.getD (k / 4) 0=g))→k % 4=j→(getB n V i k).2=0→(getB n V' i k).1=d
 ln:∀ i k,i<5→k<64→(getB n V i k).2=0→i<V.length∧k / 4<(rb V i).2.2.1.length
theorem yo2(n:Nat){l:List Int}(hl:∀ x∈l,0≤x∧x<256):∃ l',q45 n (l,())=some (((l',0),()),())∧Rd (l',0) 0:=by
 obtain⟨l',e,h⟩:=ypc n hl;exact⟨l',e,h,Int.le_refl _,Int.le_refl _⟩
theorem zih(n:Nat)(h0:Int)(M:Me)(hM:MW M):∀ (d i m b:Nat) (r:List Int×Int),i+d=M.2.2.1.length→d<m→Rd r b→b+3*d≤800000→∃ w r',znu n m h0 (i:Int) r.1 r.2 M.1.1 M.1.2 M.2.1.1 M.2.1.2 M.2.2.1 M.2.2.2=some ((w,()),(r',((M.1,M.2.1,M.2.2.1,h0),())))∧Rd r' (b+3*d+3)
 |_,i,0,b,r,_,h,_,_=>by omega
 |0,i,m+1,b,r,hi,h,hr,hb=>by
  have hs:=hM.s;obtain rfl:i=M.2.2.1.length:=by omega
  show ∃ w r',zh4 n _ _ _ _ _ _ _ _ _ _ _=_∧_;simp only[zh4,lt_f,cond_false];obtain⟨v,p1,a1,b1,hr1⟩:=hr.pick (by omega) n 8 (by decide);have p1':q48 n ((r.1,r.2),8,())=some ((v,()),((r.1,r.2+1),())):=p1;rw[p1'];simp only[Option.bind_some,decide_eq_true a1,cond_true,show decide (v<(([0,0,0,1,2,4,-1,5]:List Int).length:Int))=true from decide_eq_true b1];exact⟨_,_,rfl,hr1.up (by omega)⟩
 |d+1,i,m+1,b,r,hi,h,hr,hb=>by
  have hs:=hM.s;have hl:i<M.2.2.1.length:=by omega
  have e0:znu n (m+1) h0 (i:Int) r.1 r.2 M.1.1 M.1.2 M.2.1.1 M.2.1.2 M.2.2.1 M.2.2.2=zh4 n (znu n m) h0 (i:Int) r.1 r.2 M.1.1 M.1.2 M.2.1.1 M.2.1.2 M.2.2.1 M.2.2.2:=rfl;rw[e0,zh4];obtain⟨v,p1,a1,b1,hr1⟩:=hr.pick (by omega) n 8 (by decide);have p1':q48 n ((r.1,r.2),8,())=some ((v,()),((r.1,r.2+1),())):=p1;simp only[lt_t hl,cond_true];rw[p1'];simp only[Option.bind_some,ge_t,cond_true,zaa,wS (show i≤1000000 by omega)]
  cases decide (0<v) with
  |false =>
   simp only[cond_false];obtain⟨v2,p2,a2,b2,hr2⟩:=hr1.pick (by omega) n 8 (by decide);rw[p2];simp only[Option.bind_some,decide_eq_true a2,cond_true,show decide (v2<(([0,0,0,1,2,4,-1,5]:List Int).length:Int))=true from decide_eq_true b2];exact⟨_,_,rfl,hr2.up (by omega)⟩
  |true =>
   simp only[cond_true]
   cases (M.2.2.1.getD i (false,[],[])).1 with
   |false =>
    obtain⟨w,r',e,hr'⟩:=zih n h0 M hM d (i+1) m (b+1) (r.1,r.2+1) (by omega) (by omega) hr1 (by omega);exact⟨w,r',e,hr'.up (by omega)⟩
   |true =>
    simp only[cond_true];obtain⟨v2,p2,a2,b2,hr2⟩:=hr1.pick (by omega) n 2 (by decide);rw[p2];simp only[Option.bind_some]
    cases decide (v2=0) with
    |true=>exact⟨_,_,rfl,hr2.up (by omega)⟩
    |false =>
     obtain⟨w,r',e,hr'⟩:=zih n h0 M hM d (i+1) m (b+2) (r.1,r.2+1+1) (by omega) (by omega) hr2 (by omega);exact⟨w,r',e,hr'.up (by omega)⟩
theorem yjw(n:Nat)(hn:2000≤n)(r:List Int×Int)(b:Nat)(hr:Rd r b)(hb:b≤700000)(M:Me)(hM:MW M):∃ w r',q47 n (r,M,())=some ((w,()),(r',(M,())))∧Rd r' (b+400):=by
 have hs:=hM.s;obtain⟨w,r',e,h⟩:=zih n M.2.2.2 M hM M.2.2.1.length 0 n b r (by omega) (by omega) hr (by omega);exact⟨w,r',e,h.up (by omega)⟩
theorem yo7{l:List Int}(hl:∀ x∈l,0≤x∧x<256):∃ M w f q,q12 2000 (l,())=some ((M,(w,(f,(q,())))),())∧MW M∧(-1≤f∧f<17)∧(0≤q∧q<6):=by
 have e0:q12 2000 (l,())=zj0 2000 l:=rfl;rw[e0,zj0];obtain⟨l',e1,h1⟩:=yo2 2000 hl;rw[e1];simp only[Option.bind_some];obtain⟨M,r,e2,h2,h3⟩:=yjx (l',0) h1;rw[e2];simp only[Option.bind_some];obtain⟨w,r',e3,h4⟩:=yjw 2000 (by omega) r 6000 h3 (by omega) M h2;rw[e3];simp only[Option.bind_some];obtain⟨v,p1,a1,b1,hr1⟩:=h4.pick (by omega) 2000 18 (by decide);rw[p1];simp only[Option.bind_some];obtain⟨v2,p2,a2,b2,hr2⟩:=hr1.pick (by omega) 2000 6 (by decide);rw[p2];have ew:IntKind.i64.wrap (v - 1)=v - 1:=wr (by omega) (by omega);exact⟨M,w,IntKind.i64.wrap (v - 1),v2,rfl,h2,⟨by rw[ew];exact Int.sub_le_sub_right a1 1,by rw[ew];exact Int.lt_of_lt_of_le (Int.sub_lt_self v (by decide)) (Int.le_of_lt_add_one b1)⟩,a2,b2⟩
theorem zum(n:Nat)(hn:2000≤n)(P:Pg)(h1:P.1.length≤1000)(h2:P.2.length≤1000):q57 n (P,P,())=some ((true,()),()):=by
 show zjj n P P=_;rw[zjj,yci n hn P.1 h1];simp only[Option.bind_some,cond_true];rw[zyg n hn P.2 h2];rfl
theorem zll(n:Nat)(a b:Bool)(c d l:List Ar)(hl:l.length≤1000):∀ (e k m:Nat),k+e=l.length→e<m→zq4 n m (k:Int) a c l b d l=some ((true,()),())
 |_,k,0,_,h=>by omega
 |0,k,m+1,hk,h=>by
  obtain rfl:k=l.length:=by omega
  show zh0 n _ _ _ _ _ _ _ _=_;simp only[zh0,lt_f,cond_false]
 |e+1,k,m+1,hk,h=>by
  have hlt:k<l.length:=by omega
  have ih:=zll n a b c d l hl e (k+1) m (by omega) (by omega);show zh0 n _ _ _ _ _ _ _ _=_;simp only[zh0,lt_t hlt,ge_t,cond_true,zaa,decide_true,BEq.rfl,Bool.and_self,Bool.not_true,cond_false,wS (show k≤1000000 by omega),ih]
theorem ycg(n:Nat)(hn:2000≤n)(s:Sp)(h1:s.2.1.length≤1000)(h2:s.2.2.length≤1000):q58 n (s,s,())=some ((true,()),()):=by
 show zji n (zq4 n n) s s=_;rw[zji,ych n hn s.2.1 h1];have e:(!s.1 == s.1)=false:=by cases s.1 <;> rfl
 simp only[Option.bind_some,e,cond_false,Bool.not_true,decide_true];exact zll n s.1 s.1 s.2.1 s.2.1 s.2.2 h2 s.2.2.length 0 n (by omega) (by omega)
theorem zl2(n:Nat)(hn:2000≤n)(x1 x7 x3 x9:List ByteArray)(x2 x8 x4 x10:List Int)(x6 x12:Int)(S:List Sp)(hS:S.length≤1000)(hr:∀ s∈S,s.2.1.length≤1000∧s.2.2.length≤1000):∀ (e k m:Nat),k+e=S.length→e<m→zrf n m (k:Int) x1 x2 x3 x4 S x6 x7 x8 x9 x10 S x12=some ((true,()),())
 |_,k,0,_,h=>by omega
 |0,k,m+1,hk,h=>by
  obtain rfl:k=S.length:=by omega
  show zib n _ _ _ _ _ _ _ _ _ _ _ _ _ _=_;simp only[zib,lt_f,cond_false]
 |e+1,k,m+1,hk,h=>by
  have hlt:k<S.length:=by omega
  have ih:=zl2 n hn x1 x7 x3 x9 x2 x8 x4 x10 x6 x12 S hS hr e (k+1) m (by omega) (by omega);have hk':=hr _ (zag (d:=(false,[],[])) hlt);show zib n _ _ _ _ _ _ _ _ _ _ _ _ _ _=_;simp only[zib,lt_t hlt,ge_t,cond_true,zaa];rw[show ((((S.getD k (false,[],[])).1,(S.getD k (false,[],[])).2.1,(S.getD k (false,[],[])).2.2):Sp))=S.getD k (false,[],[]) from rfl,ycg n hn _ hk'.1 hk'.2];simp only[Option.bind_some,Bool.not_true,cond_false,wS (show k≤1000000 by omega),ih]
theorem zo4(n:Nat)(hn:2000≤n)(M:Me)(hM:MW M):q15 n (M,M,())=some ((true,()),()):=by
 have h1:=hM.a1;have h2:=hM.a2;have h3:=hM.b1;have h4:=hM.b2;have h5:=hM.s;show zjx n (zrf n n) M M=_;rw[zjx,show ((M.1.1,M.1.2):Pg)=M.1 from rfl,show ((M.2.1.1,M.2.1.2):Pg)=M.2.1 from rfl,zum n hn M.1 (by omega) (by omega),zum n hn M.2.1 (by omega) (by omega)];simp only[Option.bind_some,Bool.not_true,cond_false,decide_true];exact zl2 n hn _ _ _ _ _ _ _ _ _ _ M.2.2.1 (by omega) (fun s hs=>by have:=hM.r s hs;omega) M.2.2.1.length 0 n (by omega) (by omega)
theorem ygz(kd a:Int)(s':Sp):∀ (S:List Sp) (t:Nat),tlR kd a s'.2.1 0 s'.2.2=tlR kd a (rw' S t).2.1 0 (rw' S t).2.2→tl kd a (S.set t s')=tl kd a S
 | [],t,_=>rfl
 |s::S,0,h=>by
  have h:tlR kd a s'.2.1 0 s'.2.2=tlR kd a s.2.1 0 s.2.2:=h;rw[List.set_cons_zero,zcj,zcj,h]
 |s::S,t+1,h=>by
  rw[List.set_cons_succ,zcj,zcj,ygz kd a s' S t (by simpa [rw'] using h)]
theorem zt_{kd a:Int}(hk:kd≠0)(ar:List Ar):∀ (k p:Nat),tlR kd a ar p (List.replicate k z4)=[]
 |0,p=>rfl
 |k+1,p=>by
  have:isT kd a z4=false:=by simp[isT,Ne.symm hk]
  rw[List.replicate_succ,tlR,this,cond_false,zt_ hk ar k (p+1)]
theorem ymp{n:Nat}(hn:2000≤n):aok n []=true:=by
 obtain⟨m,rfl⟩:∃ m,n=m+1:=⟨n - 1,by omega⟩
 have:q127 (m+1) ([],())=some ((true,()),()):=by
  show za5 (m+1) (zc0 (m+1) m) [] 0=_;rw[za5];rfl
 unfold aok;rw[this]
theorem MV.fill{n:Nat}{M:Me}(h:MV n M)(hn:2000≤n){t:Nat}(ht:t<5)(hd:(rw' M.2.2.1 t).1=false):MV n (zw2 M t):=by
 have h5:=h.l5;have ht':t<M.2.2.1.length:=by omega
 have hz:=(h.sp t ht).1 hd
 have ct:∀ kd a:Int,kd≠0→tl kd a (M.2.2.1.set t (true,[],List.replicate (Int.toNat 16) z4))=tl kd a M.2.2.1:=fun kd a hk=>by
  refine ygz kd a _ _ _ ?_;rw[hz.2];exact zt_ hk [] _ 0
 have cd:∀ kd a:Int,kd≠0→told kd a (M.2.2.1.set t (true,[],List.replicate (Int.toNat 16) z4))=told kd a M.2.2.1:=fun kd a hk=>by
  rw[← zkg,← zkg,ct kd a hk]
 refine⟨h.p1,h.p2,h.l1,h.l2,by simp[zw2,h5],h.h0,h.h1,fun w hw=>?_,⟨fun i hi=>?_,fun i hi=>?_⟩⟩
 ·show SpV n (rw' (M.2.2.1.set t _) w)
  by_cases e:w=t
  ·subst e;rw[rw',zay ht'];refine⟨fun h=>(by cases h),fun _=>⟨ymp hn,by simp,fun i hi=>?_⟩⟩
   have:(List.replicate (Int.toNat 16) z4).getD i z4=z4:=by
    rw[List.getD_eq_getElem?_getD,List.getElem?_replicate];split <;> rfl
   show SlV [] i ((List.replicate (Int.toNat 16) z4).getD i z4)∧AtOk ((List.replicate (Int.toNat 16) z4).getD i z4);rw[this];exact⟨⟨fun _=>rfl,fun h=>absurd rfl h⟩,fun h=>absurd rfl h⟩
  ·rw[rw',getD_set_ne ht' e];exact h.sp w hw
 ·show M.1.2.getD i 0=_∧_;simp only[zw2];rw[cd 1 i (by decide),ct 1 i (by decide)];exact h.cn.1 i hi
 ·show M.2.1.2.getD i 0=_∧_;simp only[zw2];rw[cd 2 i (by decide),ct 2 i (by decide)];exact h.cn.2 i hi
theorem MW.fill {M:Me} (h:MW M) (t:Nat):MW (zw2 M t):=⟨h.a1,h.a2,h.b1,h.b2,by simp only [zw2,List.length_set]; exact h.s,fun s hs=>by
 rcases List.mem_or_eq_of_mem_set hs with hs|rfl
 ·exact h.r s hs
 ·simp⟩
theorem MW.z:MW Mz:=⟨by decide,by decide,by decide,by decide,by decide,fun s hs=>by cases hs⟩
theorem ymk{x:Int}(h:(Lit.int .u8 x).wf=true):0≤x∧x<256:=by
 simp only[Lit.wf,Bool.and_eq_true,decide_eq_true_eq,IntKind.min,IntKind.max,IntKind.signed,IntKind.bits,Bool.false_eq_true,if_false]at h;omega
theorem allS{Q:Nat→Prop}{k n:Nat}(h:k<n):(∀ i,k≤i→i<n→Q i)↔Q k∧∀ i,k+1≤i→i<n→Q i :=
 ⟨fun f=>⟨f k (Nat.le_refl k) h,fun i h1 h2=>f i (by omega) h2⟩,fun f i h1 h2=>by
  rcases Nat.eq_or_lt_of_le h1 with rfl|h3
  ·exact f.1
  ·exact f.2 i h3 h2⟩
def PgK(P:Pg)(i:Nat):Prop:=(0≤P.2.getD i 0∧P.2.getD i 0≤99)∧(P.2.getD i 0=0→(P.1.getD i ByteArray.empty).size=0)∧(P.2.getD i 0≠0→(P.1.getD i ByteArray.empty).size=4)
theorem zga(n:Nat)(t:List ByteArray)(l:List Int)(htl:t.length=l.length)(hs:l.length≤1000):∀ (d k m:Nat),k+d=l.length→d<m→∃ b,zb4 n m (k:Int) t l=some ((b,()),())∧(b=true↔∀ i,k≤i→i<l.length→PgK (t,l) i)
 |_,k,0,_,h=>by omega
 |0,k,m+1,hk,h=>by
  obtain rfl:k=l.length:=by omega
  have e:decide (((l.length:Nat):Int)<((t.length:Nat):Int))=false:=by rw[htl];exact lt_f _
  show ∃ b,zbr n _ _ _ _=_∧_;simp only[zbr,e,cond_false];exact⟨true,rfl,fun _ i h1 h2=>by omega,fun _=>rfl⟩
 |d+1,k,m+1,hk,h=>by
  have hlt:k<l.length:=by omega
  have hlt':k<t.length:=by omega
  obtain⟨b,e,f⟩:=zga n t l htl hs d (k+1) m (by omega) (by omega);show ∃ b,zbr n _ _ _ _=_∧_;simp only[zbr,lt_t hlt,lt_t hlt',ge_t,cond_true,zaa,zbp,Option.bind_some,wS (show k≤1000000 by omega),e];rw[allS hlt,← f];have no:¬ PgK (t,l) k→∃ b',(some (((false:Bool),()),()):Option R117)=some ((b',()),())∧(b'=true↔PgK (t,l) k∧b=true):=fun hq=>⟨false,rfl,fun h=>(by cases h),fun h=>absurd h.1 hq⟩;have yes:PgK (t,l) k→∃ b',(some ((b,()),()):Option R117)=some ((b',()),())∧(b'=true↔PgK (t,l) k∧b=true):=fun hq=>⟨b,rfl,fun h=>⟨hq,h⟩,fun h=>h.2⟩
  by_cases h0:l.getD k 0=0
  ·have e1:(decide ((0:Int)≤0)&&decide ((0:Int)≤99))=true:=rfl;simp only[h0,decide_true,cond_true,e1,Bool.not_true,cond_false]
   by_cases h1:((ByteArray.size (t.getD k ByteArray.empty):Nat):Int)=0
   ·simp only[h1,decide_true,Bool.not_true,cond_false];refine yes ⟨(show 0≤l.getD k 0∧l.getD k 0≤99 by omega),fun _=>(show (t.getD k ByteArray.empty).size=0 by omega),fun h=>absurd h0 h⟩
   ·simp only[h1,decide_false,Bool.not_false,cond_true];refine no fun h=>h1 ?_;have:(t.getD k ByteArray.empty).size=0:=h.2.1 h0;omega
  ·simp only[h0,decide_false,cond_false];rw[zbp];simp only[Option.bind_some]
   by_cases h2:0≤l.getD k 0∧l.getD k 0≤99
   ·simp only[h2.1,h2.2,decide_true,Bool.and_self,Bool.not_true,cond_false]
    by_cases h1:((ByteArray.size (t.getD k ByteArray.empty):Nat):Int)=4
    ·simp only[h1,decide_true,Bool.not_true,cond_false];refine yes ⟨h2,fun h=>absurd h h0,fun _=>(show (t.getD k ByteArray.empty).size=4 by omega)⟩
    ·simp only[h1,decide_false,Bool.not_false,cond_true];refine no fun h=>h1 ?_;have:(t.getD k ByteArray.empty).size=4:=h.2.2 h0;omega
   ·have e2:(decide ((0:Int)≤l.getD k 0)&&decide (l.getD k 0≤99))=false:=by
     rw[← Bool.decide_and];exact decide_eq_false h2
    simp only[e2,Bool.not_false,cond_true];exact no fun h=>h2 h.1
theorem yj8(n:Nat)(hn:2000≤n)(P:Pg):pgB n P=true↔(P.1.length=P.2.length∧1≤P.1.length∧P.1.length≤12)∧∀ i,i<P.2.length→PgK P i:=by
 obtain⟨e,f⟩:=zf2 n hn P;constructor
 ·intro h;obtain⟨h1,h2,_⟩:=f h;rw[h]at e;have e:zbb n (zb4 n n) P=some ((true,()),()):=e;obtain⟨b,e2,f2⟩:=zga n P.1 P.2 h1 (by omega) P.2.length 0 n (by omega) (by omega);unfold zbb at e;rw[zbp,decide_eq_true (show ((P.1.length:Nat):Int)=((P.2.length:Nat):Int) by omega)]at e;simp only[Option.bind_some,Bool.not_true,cond_false]at e
  by_cases h3:1≤P.1.length
  ·rw[decide_eq_true (show (1:Int)≤((P.1.length:Nat):Int) by omega),decide_eq_true (show ((P.1.length:Nat):Int)≤12 by omega)]at e;simp only[Bool.and_self,Bool.not_true,cond_false]at e;have e2':zb4 n n (0:Int) P.1 P.2=_:=e2;rw[e2']at e;injection e with e
   injection e with e _
   injection e with e _
   exact⟨⟨h1,h3,h2⟩,fun i hi=>f2.1 e i (Nat.zero_le i) hi⟩
  ·rw[decide_eq_false (show ¬ (1:Int)≤((P.1.length:Nat):Int) by omega)]at e;simp at e
 ·rintro ⟨⟨h1,h3,h2⟩,h4⟩;obtain⟨b,e2,f2⟩:=zga n P.1 P.2 h1 (by omega) P.2.length 0 n (by omega) (by omega);have hb:=f2.2 fun i _ hi=>h4 i hi;subst hb;have e3:zbb n (zb4 n n) P=some ((pgB n P,()),()):=e;have e2':zb4 n n (0:Int) P.1 P.2=_:=e2;unfold zbb at e3;rw[zbp,decide_eq_true (show ((P.1.length:Nat):Int)=((P.2.length:Nat):Int) by omega),decide_eq_true (show (1:Int)≤((P.1.length:Nat):Int) by omega),decide_eq_true (show ((P.1.length:Nat):Int)≤12 by omega)]at e3;simp only[Option.bind_some,Bool.not_true,cond_false,Bool.and_self,e2']at e3;injection e3 with e3
  injection e3 with e3 _
  injection e3 with e3 _
  exact e3.symm
theorem yeh(P:Pg)(k:Nat):(giv P k).1.length=P.1.length∧(giv P k).2.length=P.2.length:=by
 unfold giv;constructor
 ·simp only;split <;> simp
 ·simp
theorem pgB.giv1{n:Nat}(hn:2000≤n){P:Pg}(h:pgB n P=true){k:Nat}(hk:k<P.2.length)(hr:1≤P.2.getD k 0):pgB n (giv P k)=true:=by
 rw[yj8 n hn]at h ⊢;obtain⟨h1,h2⟩:=h;have g:=yeh P k;refine⟨by rw[g.1,g.2];exact h1,fun i hi=>?_⟩;rw[g.2]at hi;have hq:=h2 i hi;have hk2:k<P.1.length:=by omega
 unfold PgK at hq ⊢;unfold giv;simp only;rw[zaz _ _ _ _ _ hk]
 by_cases e:i=k
 ·subst e;rw[if_pos rfl];refine⟨by omega,fun h0=>?_,fun h0=>?_⟩
  ·rw[if_pos h0,zaz _ _ _ _ _ hk2,if_pos rfl];rfl
  ·rw[if_neg h0];exact hq.2.2 (by omega)
 ·rw[if_neg e]
  have e2:(if P.2.getD k 0 - 1=0 then P.1.set k (ByteArray.mk #[]) else P.1).getD i ByteArray.empty=P.1.getD i ByteArray.empty:=by
   split
   ·rw[zaz _ _ _ _ _ hk2,if_neg e]
   ·rfl
  rw[e2];exact hq
theorem ygy{kd a:Int}(s':Sp):∀ (S:List Sp) (w:Nat),List.Sublist (tlR kd a s'.2.1 0 s'.2.2) (tlR kd a (rw' S w).2.1 0 (rw' S w).2.2)→List.Sublist (tl kd a (S.set w s')) (tl kd a S)
 | [],w,_=>by simp[tl]
 |s::S,0,h=>by
  rw[List.set_cons_zero,zcj,zcj];exact h.append (List.Sublist.refl _)
 |s::S,w+1,h=>by
  rw[List.set_cons_succ,zcj,zcj];exact(List.Sublist.refl _).append (ygy s' S w (by simpa [rw'] using h))
theorem zvv{l l':List (Bool×Bool)}(h:List.Sublist l' l)(ha:alnB l=true):alnB l'=true:=by
 unfold alnB at ha ⊢;simp only[Bool.or_eq_true,decide_eq_true_eq,Bool.not_eq_true',List.any_eq_false]at ha ⊢;rcases ha with h1|h1|h1
 ·exact .inl (by have:=h.length_le;omega)
 ·exact .inr (.inl fun x hx=>h1 x (h.subset hx))
 ·exact .inr (.inr fun x hx=>h1 x (h.subset hx))
theorem MI.bg{M:Me}(hM:MI M){n:Nat}(hn:2000≤n):BgM n M:=⟨fun s hs=>by have:=(hM.sp.rw s hs).ar;omega⟩
theorem ypf(M:Me)(w p:Nat):(lose M w p).2.2.2=M.2.2.2:=by
 unfold lose;split
 ·rfl
 ·split <;> rfl
theorem zy0(M:Me)(w p:Nat):(lose M w p).1=if (sl M.2.2.1 w p).1=1 then giv M.1 (sl M.2.2.1 w p).2.1.toNat else M.1:=by
 unfold lose;split
 ·rfl
 ·split <;> rfl
theorem zyz(M:Me)(w p:Nat):(lose M w p).2.1=if (sl M.2.2.1 w p).1=2 then giv M.2.1 (sl M.2.2.1 w p).2.1.toNat else M.2.1:=by
 unfold lose;split
 ·rename_i h;rw[if_neg (by rw[h];decide)]
 ·split <;> rfl
theorem MI.ref1{M:Me}(hI:MI M){w p:Nat}(hw:w<5)(hp:p<(rw' M.2.2.1 w).2.2.length)(h1:(sl M.2.2.1 w p).1=1):(sl M.2.2.1 w p).2.1.toNat<12∧1≤M.1.2.getD (sl M.2.2.1 w p).2.1.toNat 0:=by
 have hw':w<M.2.2.1.length:=by rw[hI.sp.len];exact hw
 have a:=(hI.sp.slI hw hp).2.2 (by rw[h1];decide);obtain⟨k,hk⟩:=Int.eq_ofNat_of_zero_le a.1;have hpos:0<told 1 k M.2.2.1:=zb3 (zag hw') (zag hp) (za0.2 ⟨h1,hk⟩);have hc:=hI.ram.c k (by omega);rw[hk];exact⟨(show k<12 by omega),(show 1≤M.1.2.getD k 0 by omega)⟩
theorem MI.ref2{M:Me}(hI:MI M){w p:Nat}(hw:w<5)(hp:p<(rw' M.2.2.1 w).2.2.length)(h1:(sl M.2.2.1 w p).1=2):(sl M.2.2.1 w p).2.1.toNat<12∧1≤M.2.1.2.getD (sl M.2.2.1 w p).2.1.toNat 0:=by
 have hw':w<M.2.2.1.length:=by rw[hI.sp.len];exact hw
 have a:=(hI.sp.slI hw hp).2.2 (by rw[h1];decide);obtain⟨k,hk⟩:=Int.eq_ofNat_of_zero_le a.1;have hpos:0<told 2 k M.2.2.1:=zb3 (zag hw') (zag hp) (za0.2 ⟨h1,hk⟩);have hc:=hI.swp.c k (by omega);rw[hk];exact⟨(show k<12 by omega),(show 1≤M.2.1.2.getD k 0 by omega)⟩
theorem zvl{P:Pg}{a b:Nat}(ha:a<P.1.length)(ha2:a<P.2.length)(h:(giv P a).2.getD b 0≠0):(giv P a).1.getD b ByteArray.empty=P.1.getD b ByteArray.empty:=by
 unfold giv at h ⊢;simp only at h ⊢;split
 ·rename_i h0
  by_cases e:b=a
  ·subst e;rw[zay ha2]at h;exact absurd h0 h
  ·exact getD_set_ne ha e
 ·rfl
theorem zyy{M:Me}{w p v:Nat}(hw:w<M.2.2.1.length)(hv:v≠w):rw' (lose M w p).2.2.1 v=rw' M.2.2.1 v:=by
 rw[zu9,rw',setS,getD_set_ne hw hv]
def Txt(M M':Me)(w:Nat):Prop:=∀ v j,v≠w→v<5→j<(rw' M.2.2.1 v).2.2.length→((sl M.2.2.1 v j).1=1→M'.1.1.getD (sl M.2.2.1 v j).2.1.toNat ByteArray.empty=M.1.1.getD (sl M.2.2.1 v j).2.1.toNat ByteArray.empty)∧((sl M.2.2.1 v j).1=2→M'.2.1.1.getD (sl M.2.2.1 v j).2.1.toNat ByteArray.empty=M.2.1.1.getD (sl M.2.2.1 v j).2.1.toNat ByteArray.empty)
def sm(M:Me):Int:=M.1.2.sum+M.2.1.2.sum
def us(x:Ar):Int:=if x.1=0 then 0 else 1
def cu(S:List Sp)(w:Nat):Nat→Nat→Int
 |_,0=>0
 |k,d+1=>us (sl S w k)+cu S w (k+1) d
structure Lst(n w:Nat)(M M':Me)(c:Int):Prop where
 v:MV n M'
 i:MI M'
 lv:(rw' M'.2.2.1 w).1=true
 z:∀ j,j<16→sl M'.2.2.1 w j=z4
 o:∀ v,v≠w→rw' M'.2.2.1 v=rw' M.2.2.1 v
 s:sm M'=sm M - c
 t:Txt M M' w
theorem Txt.trans{M M1 M2:Me}{w:Nat}(h:Txt M M1 w)(g:Txt M1 M2 w)(o:∀ v,v≠w→rw' M1.2.2.1 v=rw' M.2.2.1 v):Txt M M2 w:=fun v j hv h5 hj=>by
 have e:sl M1.2.2.1 v j=sl M.2.2.1 v j:=by
  show (rw' M1.2.2.1 v).2.2.getD j (0,0,false,false)=_;rw[o v hv]
 have h1:=h v j hv h5 hj;have h2:=g v j hv h5 (by rw[o v hv];exact hj);rw[e]at h2;exact⟨fun a=>(h2.1 a).trans (h1.1 a),fun a=>(h2.2 a).trans (h1.2 a)⟩
def pgT(M:Me)(x:Ar):ByteArray:=if x.1=1 then M.1.1.getD x.2.1.toNat ByteArray.empty else if x.1=2 then M.2.1.1.getD x.2.1.toNat ByteArray.empty else List.foldl (fun r n=>r.push (UInt8.ofNat n.toNat)) ByteArray.empty (List.replicate (Int.toNat (4:Int)) (0:Int))
theorem yox(n:Nat)(M:Me)(hI:MI M)(i p:Nat)(hi:i<5)(hp:p<(rw' M.2.2.1 i).2.2.length):q61 n (M,(i:Int),(p:Int),())=some ((pgT M (sl M.2.2.1 i p),()),())∧(pgT M (sl M.2.2.1 i p)).size=4:=by
 have hi':i<M.2.2.1.length:=by rw[hI.sp.len];exact hi
 have l1:=hI.ram.l1;have l2:=hI.swp.l1;show zjf n M i p=_∧_;rw[zjf];simp only[ge_t,lt_t hi',lt_t hp,cond_true,zaa]
 by_cases h1:(sl M.2.2.1 i p).1=1
 ·obtain⟨k,hk1,hk2,hk3⟩:=hI.frame hi hp h1;simp only[h1,decide_true,cond_true,hk1,ge_t,lt_t (show k<M.1.1.length by omega),zaa,pgT,if_true];exact⟨trivial,hk3⟩
 ·by_cases h2:(sl M.2.2.1 i p).1=2
  ·obtain⟨k,hk1,hk2,hk3⟩:=hI.sframe hi hp h2;simp only[h2,show decide ((2:Int)=1)=false from rfl,cond_false,decide_true,cond_true,hk1,ge_t,lt_t (show k<M.2.1.1.length by omega),zaa,pgT,if_true,show ¬((2:Int)=1) from by decide,if_false,decide_false];exact⟨trivial,hk3⟩
  ·simp only[h1,h2,decide_false,cond_false,pgT,if_false];exact⟨trivial,rfl⟩
theorem ypa(M:Me)(x:Ar){j:Nat}(hj:j<4):IntKind.i64.wrap (((pgT M x).data.toList.getD j (0:UInt8)).toNat:Int)=pk M x j:=by
 unfold pgT pk;split
 ·rfl
 ·split
  ·rfl
  ·have:j=0∨j=1∨j=2∨j=3:=by omega
   rcases this with rfl|rfl|rfl|rfl <;> rfl
def pkQ(M:Me)(i p j:Nat):Int×Bool:=cond ((rw' M.2.2.1 i).1&&decide (0≤at2 (rw' M.2.2.1 i).2.1 p)) (pk M (sl M.2.2.1 i p) j,true) (0,false)
theorem yha(n:Nat)(hn:2000≤n)(M:Me)(hV:MV n M)(hI:MI M)(i p j:Nat)(hi:i<5)(hp:p<16)(hj:j<4):q16 n (M,(i:Int),((4*p+j:Nat):Int),())=some (((pkQ M i p j).1,((pkQ M i p j).2,())),()):=by
 have hB:BgM n M:=hI.bg hn;obtain⟨_,e1,f⟩:=zoa n hn M hB;rw[f.2 hV]at e1;have hi':i<M.2.2.1.length:=by rw[hV.l5];exact hi
 have e2:=yg_ n M i (by rw[hV.l5];decide)
 have hl:liv M i=(rw' M.2.2.1 i).1:=by
  unfold liv;rw[hV.l5,decide_eq_true (show (0:Int)≤(i:Int) by omega),decide_eq_true (show (i:Int)≤((5:Nat):Int) - 1 by omega)];rfl
 have hd:(4*p+j) / 4=p:=by omega
 have hm:(4*p+j) % 4=j:=by omega
 show zjw n M i ((4*p+j:Nat):Int)=_;rw[zjw,show (((M.1.1,M.1.2),(M.2.1.1,M.2.1.2),M.2.2.1,M.2.2.2):Me)=M from rfl,e1];simp only[Option.bind_some,Bool.not_true,cond_false];rw[e2,hl];simp only[Option.bind_some];unfold pkQ
 cases hb:(rw' M.2.2.1 i).1 with
 |false=>rfl
 |true =>
  obtain⟨a1,a2,a3⟩:=(hV.sp i hi).2 hb;have hr:=(hI.sp.rw _ (zag (d:=(false,[],[])) hi')).ar;have hr:(rw' M.2.2.1 i).2.1.length≤6:=hr;have e127:=(zj3 n (rw' M.2.2.1 i).2.1 (by omega) (by omega)).1;rw[a1]at e127;have e3:=yg8 n hn (rw' M.2.2.1 i).2.1 p (by omega) e127;obtain⟨e4,e5⟩:=yox n M hI i p hi (by omega);simp only[Bool.not_true,cond_false,Bool.true_and];rw[zhi,decide_eq_true (show (0:Int)≤((4*p+j:Nat):Int) by omega),decide_eq_true (show ((4*p+j:Nat):Int)≤63 by omega)];simp only[Bool.and_self,Option.bind_some,Bool.not_true,cond_false,ge_t,lt_t hi',cond_true,zaa,td4 (show 4*p+j<64 by omega),tm4,hd,hm];rw[e3];simp only[Option.bind_some]
  by_cases h0:0≤at2 (rw' M.2.2.1 i).2.1 p
  ·rw[decide_eq_false (show ¬ at2 (rw' M.2.2.1 i).2.1 p<0 by omega),decide_eq_true h0,cond_false,cond_true,e4];simp only[Option.bind_some,lt_t (show j<(pgT M (sl M.2.2.1 i p)).size by omega),cond_true,ypa M _ hj]
  ·rw[decide_eq_true (show at2 (rw' M.2.2.1 i).2.1 p<0 by omega),decide_eq_false h0];rfl
theorem yo_{M D:Me}{x:Ar}(h1:x.1=1→D.1.1.getD x.2.1.toNat ByteArray.empty=M.1.1.getD x.2.1.toNat ByteArray.empty)(h2:x.1=2→D.2.1.1.getD x.2.1.toNat ByteArray.empty=M.2.1.1.getD x.2.1.toNat ByteArray.empty)(j:Nat):pk M x j=pk D x j:=by
 unfold pk;split
 ·rename_i h;rw[h1 h]
 ·split
  ·rename_i h;rw[h2 h]
  ·rfl
theorem aA{x:Ar}(h:zbj x=true):0≤x.1∧x.1≤15∧1≤x.2.1∧x.1+x.2.1≤16:=by
 unfold zbj at h;obtain⟨h1,h2⟩:=za_.1 h;obtain⟨h3,h4⟩:=za_.1 h1;obtain⟨h5,h6⟩:=za_.1 h2;have h3:=of_decide_eq_true h3;have h4:=of_decide_eq_true h4;have h5:=of_decide_eq_true h5;have h6:=of_decide_eq_true h6;rw[wr (by omega) (by omega)]at h6;omega
theorem ygm{x:Ar}(h:0≤x.1∧x.1≤15∧1≤x.2.1∧x.1+x.2.1≤16):zbj x=true:=by
 unfold zbj;rw[wr (by omega) (by omega),decide_eq_true (show 0≤x.1 by omega),decide_eq_true (show x.1≤15 by omega),decide_eq_true (show 1≤x.2.1 by omega),decide_eq_true (show x.2.1≤16 - x.1 by omega)];rfl
def chk:Int→List Ar→Bool
 |_,[]=>true
 |e,x::l=>zbj x&&(decide (e≤x.1)&&chk (x.1+x.2.1) l)
def enA(l:List Ar):Nat→Int
 |0=>0
 |k+1=>(l.getD k z4).1+(l.getD k z4).2.1
theorem zn5(n:Nat)(l:List Ar)(hs:l.length≤1000):∀ (d k m:Nat),k+d=l.length→d<m→(∀ j,k=j+1→zbj (l.getD j z4)=true)→zc0 n m l (k:Int)=some ((chk (enA l k) (l.drop k)&&decide (l.length≤6),()),())
 |_,k,0,_,h,_=>by omega
 |0,k,m+1,hk,h,hp=>by
  obtain rfl:k=l.length:=by omega
  show za5 n _ _ _=_;have e:decide (((l.length:Nat):Int)≤6)=decide (l.length≤6):=decide_eq_decide.2 (by omega);simp only[za5,lt_f,cond_false,List.drop_length,chk,Bool.true_and,e]
 |d+1,k,m+1,hk,h,hp=>by
  have hl:k<l.length:=by omega
  have e2':q158 n (((l.getD k (0,0,false,false)).1,(l.getD k (0,0,false,false)).2.1,(l.getD k (0,0,false,false)).2.2.1,(l.getD k (0,0,false,false)).2.2.2),())=_:=zo5 n (l.getD k (0,0,false,false));rw[zmo (d:=z4) hl,chk];show za5 n _ _ _=_;simp only[za5,lt_t hl,ge_t,cond_true,zaa];rw[e2'];simp only[Option.bind_some,wS (show k≤1000000 by omega)]
  cases ha:zbj (l.getD k (0,0,false,false)) with
  |false=>rfl
  |true =>
   have ih:=zn5 n l hs d (k + 1) m (by omega) (by omega) (fun j hj=>by
    obtain rfl:j=k:=by omega
    exact ha)
   have a1:=aA ha;simp only[Bool.not_true,cond_false,ih,Bool.true_and]
   cases k with
   |zero =>
    have:decide (enA l 0≤(l.getD 0 z4).1)=true:=decide_eq_true a1.1;rw[this];rfl
   |succ k =>
    have a2:0≤(l.getD k (0,0,false,false)).1∧(l.getD k (0,0,false,false)).1≤15∧1≤(l.getD k (0,0,false,false)).2.1∧(l.getD k (0,0,false,false)).1+(l.getD k (0,0,false,false)).2.1≤16:=aA (hp k rfl);have e2:IntKind.i64.wrap (((k+1:Nat):Int) - 1)=(k:Int):=by rw[wr (by omega) (by omega)];omega
    have e3:decide ((0:Int)<((k+1:Nat):Int))=true:=decide_eq_true (by omega);simp only[e2,e3,cond_true,ge_t,lt_t (show k<l.length by omega),zaa];rw[wr (x:=(l.getD k (0,0,false,false)).1+(l.getD k (0,0,false,false)).2.1) (by omega) (by omega)]
    by_cases hc:(l.getD (k+1) (0,0,false,false)).1<(l.getD k (0,0,false,false)).1+(l.getD k (0,0,false,false)).2.1
    ·have:decide (enA l (k + 1)≤(l.getD (k + 1) z4).1)=false:=decide_eq_false (by
      show ¬ ((l.getD k (0,0,false,false)).1+(l.getD k (0,0,false,false)).2.1≤(l.getD (k+1) (0,0,false,false)).1)
      omega)
     rw[decide_eq_true hc,this];rfl
    ·have:decide (enA l (k + 1)≤(l.getD (k + 1) z4).1)=true:=decide_eq_true (by
      show ((l.getD k (0,0,false,false)).1+(l.getD k (0,0,false,false)).2.1≤(l.getD (k+1) (0,0,false,false)).1)
      omega)
     rw[decide_eq_false hc,this];rfl
def Srt:List Ar→Prop
 | []=>True
 |x::l=>zbj x=true∧(∀ y∈l,x.1+x.2.1≤y.1)∧Srt l
theorem yah:∀ (l:List Ar) (e:Int),chk e l=true↔(∀ y∈l,e≤y.1)∧Srt l
 | [],e=>⟨fun _=>⟨fun y hy=>(by cases hy),trivial⟩,fun _=>rfl⟩
 |x::l,e=>by
  have ih:=yah l (x.1+x.2.1);rw[chk,za_,za_,ih,decide_eq_true_eq];constructor
  ·rintro ⟨h1,h2,h3,h4⟩;have a:=aA h1;refine⟨fun y hy=>?_,h1,h3,h4⟩;rcases List.mem_cons.1 hy with rfl|hy
   ·exact h2
   ·have:=h3 y hy;omega
  ·rintro ⟨h1,h2,h3,h4⟩;exact⟨h2,h1 x List.mem_cons_self,h3,h4⟩
theorem Srt.all:∀ {l:List Ar},Srt l→∀ x∈l,zbj x=true
 |y::l,h,x,hx=>by
  rcases List.mem_cons.1 hx with rfl|hx
  ·exact h.1
  ·exact Srt.all h.2.2 x hx
theorem ycn(n:Nat)(hn:2000≤n)(l:List Ar)(hs:l.length≤1000):∃ b,q127 n (l,())=some ((b,()),())∧(b=true↔Srt l∧l.length≤6):=by
 have e:=zn5 n l hs l.length 0 n (by omega) (by omega) (fun j hj=>by omega);refine⟨_,e,?_⟩;rw[za_,List.drop_zero,yah,decide_eq_true_eq];constructor
 ·rintro ⟨⟨_,h⟩,g⟩;exact⟨h,g⟩
 ·rintro ⟨h,g⟩;exact⟨⟨fun y hy=>(aA (h.all y hy)).1,h⟩,g⟩
theorem zgd(n:Nat)(hn:2000≤n)(l:List Ar)(hs:l.length≤1000):q127 n (l,())=some ((aok n l,()),())∧(aok n l=true↔Srt l∧l.length≤6):=by
 obtain⟨b,e,f⟩:=ycn n hn l hs;have hb:aok n l=b:=by unfold aok;rw[e]
 rw[hb];exact⟨e,f⟩
def pL(f:Int)(a:Ar):List Ar:=if a.1<f then [if a.1+a.2.1≤f then a else (a.1,f - a.1,a.2.2)] else []
def pR(g:Int)(a:Ar):List Ar:=if g<a.1+a.2.1 then [if g≤a.1 then a else (g,a.1+a.2.1 - g,a.2.2)] else []
def cutA(f g:Int)(a:Ar):List Ar:=pL f a++pR g a
def cutL(f g:Int)(l:List Ar):List Ar:=l.flatMap (cutA f g)
theorem zs4{f g:Int}(hf:0≤f∧f<g∧g≤16){a:Ar}(h:zbj a=true):∀ y∈pL f a,zbj y=true∧a.1≤y.1∧y.1+y.2.1≤a.1+a.2.1∧y.1+y.2.1≤f:=fun y hy=>by
 have a1:=aA h;unfold pL at hy;split at hy
 ·rename_i h1;rw[List.mem_singleton]at hy;subst hy;split
  ·rename_i h2;exact⟨h,by omega,by omega,h2⟩
  ·rename_i h2;exact⟨ygm (by simp only;omega),by simp only;omega,by simp only;omega,by simp only;omega⟩
 ·cases hy
theorem zs3{f g:Int}(hf:0≤f∧f<g∧g≤16){a:Ar}(h:zbj a=true):∀ y∈pR g a,zbj y=true∧a.1≤y.1∧y.1+y.2.1≤a.1+a.2.1∧g≤y.1:=fun y hy=>by
 have a1:=aA h;unfold pR at hy;split at hy
 ·rename_i h1;rw[List.mem_singleton]at hy;subst hy;split
  ·rename_i h2;exact⟨h,by omega,by omega,h2⟩
  ·rename_i h2;exact⟨ygm (by simp only;omega),by simp only;omega,by simp only;omega,by simp only;omega⟩
 ·cases hy
theorem zt1:∀ {l r:List Ar},Srt l→Srt r→(∀ x∈l,∀ y∈r,x.1+x.2.1≤y.1)→Srt (l++r)
 | [],r,_,h,_=>h
 | x :: l,r,h,g,k=>⟨h.1,fun y hy=>by
   rcases List.mem_append.1 hy with hy|hy
   ·exact h.2.1 y hy
   ·exact k x List.mem_cons_self y hy,zt1 h.2.2 g fun x hx=>k x (List.mem_cons_of_mem _ hx)⟩
theorem ybd{l:List Ar}(hl:l.length≤1)(h:∀ x∈l,zbj x=true):Srt l:=by
 match l,hl with
 | [],_=>trivial
 | [x],_=>exact⟨h x List.mem_cons_self,fun y hy=>(by cases hy),trivial⟩
theorem yhf(f:Int)(a:Ar):(pL f a).length≤1:=by unfold pL;split <;> simp
theorem yhd(g:Int)(a:Ar):(pR g a).length≤1:=by unfold pR;split <;> simp
theorem zr_{f g:Int}(hf:0≤f∧f<g∧g≤16){a:Ar}(h:zbj a=true):Srt (cutA f g a)∧∀ y∈cutA f g a,a.1≤y.1∧y.1+y.2.1≤a.1+a.2.1 :=
 ⟨zt1 (ybd (yhf f a) fun x hx=>(zs4 hf h x hx).1) (ybd (yhd g a) fun x hx=>(zs3 hf h x hx).1) fun x hx y hy=>by
  have h1:=(zs4 hf h x hx).2.2.2;have h2:=(zs3 hf h y hy).2.2.2
  omega,fun y hy=>by
  rcases List.mem_append.1 hy with hy|hy
  ·have:=zs4 hf h y hy;exact⟨this.2.1,this.2.2.1⟩
  ·have:=zs3 hf h y hy;exact⟨this.2.1,this.2.2.1⟩⟩
theorem zdr(f g:Int)(a:Ar)(l:List Ar):cutL f g (a::l)=cutA f g a++cutL f g l:=by simp[cutL]
theorem zvp{f g:Int}(hf:0≤f∧f<g∧g≤16):∀ {l:List Ar} {e:Int},(∀ x∈l,zbj x=true)→(∀ x∈l,e≤x.1)→∀ y∈cutL f g l,e≤y.1
 |a::l,e,ha,he,y,hy=>by
  rw[zdr]at hy;rcases List.mem_append.1 hy with hy|hy
  ·have h1:=(zr_ hf (ha a List.mem_cons_self)).2 y hy;have h2:=he a List.mem_cons_self;omega
  ·exact zvp hf (fun x hx=>ha x (List.mem_cons_of_mem _ hx)) (fun x hx=>he x (List.mem_cons_of_mem _ hx)) y hy
theorem zp1{f g:Int}(hf:0≤f∧f<g∧g≤16):∀ {l:List Ar},Srt l→Srt (cutL f g l)
 | [],_=>trivial
 |a::l,h=>by
  rw[zdr];have c:=zr_ hf h.1
  exact zt1 c.1 (zp1 hf h.2.2) fun x hx y hy=>by
   have h1:=(c.2 x hx).2;have h2:=zvp hf h.2.2.all h.2.1 y hy;omega
theorem zvq(f g:Int):∀ l:List Ar,(cutL f g l).length≤2*l.length
 | []=>by simp[cutL]
 |a::l=>by
  have:=zvq f g l;have h1:=yhf f a;have h2:=yhd g a;rw[zdr,List.length_append,cutA,List.length_append,List.length_cons];omega
def flg(l:List Ar)(p:Int):Option (Bool×Bool):=(l.find? (inA p)).map (·.2.2)
theorem zi7{a:Ar}(h:zbj a=true)(p:Int):inA p a=true↔a.1≤p∧p<a.1+a.2.1:=by
 have a1:=aA h;rw[zvh h,za_,decide_eq_true_eq,decide_eq_true_eq,wr (by omega) (by omega)]
theorem zgc:∀ (l:List Ar) (p:Int),(0≤at2 l p↔(flg l p).isSome=true)∧(0≤at2 l p→some (l.getD (at2 l p).toNat z4).2.2=flg l p)
 | [],p=>by simp[at2,flg]
 |x::l,p=>by
  have ih:=zgc l p;unfold at2 flg at *;rw[List.findIdx_cons,List.find?_cons]
  cases hx:inA p x with
  |true=>simp
  |false =>
   simp only[cond_false,List.length_cons,Nat.add_lt_add_iff_right]
   by_cases hl:l.findIdx (inA p)<l.length
   ·rw[if_pos hl]at ih ⊢;have e1:(((l.findIdx (inA p)+1:Nat):Int)).toNat=l.findIdx (inA p)+1:=rfl;have e2:((l.findIdx (inA p):Nat):Int).toNat=l.findIdx (inA p):=rfl;rw[e2]at ih;rw[e1,List.getD_cons_succ];exact⟨⟨fun _=>ih.1.1 (by omega),fun _=>by omega⟩,fun _=>ih.2 (by omega)⟩
   ·rw[if_neg hl]at ih ⊢;exact⟨⟨fun h=>by omega,fun h=>by have:=ih.1.2 h;omega⟩,fun h=>by omega⟩
theorem fnd1(p:Int)(y:Ar):[y].find? (inA p)=if inA p y=true then some y else none:=by
 rw[List.find?_cons];cases inA p y <;> rfl
theorem ygb{f g p:Int}(hf:0≤f∧f<g∧g≤16){a:Ar}(h:zbj a=true):flg (cutA f g a) p=if inA p a=true∧¬ (f≤p∧p<g) then some a.2.2 else none:=by
 have a1:=aA h;unfold flg cutA;rw[List.find?_append]
 have eL:(pL f a).find? (inA p)=if inA p a=true∧p<f then some (if a.1+a.2.1≤f then a else (a.1,f - a.1,a.2.2)) else none:=by
  unfold pL
  by_cases h1:a.1<f
  ·rw[if_pos h1,fnd1]
   by_cases h2:a.1+a.2.1≤f
   ·rw[if_pos h2]
    by_cases h3:inA p a=true
    ·have:=(zi7 h p).1 h3;rw[if_pos h3,if_pos ⟨h3,by omega⟩]
    ·rw[if_neg h3,if_neg fun c=>h3 c.1]
   ·rw[if_neg h2];have hb:zbj (a.1,f - a.1,a.2.2)=true:=ygm (by simp only;omega)
    by_cases h3:inA p (a.1,f - a.1,a.2.2)=true
    ·have h4:=(zi7 hb p).1 h3;simp only at h4;rw[if_pos h3,if_pos ⟨(zi7 h p).2 (by omega),by omega⟩]
    ·rw[if_neg h3,if_neg];rintro ⟨c1,c2⟩;have:=(zi7 h p).1 c1;exact h3 ((zi7 hb p).2 (by simp only;omega))
  ·rw[if_neg h1,if_neg]
   ·rfl
   ·rintro ⟨c1,c2⟩;have:=(zi7 h p).1 c1;omega
 have eR:(pR g a).find? (inA p)=if inA p a=true∧g≤p then some (if g≤a.1 then a else (g,a.1+a.2.1 - g,a.2.2)) else none:=by
  unfold pR
  by_cases h1:g<a.1+a.2.1
  ·rw[if_pos h1,fnd1]
   by_cases h2:g≤a.1
   ·rw[if_pos h2]
    by_cases h3:inA p a=true
    ·have:=(zi7 h p).1 h3;rw[if_pos h3,if_pos ⟨h3,by omega⟩]
    ·rw[if_neg h3,if_neg fun c=>h3 c.1]
   ·rw[if_neg h2];have hb:zbj (g,a.1+a.2.1 - g,a.2.2)=true:=ygm (by simp only;omega)
    by_cases h3:inA p (g,a.1+a.2.1 - g,a.2.2)=true
    ·have h4:=(zi7 hb p).1 h3;simp only at h4;rw[if_pos h3,if_pos ⟨(zi7 h p).2 (by omega),by omega⟩]
    ·rw[if_neg h3,if_neg];rintro ⟨c1,c2⟩;have:=(zi7 h p).1 c1;exact h3 ((zi7 hb p).2 (by simp only;omega))
  ·rw[if_neg h1,if_neg]
   ·rfl
   ·rintro ⟨c1,c2⟩;have:=(zi7 h p).1 c1;omega
 rw[eL,eR]
 by_cases h1:inA p a=true
 ·by_cases h2:p<f
  ·rw[if_pos (show inA p a=true∧p<f from ⟨h1,h2⟩),if_pos (show inA p a=true∧¬ (f≤p∧p<g) from ⟨h1,by omega⟩)];simp only[Option.some_or,Option.map_some];split <;> rfl
  ·by_cases h3:g≤p
   ·rw[if_neg (show ¬ (inA p a=true∧p<f) from fun c=>h2 c.2),if_pos (show inA p a=true∧g≤p from ⟨h1,h3⟩),if_pos (show inA p a=true∧¬ (f≤p∧p<g) from ⟨h1,by omega⟩)];simp only[Option.none_or,Option.map_some];split <;> rfl
   ·rw[if_neg (show ¬ (inA p a=true∧p<f) from fun c=>h2 c.2),if_neg (show ¬ (inA p a=true∧g≤p) from fun c=>h3 c.2),if_neg (show ¬ (inA p a=true∧¬ (f≤p∧p<g)) from fun c=>c.2 (by omega))];rfl
 ·rw[if_neg (show ¬ (inA p a=true∧p<f) from fun c=>h1 c.1),if_neg (show ¬ (inA p a=true∧g≤p) from fun c=>h1 c.1),if_neg (show ¬ (inA p a=true∧¬ (f≤p∧p<g)) from fun c=>h1 c.1)];rfl
theorem yek(a:Ar)(l:List Ar)(p:Int):flg (a::l) p=if inA p a=true then some a.2.2 else flg l p:=by
 unfold flg;rw[List.find?_cons];cases inA p a <;> rfl
theorem ykq(l r:List Ar)(p:Int):flg (l++r) p=(flg l p).or (flg r p):=by
 unfold flg;rw[List.find?_append];cases l.find? (inA p) <;> simp
theorem zvr{f g p:Int}(hf:0≤f∧f<g∧g≤16):∀ {l:List Ar},(∀ x∈l,zbj x=true)→flg (cutL f g l) p=if f≤p∧p<g then none else flg l p
 | [],_=>by
  rw[show cutL f g []=[] from rfl,show flg [] p=none from rfl];split <;> rfl
 |a::l,ha=>by
  rw[zdr,ykq,ygb hf (ha a List.mem_cons_self),zvr hf fun x hx=>ha x (List.mem_cons_of_mem _ hx),yek]
  by_cases h1:f≤p∧p<g
  ·rw[if_neg (fun c=>c.2 h1),if_pos h1,if_pos h1];rfl
  ·rw[if_neg h1,if_neg h1]
   by_cases h2:inA p a=true
   ·rw[if_pos ⟨h2,h1⟩,if_pos h2];rfl
   ·rw[if_neg (fun c=>h2 c.1),if_neg h2];rfl
theorem yo4(n:Nat){f:Int}(hf:0≤f∧f≤16){a:Ar}(h:zbj a=true):q175 n (a,(0:Int),f - 1,())=some (((pL f a).headD z4,(decide (a.1<f),())),()):=by
 have a1:=aA h;show zce n a 0 (f - 1)=_;unfold zce pL;rw[wr (x:=a.1+a.2.1) (by omega) (by omega),wr (x:=a.1+a.2.1 - 1) (by omega) (by omega),if_neg (show ¬ (0:Int) > a.1 by omega)]
 by_cases h1:a.1<f
 ·rw[if_pos h1,decide_eq_true h1]
  by_cases h2:a.1+a.2.1≤f
  ·rw[if_pos h2,if_neg (show ¬ f - 1<a.1+a.2.1 - 1 by omega),decide_eq_false (show ¬ a.1+a.2.1 - 1<a.1 by omega),cond_false,wr (x:=a.1+a.2.1 - 1 - a.1) (by omega) (by omega),wr (x:=a.1+a.2.1 - 1 - a.1+1) (by omega) (by omega),show a.1+a.2.1 - 1 - a.1+1=a.2.1 by omega];rfl
  ·rw[if_neg h2,if_pos (show f - 1<a.1+a.2.1 - 1 by omega),decide_eq_false (show ¬ f - 1<a.1 by omega),cond_false,wr (x:=f - 1 - a.1) (by omega) (by omega),wr (x:=f - 1 - a.1+1) (by omega) (by omega),show f - 1 - a.1+1=f - a.1 by omega];rfl
 ·rw[if_neg h1,decide_eq_false h1,if_pos (show f - 1<a.1+a.2.1 - 1 by omega),decide_eq_true (show f - 1<a.1 by omega)];rfl
theorem yo3(n:Nat){g:Int}(hg:0≤g∧g≤16){a:Ar}(h:zbj a=true):q175 n (a,g,(15:Int),())=some (((pR g a).headD z4,(decide (g<a.1+a.2.1),())),()):=by
 have a1:=aA h;have e:(if (15:Int)<a.1+a.2.1 - 1 then (15:Int) else a.1+a.2.1 - 1)=a.1+a.2.1 - 1:=if_neg (by omega);show zce n a g 15=_;unfold zce pR;rw[wr (x:=a.1+a.2.1) (by omega) (by omega),wr (x:=a.1+a.2.1 - 1) (by omega) (by omega),e]
 by_cases h1:g<a.1+a.2.1
 ·rw[if_pos h1,decide_eq_true h1]
  by_cases h2:g≤a.1
  ·rw[if_pos h2,if_neg (show ¬ g > a.1 by omega),decide_eq_false (show ¬ a.1+a.2.1 - 1<a.1 by omega),cond_false,wr (x:=a.1+a.2.1 - 1 - a.1) (by omega) (by omega),wr (x:=a.1+a.2.1 - 1 - a.1+1) (by omega) (by omega),show a.1+a.2.1 - 1 - a.1+1=a.2.1 by omega];rfl
  ·rw[if_neg h2,if_pos (show g > a.1 by omega),decide_eq_false (show ¬ a.1+a.2.1 - 1<g by omega),cond_false,wr (x:=a.1+a.2.1 - 1 - g) (by omega) (by omega),wr (x:=a.1+a.2.1 - 1 - g+1) (by omega) (by omega),show a.1+a.2.1 - 1 - g+1=a.1+a.2.1 - g by omega];rfl
 ·rw[if_neg h1,decide_eq_false h1,if_pos (show g > a.1 by omega),decide_eq_true (show a.1+a.2.1 - 1<g by omega)];rfl
theorem al24{k:Nat}(h:k≤100000):decide (k*24≤140737488355328)=true:=decide_eq_true (by omega)
theorem yhe{f:Int}{a:Ar}(h:a.1<f):pL f a=[(pL f a).headD z4]:=by unfold pL;rw[if_pos h];rfl
theorem zpa{f:Int}{a:Ar}(h:¬ a.1<f):pL f a=[]:=by unfold pL;rw[if_neg h]
theorem yhc{g:Int}{a:Ar}(h:g<a.1+a.2.1):pR g a=[(pR g a).headD z4]:=by unfold pR;rw[if_pos h];rfl
theorem zlk{g:Int}{a:Ar}(h:¬ g<a.1+a.2.1):pR g a=[]:=by unfold pR;rw[if_neg h]
theorem zn4(n:Nat)(l:List Ar)(hs:l.length≤1000)(ha:∀ x∈l,zbj x=true){f g:Int}(hf:0≤f∧f<g∧g≤16):∀ (d k m:Nat) (acc:List Ar),k+d=l.length→d<m→acc.length≤2*k→zl4 n m l f (g - 1) (k:Int) acc=some ((acc++cutL f g (l.drop k),()),())
 |_,k,0,_,_,h,_=>by omega
 |0,k,m+1,acc,hk,h,hc=>by
  obtain rfl:k=l.length:=by omega
  show zca n _ _ _ _ _ _=_;simp only[zca,lt_f,cond_false,List.drop_length,show cutL f g []=[] from rfl,List.append_nil]
 |d+1,k,m+1,acc,hk,h,hc=>by
  have hl:k<l.length:=by omega
  have hv:=ha _ (zag (d:=(0,0,false,false)) hl);have e1:q175 n (((l.getD k (0,0,false,false)).1,(l.getD k (0,0,false,false)).2.1,(l.getD k (0,0,false,false)).2.2.1,(l.getD k (0,0,false,false)).2.2.2),(0:Int),f - 1,())=_:=yo4 n (f:=f) (by omega) hv;have e2:q175 n (((l.getD k (0,0,false,false)).1,(l.getD k (0,0,false,false)).2.1,(l.getD k (0,0,false,false)).2.2.1,(l.getD k (0,0,false,false)).2.2.2),g,(15:Int),())=_:=yo3 n (g:=g) (by omega) hv;have ih:=fun acc hc=>zn4 n l hs ha hf d (k+1) m acc (by omega) (by omega) hc;rw[zmo (d:=((0:Int),(0:Int),false,false)) hl,zdr,cutA];show zca n _ _ _ _ _ _=_;simp only[zca,lt_t hl,ge_t,cond_true,zaa];rw[wr (x:=f - 1) (by omega) (by omega),wr (x:=g - 1+1) (by omega) (by omega),show g - 1+1=g by omega,e1];simp only[Option.bind_some];rw[e2];simp only[Option.bind_some,wS (show k≤1000000 by omega)]
  by_cases h1:(l.getD k (0,0,false,false)).1<f
  ·rw[decide_eq_true h1,cond_true]
   by_cases h2:g<(l.getD k (0,0,false,false)).1+(l.getD k (0,0,false,false)).2.1
   ·rw[decide_eq_true h2,cond_true,al24 (by simp;omega),al24 (by simp;omega),cond_true,cond_true];refine(ih _ (by simp;omega)).trans ?_;rw[yhe h1,yhc h2];simp
   ·rw[decide_eq_false h2,cond_false,al24 (by simp;omega),cond_true];refine(ih _ (by simp;omega)).trans ?_;rw[yhe h1,zlk h2];simp
  ·rw[decide_eq_false h1,cond_false]
   by_cases h2:g<(l.getD k (0,0,false,false)).1+(l.getD k (0,0,false,false)).2.1
   ·rw[decide_eq_true h2,cond_true,al24 (by simp;omega),cond_true];refine(ih _ (by simp;omega)).trans ?_;rw[zpa h1,yhc h2];simp
   ·rw[decide_eq_false h2,cond_false];refine(ih _ (by omega)).trans ?_;rw[zpa h1,zlk h2];simp
def okC(l:List Ar)(f q:Int):Bool:=zbj (f,q,false,false)&&decide ((cutL f (f+q) l).length≤6)
theorem yj5(n:Nat)(hn:2000≤n)(l:List Ar)(hl:Srt l∧l.length≤6)(f q:Int):q121 n (l,f,q,())=some ((cond (okC l f q) (cutL f (f+q) l) [],(okC l f q,())),()):=by
 obtain⟨e1,f1⟩:=zgd n hn l (by omega);rw[f1.2 hl]at e1;show zdk n l f q=_;rw[zdk,e1];simp only[Option.bind_some,Bool.not_true,cond_false];rw[zo5];simp only[Option.bind_some,okC]
 cases ha:zbj (f,q,false,false) with
 |false=>rfl
 |true =>
  have a1:=aA ha;simp only at a1;have hf:0≤f∧f<f+q∧f+q≤16:=by omega
  simp only[Bool.not_true,cond_false,Bool.true_and];rw[wr (x:=f+q) (by omega) (by omega),wr (x:=f+q - 1) (by omega) (by omega)];have e3:q159 n (l,f,f+q - 1,())=_:=zn4 n l (by omega) hl.1.all hf l.length 0 n [] (by omega) (by omega) (by simp);rw[e3];simp only[Option.bind_some,List.nil_append,List.drop_zero];have hlen:=zvq f (f+q) l;obtain⟨e4,f4⟩:=zgd n hn (cutL f (f+q) l) (by omega)
  have e5:aok n (cutL f (f+q) l)=decide ((cutL f (f+q) l).length≤6):=by
   rw[Bool.eq_iff_iff,f4,decide_eq_true_eq];exact⟨fun h=>h.2,fun h=>⟨zp1 hf hl.1,h⟩⟩
  rw[e4,e5];simp only[Option.bind_some];cases decide ((cutL f (f+q) l).length≤6) <;> rfl
theorem zq8(n:Nat)(l:List Ar)(hs:l.length≤1000)(ha:∀ x∈l,zbj x=true){f q:Int}(hf:0≤f∧1≤q∧f+q≤16):∀ (d k m:Nat) (acc:List Ar),k+d=l.length→d<m→acc.length≤2*k→zq9 n m l (l.length:Int) (k:Int) f q false false acc =
  cond (decide ((6:Int)<(((acc++cutL f (f+q) (l.drop k)).length:Nat):Int))) (some (([],(false,())),())) (some ((acc++cutL f (f+q) (l.drop k),(true,())),()))
 |_,k,0,_,_,h,_=>by omega
 |0,k,m+1,acc,hk,h,hc=>by
  obtain rfl:k=l.length:=by omega
  show zh2 n _ _ _ _ _ _ _ _ _=_;simp only[zh2,lt_f,cond_false,List.drop_length,show cutL f (f+q) []=[] from rfl,List.append_nil]
 |d+1,k,m+1,acc,hk,h,hc=>by
  have hl:k<l.length:=by omega
  have hv:=ha _ (zag (d:=(0,0,false,false)) hl);have a1:=aA hv;have ih:=fun acc hc=>zq8 n l hs ha hf d (k+1) m acc (by omega) (by omega) hc;have w1:IntKind.i64.wrap (f+q)=f+q:=wr (by omega) (by omega);have w2:IntKind.i64.wrap ((l.getD k (0,0,false,false)).1+(l.getD k (0,0,false,false)).2.1)=(l.getD k (0,0,false,false)).1+(l.getD k (0,0,false,false)).2.1:=wr (by omega) (by omega);have q1:q115 n (((f,q,false,false):Ar),())=some ((f+q,()),()):=(zo9 n (f,q,false,false)).trans (by simp only[w1]);have q2:q115 n (((l.getD k (0,0,false,false)).1,(l.getD k (0,0,false,false)).2.1,(l.getD k (0,0,false,false)).2.2.1,(l.getD k (0,0,false,false)).2.2.2),())=some (((l.getD k (0,0,false,false)).1+(l.getD k (0,0,false,false)).2.1,()),()):=(zo9 n (l.getD k (0,0,false,false))).trans (by simp only[w2]);rw[zmo (d:=((0:Int),(0:Int),false,false)) hl,zdr,cutA];show zh2 n _ _ _ _ _ _ _ _ _=_;simp only[zh2,lt_t hl,ge_t,cond_true,zaa];rw[q1,q2];simp only[Option.bind_some,wS (show k≤1000000 by omega)]
  by_cases c1:f+q≤(l.getD k (0,0,false,false)).1
  ·rw[decide_eq_true c1,cond_true,al24 (by simp;omega),cond_true,ih _ (by simp;omega)];have e1:pL f (l.getD k (0,0,false,false))=[]:=zpa (by omega);have e2:pR (f+q) (l.getD k (0,0,false,false))=[l.getD k (0,0,false,false)]:=by unfold pR;rw[if_pos (by omega),if_pos c1]
   rw[e1,e2];simp
  ·rw[decide_eq_false c1,cond_false]
   by_cases c2:(l.getD k (0,0,false,false)).1+(l.getD k (0,0,false,false)).2.1≤f
   ·rw[decide_eq_true c2,cond_true,al24 (by simp;omega),cond_true,ih _ (by simp;omega)];have e1:pL f (l.getD k (0,0,false,false))=[l.getD k (0,0,false,false)]:=by unfold pL;rw[if_pos (by omega),if_pos c2]
    have e2:pR (f+q) (l.getD k (0,0,false,false))=[]:=zlk (by omega);rw[e1,e2];simp
   ·rw[decide_eq_false c2,cond_false]
    by_cases c3:(l.getD k (0,0,false,false)).1<f
    ·have e1:pL f (l.getD k (0,0,false,false))=[((l.getD k (0,0,false,false)).1,f - (l.getD k (0,0,false,false)).1,(l.getD k (0,0,false,false)).2.2)]:=by unfold pL;rw[if_pos c3,if_neg c2]
     have w3:IntKind.i64.wrap (f - (l.getD k (0,0,false,false)).1)=f - (l.getD k (0,0,false,false)).1:=wr (by omega) (by omega);simp only[w3];rw[decide_eq_true c3,cond_true,al24 (by simp;omega),cond_true]
     by_cases c4:f+q<(l.getD k (0,0,false,false)).1+(l.getD k (0,0,false,false)).2.1
     ·have e2:pR (f+q) (l.getD k (0,0,false,false))=[(f+q,(l.getD k (0,0,false,false)).1+(l.getD k (0,0,false,false)).2.1 - (f+q),(l.getD k (0,0,false,false)).2.2)]:=by unfold pR;rw[if_pos c4,if_neg c1]
      rw[decide_eq_true c4,cond_true,al24 (by simp;omega),cond_true,wr (x:=(l.getD k (0,0,false,false)).1+(l.getD k (0,0,false,false)).2.1 - (f+q)) (by omega) (by omega),ih _ (by simp;omega)];rw[e1,e2];simp
     ·have e2:pR (f+q) (l.getD k (0,0,false,false))=[]:=zlk c4;rw[decide_eq_false c4,cond_false,ih _ (by simp;omega)];rw[e1,e2];simp
    ·have e1:pL f (l.getD k (0,0,false,false))=[]:=zpa c3;rw[decide_eq_false c3,cond_false]
     by_cases c4:f+q<(l.getD k (0,0,false,false)).1+(l.getD k (0,0,false,false)).2.1
     ·have e2:pR (f+q) (l.getD k (0,0,false,false))=[(f+q,(l.getD k (0,0,false,false)).1+(l.getD k (0,0,false,false)).2.1 - (f+q),(l.getD k (0,0,false,false)).2.2)]:=by unfold pR;rw[if_pos c4,if_neg c1]
      rw[decide_eq_true c4,cond_true,al24 (by simp;omega),cond_true,wr (x:=(l.getD k (0,0,false,false)).1+(l.getD k (0,0,false,false)).2.1 - (f+q)) (by omega) (by omega),ih _ (by simp;omega)];rw[e1,e2];simp
     ·have e2:pR (f+q) (l.getD k (0,0,false,false))=[]:=zlk c4;rw[decide_eq_false c4,cond_false,ih _ (by omega)];rw[e1,e2];simp
theorem yo0(n:Nat)(hn:2000≤n)(l:List Ar)(hl:Srt l∧l.length≤6)(f q:Int):q51 n (l,f,q,())=some ((cond (okC l f q) (cutL f (f+q) l) [],(okC l f q,())),()):=by
 obtain⟨e1,f1⟩:=zgd n hn l (by omega);rw[f1.2 hl]at e1;show zjl n (zq9 n n) l f q=_;rw[zjl,zx7,e1];simp only[Option.bind_some,Bool.not_true,cond_false];rw[zye];simp only[Option.bind_some,okC]
 cases ha:zbj (f,q,false,false) with
 |false=>rfl
 |true =>
  have a1:=aA ha;simp only at a1;simp only[Bool.not_true,cond_false,Bool.true_and];have e3:=zq8 n l (by omega) hl.1.all (f:=f) (q:=q) (by omega) l.length 0 n [] (by omega) (by omega) (by simp);refine e3.trans ?_;simp only[List.nil_append,List.drop_zero]
  by_cases h:(cutL f (f+q) l).length≤6
  ·rw[decide_eq_true h,decide_eq_false (show ¬ (6:Int)<(((cutL f (f+q) l).length:Nat):Int) by omega)];rfl
  ·rw[decide_eq_false h,decide_eq_true (show (6:Int)<(((cutL f (f+q) l).length:Nat):Int) by omega)];rfl
def zfw(M:Me)(w:Nat)(l:List Ar):Me:=(M.1,M.2.1,M.2.2.1.set w ((rw' M.2.2.1 w).1,l,(rw' M.2.2.1 w).2.2),M.2.2.2)
theorem zq7(n w f q:Nat)(hw:w<5)(hfq:f+q≤16):∀ (d k m:Nat) (M:Me),MI M→(rw' M.2.2.1 w).2.2.length=16→k+d=f+q→d<m→zlm n m (w:Int) (f:Int) (q:Int) (k:Int) M.2.2.2 0 M.1.1 M.1.2 M.2.1.1 M.2.1.2 M.2.2.1=some ((zfz w (rngL k d) M,((0:Int),())),())
 |_,k,0,M,_,_,_,h=>by omega
 |0,k,m+1,M,hM,hl,hk,h=>by
  have e:IntKind.i64.wrap ((f:Int)+(q:Int))=(f:Int)+q:=wr (by omega) (by omega);show zdd n _ _ _ _ _ _ _ _ _ _ _ _=_;simp only[zdd,e,show decide ((k:Int)<(f:Int)+(q:Int))=false from decide_eq_false (by omega),cond_false];rfl
 |d+1,k,m+1,M,hM,hl,hk,h=>by
  have e:IntKind.i64.wrap ((f:Int)+(q:Int))=(f:Int)+q:=wr (by omega) (by omega);obtain⟨e1,e2,e3⟩:=zlb n M hM w k hw (by omega);have ih:=zq7 n w f q hw hfq d (k+1) m (lose M w k) e2 (by rw[(e3 w).2.2];exact hl) (by omega) (by omega);show zdd n _ _ _ _ _ _ _ _ _ _ _ _=_;simp only[zdd,e,show decide ((k:Int)<(f:Int)+(q:Int))=true from decide_eq_true (by omega),cond_true];have e1':q122 n (((M.1.1,M.1.2),(M.2.1.1,M.2.1.2),M.2.2.1,M.2.2.2),(w:Int),(k:Int),())=some ((lose M w k,()),()):=e1;rw[e1'];simp only[Option.bind_some,wS (show k≤1000000 by omega)];exact ih
theorem zrg(n w f q:Nat)(hw:w<5)(hfq:f+q≤16):∀ (d k m:Nat) (M:Me),MI M→(rw' M.2.2.1 w).2.2.length=16→k+d=f+q→d<m→zrh n m (w:Int) (f:Int) (q:Int) (k:Int) 0 M.2.2.2 M.1.1 M.1.2 M.2.1.1 M.2.1.2 M.2.2.1=some ((zfz w (rngL k d) M,((0:Int),())),())
 |_,k,0,M,_,_,_,h=>by omega
 |0,k,m+1,M,hM,hl,hk,h=>by
  have e:IntKind.i64.wrap ((f:Int)+(q:Int))=(f:Int)+q:=wr (by omega) (by omega);show zic n _ _ _ _ _ _ _ _ _ _ _ _=_;simp only[zic,e,show decide ((k:Int)<(f:Int)+(q:Int))=false from decide_eq_false (by omega),cond_false];rfl
 |d+1,k,m+1,M,hM,hl,hk,h=>by
  have e:IntKind.i64.wrap ((f:Int)+(q:Int))=(f:Int)+q:=wr (by omega) (by omega);have hw':w<M.2.2.1.length:=by rw[hM.sp.len];exact hw
  have hp:k<(rw' M.2.2.1 w).2.2.length:=by omega
  obtain⟨e1,e2,e3⟩:=zlb n M hM w k hw hp;have ih:=zrg n w f q hw hfq d (k+1) m (lose M w k) e2 (by rw[(e3 w).2.2];exact hl) (by omega) (by omega);have hsl:=hM.sp.slI hw hp;have hr1:=hM.ram.l1;have hr2:=hM.ram.l2;have hs1:=hM.swp.l1;have hs2:=hM.swp.l2;show zic n _ _ _ _ _ _ _ _ _ _ _ _=_;simp only[zic,e,show decide ((k:Int)<(f:Int)+(q:Int))=true from decide_eq_true (by omega),cond_true,ge_t,lt_t hw',zaa,lt_t hp,wS (show k≤1000000 by omega)];show _=some ((zfz w (rngL (k+1) d) (lose M w k),((0:Int),())),());rw[← ih]
  by_cases h1:(sl M.2.2.1 w k).1=1
  ·have hat:=hsl.2.2 (by rw[h1];decide);obtain⟨j,hj⟩:=Int.eq_ofNat_of_zero_le hat.1;have hj2:j<12:=by omega
   have hc:=hM.ram.c j hj2;have ht:=hM.sp.told 1 j;have hq:=zla n M.1 j (by omega) (by omega) (by omega);simp only[h1,decide_true,cond_true,hj,lose,if_true,zaa];rw[show ((M.1.1,M.1.2):Pg)=M.1 from rfl,hq];rfl
  ·by_cases h2:(sl M.2.2.1 w k).1=2
   ·have hat:=hsl.2.2 (by rw[h2];decide);obtain⟨j,hj⟩:=Int.eq_ofNat_of_zero_le hat.1;have hj2:j<12:=by omega
    have hc:=hM.swp.c j hj2;have ht:=hM.sp.told 2 j;have hq:=zla n M.2.1 j (by omega) (by omega) (by omega);simp only[h1,h2,decide_true,decide_false,cond_true,cond_false,hj,lose,if_true,if_false,zaa];rw[show ((M.2.1.1,M.2.1.2):Pg)=M.2.1 from rfl,hq];rfl
   ·simp only[h1,h2,decide_false,cond_false,lose,if_false]
noncomputable def cutR(n:Nat)(M:Me)(w f q:Int):Me×Int:=cond (okM n M&&liv M w) (cond (okC (rw' M.2.2.1 w.toNat).2.1 f q) (zfz w.toNat (rngL f.toNat q.toNat) (zfw M w.toNat (cutL f (f+q) (rw' M.2.2.1 w.toNat).2.1)),0) (M,4)) (Mz,1)
theorem ykb{l:List Ar}{f q:Int}(h:okC l f q=true):0≤f∧f≤15∧1≤q∧f+q≤16:=by
 have:=aA (za_.1 h).1;simpa using this
theorem zs6{l:List Ar}{f q:Int}(h:okC l f q=true):(cutL f (f+q) l).length≤6:=of_decide_eq_true (za_.1 h).2
theorem yoz(n:Nat)(hn:2000≤n)(M:Me)(hI:MI M)(w:Nat)(hw:w<5)(hlv:(rw' M.2.2.1 w).2.2.length=16)(hs:Srt (rw' M.2.2.1 w).2.1)(f q:Int) :
  q55 n (M,(w:Int),f,q,())=some (((cond (okC (rw' M.2.2.1 w).2.1 f q) (zfz w (rngL f.toNat q.toNat) (zfw M w (cutL f (f+q) (rw' M.2.2.1 w).2.1)),(0:Int)) (M,4)).1,((cond (okC (rw' M.2.2.1 w).2.1 f q) (zfz w (rngL f.toNat q.toNat) (zfw M w (cutL f (f+q) (rw' M.2.2.1 w).2.1)),(0:Int)) (M,4)).2,())),()):=by
 have hw':w<M.2.2.1.length:=by rw[hI.sp.len];exact hw
 have hr:=(hI.sp.rw _ (zag (d:=(false,[],[])) hw')).ar;have hr:(rw' M.2.2.1 w).2.1.length≤6:=hr;have e1:=yj5 n hn (rw' M.2.2.1 w).2.1 ⟨hs,hr⟩ f q;show zet n (zlm n n) M w f q=_;rw[zet];simp only[ge_t,lt_t hw',cond_true,zaa];rw[e1];simp only[Option.bind_some]
 cases hk:okC (rw' M.2.2.1 w).2.1 f q with
 |false=>rfl
 |true =>
  have a:=ykb hk;obtain⟨f',rfl⟩:=Int.eq_ofNat_of_zero_le a.1;obtain⟨q',rfl⟩:=Int.eq_ofNat_of_zero_le (show 0≤q by omega);simp only[Bool.not_true,cond_false,cond_true,zaa]
  exact zq7 n w f' q' hw (by omega) q' f' n (zfw M w (cutL (f':Int) ((f':Int) + (q':Int)) (rw' M.2.2.1 w).2.1)) (hI.areas hw (zs6 hk)) (by
   show (rw' (M.2.2.1.set w _) w).2.2.length=16
   rw[rw',zay hw'];exact hlv) rfl (by omega)
theorem yo5(n:Nat)(hn:2000≤n)(M:Me)(w f q:Int)(hB:BgM n M):q14 n (M,w,f,q,())=some (((cutR n M w f q).1,((cutR n M w f q).2,())),()):=by
 obtain⟨e1,_,g⟩:=zoa n hn M hB;show zjy n M w f q=_;rw[zjy,show (((M.1.1,M.1.2),(M.2.1.1,M.2.1.2),M.2.2.1,M.2.2.2):Me)=M from rfl,e1];simp only[Option.bind_some];unfold cutR
 cases hk:okM n M with
 |false=>rfl
 |true =>
  have hV:=g.1 hk;have hI:=hV.mi hn hB;have h5:=hV.l5;simp only[Bool.not_true,cond_false,Bool.true_and];rw[yju n M w (by omega)];simp only[Option.bind_some]
  cases hl:liv M w with
  |false=>rfl
  |true =>
   obtain⟨k,rfl,hk5,hlv⟩:=zte hl;obtain⟨a1,a2,_⟩:=(hV.sp k (by omega)).2 hlv;have hr:=(hI.sp.rw _ (zag (d:=(false,[],[])) hk5)).ar;have hr:(rw' M.2.2.1 k).2.1.length≤6:=hr;have hs:=((zgd n hn _ (by omega)).2.1 a1).1;simp only[Bool.not_true,cond_false,cond_true];rw[hI.copy n hn];simp only[Option.bind_some];rw[show (((M.1.1,M.1.2),(M.2.1.1,M.2.1.2),M.2.2.1,M.2.2.2):Me)=M from rfl,yoz n hn M hI k (by omega) a2 hs f q];rfl
theorem yo6(n:Nat)(hn:2000≤n)(M:Me)(w f q:Int)(hB:BgM n M):q13 n (M,w,f,q,())=some (((cutR n M w f q).1,((cutR n M w f q).2,())),()):=by
 obtain⟨_,e1,g⟩:=zoa n hn M hB;show zjz n (zrh n n) M w f q=_;rw[zjz,show (((M.1.1,M.1.2),(M.2.1.1,M.2.1.2),M.2.2.1,M.2.2.2):Me)=M from rfl,e1];simp only[Option.bind_some];unfold cutR
 cases hk:okM n M with
 |false=>rfl
 |true =>
  have hV:=g.1 hk;have hI:=hV.mi hn hB;have hM:=hV.mw hn hB;have h5:=hV.l5;simp only[Bool.not_true,cond_false,Bool.true_and];rw[yg_ n M w (by omega)];simp only[Option.bind_some]
  cases hl:liv M w with
  |false=>rfl
  |true =>
   obtain⟨k,rfl,hk5,hlv⟩:=zte hl;obtain⟨a1,a2,_⟩:=(hV.sp k (by omega)).2 hlv;have hr:=(hI.sp.rw _ (zag (d:=(false,[],[])) hk5)).ar;have hr:(rw' M.2.2.1 k).2.1.length≤6:=hr;have hs:=((zgd n hn _ (by omega)).2.1 a1).1;have e3:=yo0 n hn (rw' M.2.2.1 k).2.1 ⟨hs,hr⟩ f q;simp only[Bool.not_true,cond_false,cond_true];rw[yo1 n hn M hM];simp only[Option.bind_some,ge_t,lt_t hk5,cond_true,zaa];rw[e3];simp only[Option.bind_some]
   cases hc:okC (rw' M.2.2.1 k).2.1 f q with
   |false=>rfl
   |true =>
    have a:=ykb hc;obtain⟨f',rfl⟩:=Int.eq_ofNat_of_zero_le a.1;obtain⟨q',rfl⟩:=Int.eq_ofNat_of_zero_le (show 0≤q by omega);simp only[Bool.not_true,cond_false,cond_true,zaa]
    exact zrg n k f' q' (by omega) (by omega) q' f' n (zfw M k (cutL (f':Int) ((f':Int) + (q':Int)) (rw' M.2.2.1 k).2.1)) (hI.areas (by omega) (zs6 hc)) (by
     show (rw' (M.2.2.1.set k _) k).2.2.length=16
     rw[rw',zay hk5];exact a2) rfl (by omega)
def TxG(M M':Me)(w lo hi:Nat):Prop:=∀ v j,¬ (v=w∧lo≤j∧j<hi)→v<5→j<(rw' M.2.2.1 v).2.2.length→((sl M.2.2.1 v j).1=1→M'.1.1.getD (sl M.2.2.1 v j).2.1.toNat ByteArray.empty=M.1.1.getD (sl M.2.2.1 v j).2.1.toNat ByteArray.empty)∧((sl M.2.2.1 v j).1=2→M'.2.1.1.getD (sl M.2.2.1 v j).2.1.toNat ByteArray.empty=M.2.1.1.getD (sl M.2.2.1 v j).2.1.toNat ByteArray.empty)
theorem zs9{M:Me}{w p v j:Nat}(hw:w<M.2.2.1.length)(hp:p<(rw' M.2.2.1 w).2.2.length)(h:¬ (v=w∧j=p)):sl (lose M w p).2.2.1 v j=sl M.2.2.1 v j:=by
 by_cases e:v=w
 ·subst e;rw[zu9];exact zqr hw hp (fun c=>h ⟨rfl,c⟩)
 ·show (rw' (lose M w p).2.2.1 v).2.2.getD j (0,0,false,false)=_;rw[zyy hw e]
theorem yd1{M:Me}(hI:MI M){w p:Nat}(hw:w<5)(hp:p<(rw' M.2.2.1 w).2.2.length)(hI':MI (lose M w p))(hR:RS M.2.2.1 (lose M w p).2.2.1):TxG M (lose M w p) w p (p+1):=fun v j hv hv5 hj=>by
 have hw':w<M.2.2.1.length:=by rw[hI.sp.len];exact hw
 have es:=zs9 hw' hp (v:=v) (j:=j) (fun c=>hv ⟨c.1,by omega⟩);have hj':j<(rw' (lose M w p).2.2.1 v).2.2.length:=by rw[(hR v).2.2];exact hj
 constructor
 ·intro h1;rw[zy0];split
  ·rename_i hx;have r:=hI.ref1 hw hp hx;have r2:=hI'.ref1 hv5 hj' (by rw[es];exact h1);rw[es,zy0,if_pos hx]at r2;exact zvl (by rw[hI.ram.l1];exact r.1) (by rw[hI.ram.l2];exact r.1) (by omega)
  ·rfl
 ·intro h1;rw[zyz];split
  ·rename_i hx;have r:=hI.ref2 hw hp hx;have r2:=hI'.ref2 hv5 hj' (by rw[es];exact h1);rw[es,zyz,if_pos hx]at r2;exact zvl (by rw[hI.swp.l1];exact r.1) (by rw[hI.swp.l2];exact r.1) (by omega)
  ·rfl
structure CutS(n w lo hi:Nat)(M M':Me):Prop where
 p1:pgB n M'.1=true
 p2:pgB n M'.2.1=true
 i:MI M'
 h:M'.2.2.2=M.2.2.2
 r:RS M.2.2.1 M'.2.2.1
 z:∀ j,lo≤j→j<hi→sl M'.2.2.1 w j=z4
 k:∀ j,(j<lo∨hi≤j)→sl M'.2.2.1 w j=sl M.2.2.1 w j
 o:∀ v,v≠w→rw' M'.2.2.1 v=rw' M.2.2.1 v
 t:TxG M M' w lo hi
theorem yac{n:Nat}(hn:2000≤n){w:Nat}(hw:w<5):∀ (d k:Nat) (M:Me),k+d≤16→pgB n M.1=true→pgB n M.2.1=true→MI M→(rw' M.2.2.1 w).2.2.length=16→CutS n w k (k+d) M (zfz w (rngL k d) M)
 |0,k,M,hk,h1,h2,hI,hl=>⟨h1,h2,hI,rfl,RS.refl _,fun j a b=>by omega,fun _ _=>rfl,fun _ _=>rfl,fun _ _ _ _ _=>⟨fun _=>rfl,fun _=>rfl⟩⟩
 |d+1,k,M,hk,h1,h2,hI,hl=>by
  have hw':w<M.2.2.1.length:=by rw[hI.sp.len];exact hw
  obtain⟨_,hI',hR⟩:=zlb n M hI w k hw (by omega)
  have g1:pgB n (lose M w k).1=true:=by
   rw[zy0];split
   ·rename_i hx;have r:=hI.ref1 hw (by omega) hx;exact pgB.giv1 hn h1 (by rw[hI.ram.l2];exact r.1) r.2
   ·exact h1
  have g2:pgB n (lose M w k).2.1=true:=by
   rw[zyz];split
   ·rename_i hx;have r:=hI.ref2 hw (by omega) hx;exact pgB.giv1 hn h2 (by rw[hI.swp.l2];exact r.1) r.2
   ·exact h2
  have ih:=yac hn hw d (k+1) (lose M w k) (by omega) g1 g2 hI' (by rw[(hR w).2.2];exact hl);have z0:sl (lose M w k).2.2.1 w k=z4:=by rw[zu9];exact zkn hw' (by omega)
  have ne:∀ j,j≠k→sl (lose M w k).2.2.1 w j=sl M.2.2.1 w j:=fun j hj=>zs9 hw' (by omega) (fun c=>hj c.2);have o1:∀ v,v≠w→rw' (lose M w k).2.2.1 v=rw' M.2.2.1 v:=fun v hv=>zyy hw' hv;rw[show k+(d+1)=k+1+d by omega];refine⟨ih.p1,ih.p2,ih.i,ih.h.trans (ypf _ _ _),hR.trans ih.r,fun j a b=>?_,fun j a=>?_,fun v hv=>(ih.o v hv).trans (o1 v hv),fun v j hv h5 hj=>?_⟩
  ·by_cases e:j=k
   ·subst e;exact(ih.k j (.inl (by omega))).trans z0
   ·exact ih.z j (by omega) b
  ·exact(ih.k j (by omega)).trans (ne j (by omega))
  ·have es:=zs9 hw' (show k<(rw' M.2.2.1 w).2.2.length by omega) (v:=v) (j:=j) (fun c=>hv ⟨c.1,by omega⟩);have t1:=yd1 hI hw (by omega) hI' hR v j (fun c=>hv ⟨c.1,by omega⟩) h5 hj;have t2:=ih.t v j (fun c=>hv ⟨c.1,by omega⟩) h5 (by rw[(hR v).2.2];exact hj);rw[es]at t2;exact⟨fun a=>(t2.1 a).trans (t1.1 a),fun a=>(t2.2 a).trans (t1.2 a)⟩
theorem zxx(ar:List Ar)(p:Int):shd ar p=((flg ar p).map (·.2)).getD false:=by
 obtain⟨h1,h2⟩:=zgc ar p;unfold shd
 by_cases h:0≤at2 ar p
 ·rw[decide_eq_true h,← h2 h];rfl
 ·rw[decide_eq_false h]
  cases hf:flg ar p with
  |none=>rfl
  |some y=>exact absurd (h1.2 (by rw[hf];rfl)) h
theorem ynx{ar ar':List Ar}{i:Nat}{x:Ar}(e:flg ar i=flg ar' i)(h:SlV ar i x):SlV ar' i x:=by
 obtain⟨h1,h2⟩:=zgc ar i;obtain⟨h3,h4⟩:=zgc ar' i;refine⟨h.1,fun h0=>?_⟩;obtain⟨a,b,c⟩:=h.2 h0;have a':0≤at2 ar' i:=h3.2 (by rw[← e];exact h1.1 a);refine⟨a',b,fun hh=>c ?_⟩;have e2:=(h2 a).trans (e.trans (h4 a').symm);injection e2 with e2
 rw[e2];exact hh
theorem zxj{kd a:Int}(hk:kd≠0)(ar ar':List Ar):∀ (l l':List Ar) (q:Nat),l'.length=l.length→(∀ i:Nat,i<l.length→(l'.getD i z4=l.getD i z4∧shd ar' ((q+i:Nat):Int)=shd ar ((q+i:Nat):Int))∨l'.getD i z4=z4)→List.Sublist (tlR kd a ar' q l') (tlR kd a ar q l)
 | [],[],q,_,_=>List.Sublist.refl _
 | [],y::l',q,h,_=>by simp at h
 |x::l,[],q,h,_=>by simp at h
 |x::l,y::l',q,h,hh=>by
  have ih:=zxj (a:=a) hk ar ar' l l' (q+1) (by simpa using h) fun i hi=>by
   have:=hh (i+1) (by simp;omega);rw[List.getD_cons_succ,List.getD_cons_succ,show q+(i+1)=q+1+i by omega]at this;exact this
  have h0:=hh 0 (by simp);rw[List.getD_cons_zero,List.getD_cons_zero,Nat.add_zero]at h0;rw[tlR,tlR];rcases h0 with ⟨e1,e2⟩|e1
  ·rw[e1,e2]
   cases isT kd a x with
   |true=>exact ih.cons_cons _
   |false=>exact ih
  ·have:isT kd a y=false:=by rw[e1];simp[isT,Ne.symm hk]
   rw[this,cond_false]
   cases isT kd a x with
   |true=>exact ih.cons _
   |false=>exact ih
theorem yon{S S':List Sp}{w:Nat}(hl:S'.length=S.length)(hw:w<S.length)(ho:∀ v,v≠w→rw' S' v=rw' S v):S'=S.set w (rw' S' w):=by
 apply List.ext_getElem?;intro i;rw[List.getElem?_set];have g:∀ (T:List Sp),i<T.length→T[i]? = some (rw' T i):=fun T h=>by rw[List.getElem?_eq_getElem h,rw',List.getD_eq_getElem?_getD,List.getElem?_eq_getElem h];rfl
 by_cases e:w=i
 ·subst e;rw[if_pos rfl,if_pos hw,g S' (by omega)]
 ·rw[if_neg e]
  by_cases h:i<S.length
  ·rw[g S' (by omega),g S h,ho i (fun c=>e c.symm)]
  ·rw[List.getElem?_eq_none (by omega),List.getElem?_eq_none (by omega)]
theorem MV.cut{n:Nat}(hn:2000≤n){M D:Me}(hV:MV n M)(hI:MI M){w f q:Nat}(hw:w<5)(hlv:(rw' M.2.2.1 w).1=true)(hq:1≤q∧f+q≤16)(hl6:(cutL f ((f:Int)+q) (rw' M.2.2.1 w).2.1).length≤6)(C:CutS n w f (f+q) (zfw M w (cutL f ((f:Int)+q) (rw' M.2.2.1 w).2.1)) D) :
  MV n D∧(∀ i,i<5→∀ p j,¬ (i=w∧f≤p∧p<f+q)→p<16→pkQ M i p j=pkQ D i p j)∧(∀ p j,f≤p→p<f+q→(pkQ D w p j).2=false):=by
 have hw':w<M.2.2.1.length:=by rw[hV.l5];exact hw
 obtain⟨a1,a2,a3⟩:=(hV.sp w hw).2 hlv;have hr:=(hI.sp.rw _ (zag (d:=(false,[],[])) hw')).ar;have hr:(rw' M.2.2.1 w).2.1.length≤6:=hr;have hs:=((zgd n hn _ (by omega)).2.1 a1).1;generalize hL:cutL (f:Int) ((f:Int)+q) (rw' M.2.2.1 w).2.1=L at *;have hf:(0:Int)≤f∧(f:Int)<(f:Int)+q∧(f:Int)+q≤16:=by omega
 have hLs:Srt L:=by rw[← hL];exact zp1 hf hs
 have hfl:∀ p:Int,flg L p=if (f:Int)≤p∧p<(f:Int)+q then none else flg (rw' M.2.2.1 w).2.1 p:=fun p=>by rw[← hL];exact zvr hf hs.all
 have r1:rw' (zfw M w L).2.2.1 w=((rw' M.2.2.1 w).1,L,(rw' M.2.2.1 w).2.2):=zay hw';have r2:∀ v,v≠w→rw' (zfw M w L).2.2.1 v=rw' M.2.2.1 v:=fun v hv=>getD_set_ne hw' hv;have hRw:=C.r w;rw[r1]at hRw;have hO:∀ v,v≠w→rw' D.2.2.1 v=rw' M.2.2.1 v:=fun v hv=>(C.o v hv).trans (r2 v hv)
 have hk:∀ j,(j<f∨f+q≤j)→sl D.2.2.1 w j=sl M.2.2.1 w j:=fun j hj=>by
  rw[C.k j hj];show (rw' (zfw M w L).2.2.1 w).2.2.getD j (0,0,false,false)=_;rw[r1]
 have hlenD:D.2.2.1.length=M.2.2.1.length:=by rw[C.i.sp.len,hI.sp.len]
 have hset:=yon hlenD hw' hO
 have hsub:∀ kd a:Int,kd≠0→List.Sublist (tl kd a D.2.2.1) (tl kd a M.2.2.1):=fun kd a h0=>by
  rw[hset];refine ygy _ _ _ ?_;have ha:(rw' D.2.2.1 w).2.1=L:=hRw.2.1;rw[ha];refine zxj h0 _ _ _ _ 0 hRw.2.2 fun i hi=>?_;rw[Nat.zero_add]
  by_cases e:f≤i∧i<f+q
  ·exact .inr (C.z i e.1 e.2)
  ·refine .inl ⟨hk i (by omega),?_⟩;rw[zxx,zxx,hfl,if_neg (by omega)]
 have hMV:MV n D:=by
  refine⟨C.p1,C.p2,C.i.ram.l2,C.i.swp.l2,C.i.sp.len,by rw[C.h];exact hV.h0,by rw[C.h];exact hV.h1,fun v hv=>?_,⟨fun i hi=>⟨C.i.ram.c i hi,zvv (hsub 1 i (by decide)) (hV.cn.1 i hi).2⟩,fun i hi=>⟨C.i.swp.c i hi,zvv (hsub 2 i (by decide)) (hV.cn.2 i hi).2⟩⟩⟩
  by_cases e:v=w
  ·subst e;have ha:(rw' D.2.2.1 v).2.1=L:=hRw.2.1;refine⟨fun h=>absurd ((hRw.1.trans hlv).symm.trans h) (by decide),fun _=>⟨?_,hRw.2.2.trans a2,fun i hi=>?_⟩⟩
   ·rw[ha];exact(zgd n hn L (by omega)).2.2 ⟨hLs,hl6⟩
   ·rw[ha]
    by_cases e:f≤i∧i<f+q
    ·have hz:(rw' D.2.2.1 v).2.2.getD i z4=z4:=C.z i e.1 e.2;rw[hz];exact⟨⟨fun _=>rfl,fun h=>absurd rfl h⟩,fun h=>absurd rfl h⟩
    ·have hz:(rw' D.2.2.1 v).2.2.getD i z4=(rw' M.2.2.1 v).2.2.getD i z4:=hk i (by omega);rw[hz];exact⟨ynx (by rw[hfl,if_neg (by omega)]) (a3 i hi).1,(a3 i hi).2⟩
  ·rw[hO v e];exact hV.sp v hv
 refine⟨hMV,fun i hi p j hne hp=>?_,fun p j h1 h2=>?_⟩
 ·have eT:(rw' M.2.2.1 i).1=true→pk M (sl M.2.2.1 i p) j=pk D (sl M.2.2.1 i p) j:=fun hb=>by
   have hl2:(rw' M.2.2.1 i).2.2.length=16:=((hV.sp i hi).2 hb).2.1
   have hss:sl (zfw M w L).2.2.1 i p=sl M.2.2.1 i p:=by
    show (rw' (zfw M w L).2.2.1 i).2.2.getD p (0,0,false,false)=_
    by_cases e:i=w
    ·subst e;rw[r1]
    ·rw[r2 i e]
   have hll:(rw' (zfw M w L).2.2.1 i).2.2.length=(rw' M.2.2.1 i).2.2.length:=by
    by_cases e:i=w
    ·subst e;rw[r1]
    ·rw[r2 i e]
   have t:=C.t i p (by omega) hi (by omega);rw[hss]at t;exact yo_ (M:=M) t.1 t.2 j
  by_cases e:i=w
  ·subst e;have hz:sl D.2.2.1 i p=sl M.2.2.1 i p:=hk p (by omega)
   have e1:decide (0≤at2 (rw' D.2.2.1 i).2.1 p)=decide (0≤at2 (rw' M.2.2.1 i).2.1 p):=decide_eq_decide.2 (by
    rw[(zgc _ _).1,(zgc _ _).1,show (rw' D.2.2.1 i).2.1=L from hRw.2.1,hfl,if_neg (by omega)])
   unfold pkQ;rw[e1,show (rw' D.2.2.1 i).1=(rw' M.2.2.1 i).1 from hRw.1,hz,eT hlv]
  ·have hz:sl D.2.2.1 i p=sl M.2.2.1 i p:=by
    show (rw' D.2.2.1 i).2.2.getD p (0,0,false,false)=_;rw[hO i e]
   unfold pkQ;rw[hO i e,hz]
   cases hb:(rw' M.2.2.1 i).1 with
   |false=>simp only[Bool.false_and,cond_false]
   |true=>rw[eT hb]
 ·have e1:decide (0≤at2 (rw' D.2.2.1 w).2.1 p)=false:=decide_eq_false (by
   rw[(zgc _ _).1,show (rw' D.2.2.1 w).2.1=L from hRw.2.1,hfl,if_pos (by omega)]
   decide)
  unfold pkQ;rw[e1,Bool.and_false,cond_false]
theorem zrc(n:Nat)(hn:2000≤n)(M D:Me)(hV:MV n M)(hI:MI M)(hV2:MV n D)(hI2:MI D)(w f q i:Nat)(hi:i<5)(hfq:f+q≤16)(h1:∀ p j,¬ (i=w∧f≤p∧p<f+q)→p<16→pkQ M i p j=pkQ D i p j)(h2:∀ p j,f≤p→p<f+q→(pkQ D w p j).2=false)
  (g:Int→Int→Int→Int→Int→Int→List ByteArray→List Int→List ByteArray→List Int→List Sp→List ByteArray→List Int→List ByteArray→List Int→List Sp→Option R3) :
  ∀ (d k m:Nat),k+d=64→d<m→zrd g n m (w:Int) (f:Int) (q:Int) (i:Int) (k:Int) M.2.2.2 D.2.2.2 M.1.1 M.1.2 M.2.1.1 M.2.1.2 M.2.2.1 D.1.1 D.1.2 D.2.1.1 D.2.1.2 D.2.2.1=g (w:Int) (f:Int) (q:Int) ((i+1:Nat):Int) M.2.2.2 D.2.2.2 M.1.1 M.1.2 M.2.1.1 M.2.1.2 M.2.2.1 D.1.1 D.1.2 D.2.1.1 D.2.1.2 D.2.2.1
 |_,k,0,_,h=>by omega
 |0,k,m+1,hk,h=>by
  obtain rfl:k=64:=by omega
  show zh8 n _ _ _ _ _ _ _ _ _ _ _ _ _ _ _ _ _ _ _=_;have:decide (((64:Nat):Int)<64)=false:=rfl;simp only[zh8,this,cond_false,wS (show i≤1000000 by omega)]
 |d+1,k,m+1,hk,h=>by
  have ih:=zrc n hn M D hV hI hV2 hI2 w f q i hi hfq h1 h2 g d (k+1) m (by omega) (by omega);have hk4:4*(k / 4)+k % 4=k:=by omega
  have e1:=yha n hn M hV hI i (k / 4) (k % 4) hi (by omega) (by omega);have e2:=yha n hn D hV2 hI2 i (k / 4) (k % 4) hi (by omega) (by omega);rw[hk4]at e1 e2;have hlt:decide ((k:Int)<64)=true:=decide_eq_true (by omega);have e:IntKind.i64.wrap ((f:Int)+(q:Int))=(f:Int)+q:=wr (by omega) (by omega);have en:∀ b:Bool,(!b == b)=false:=fun b=>by cases b <;> rfl
  show zh8 n _ _ _ _ _ _ _ _ _ _ _ _ _ _ _ _ _ _ _=_;rw[zh8,hlt,cond_true,show (((M.1.1,M.1.2),(M.2.1.1,M.2.1.2),M.2.2.1,M.2.2.2):Me)=M from rfl,e1];simp only[Option.bind_some];rw[show (((D.1.1,D.1.2),(D.2.1.1,D.2.1.2),D.2.2.1,D.2.2.2):Me)=D from rfl,e2];simp only[Option.bind_some,wS (show k≤1000000 by omega),ih,td4 (show k<64 by omega),e]
  by_cases c1:i=w
  ·rw[decide_eq_true (show (i:Int)=(w:Int) by omega),cond_true]
   by_cases c2:f≤k / 4
   ·rw[decide_eq_true (show (f:Int)≤((k / 4:Nat):Int) by omega),cond_true]
    by_cases c3:k / 4<f+q
    ·have hq:=h2 (k / 4) (k % 4) c2 c3;subst c1;rw[decide_eq_true (show ((k / 4:Nat):Int)<(f:Int)+(q:Int) by omega)];simp only[cond_true,hq,cond_false,Bool.not_true]
    ·have hq:=h1 (k / 4) (k % 4) (fun c=>c3 c.2.2) (by omega);rw[decide_eq_false (show ¬ ((k / 4:Nat):Int)<(f:Int)+(q:Int) by omega)];simp only[cond_false,Bool.not_false,cond_true,hq,en,decide_true,Bool.not_true]
   ·have hq:=h1 (k / 4) (k % 4) (fun c=>c2 c.2.1) (by omega);rw[decide_eq_false (show ¬ (f:Int)≤((k / 4:Nat):Int) by omega)];simp only[cond_false,hq,en,decide_true,Bool.not_true]
  ·have hq:=h1 (k / 4) (k % 4) (fun c=>c1 c.1) (by omega);rw[decide_eq_false (show ¬ (i:Int)=(w:Int) by omega)];simp only[cond_false,hq,en,decide_true,Bool.not_true]
theorem zre(n:Nat)(hn:2000≤n)(M D:Me)(hV:MV n M)(hI:MI M)(hV2:MV n D)(hI2:MI D)(w f q:Nat)(hfq:f+q≤16)(h1:∀ i,i<5→∀ p j,¬ (i=w∧f≤p∧p<f+q)→p<16→pkQ M i p j=pkQ D i p j)(h2:∀ p j,f≤p→p<f+q→(pkQ D w p j).2=false) :
  ∀ (d k m:Nat),k+d=5→d<m→zlu n m (w:Int) (f:Int) (q:Int) (k:Int) M.2.2.2 D.2.2.2 M.1.1 M.1.2 M.2.1.1 M.2.1.2 M.2.2.1 D.1.1 D.1.2 D.2.1.1 D.2.1.2 D.2.2.1=some ((true,()),())
 |_,k,0,_,h=>by omega
 |0,k,m+1,hk,h=>by
  obtain rfl:k=5:=by omega
  have hB:BgM n D:=hI2.bg hn;obtain⟨_,e1,f1⟩:=zoa n hn D hB;rw[f1.2 hV2]at e1;have:decide (((5:Nat):Int)<5)=false:=rfl;show zh9 n _ _ _ _ _ _ _ _ _ _ _ _ _ _ _ _ _=_;rw[zh9,this,cond_false,show (((D.1.1,D.1.2),(D.2.1.1,D.2.1.2),D.2.2.1,D.2.2.2):Me)=D from rfl,e1];rfl
 |d+1,k,m+1,hk,h=>by
  have ih:=zre n hn M D hV hI hV2 hI2 w f q hfq h1 h2 d (k+1) m (by omega) (by omega);have hlt:decide ((k:Int)<5)=true:=decide_eq_true (by omega);show zh9 n (zrd (zlu n m) n n) _ _ _ _ _ _ _ _ _ _ _ _ _ _ _ _=_;rw[zh9,hlt,cond_true];exact(zrc n hn M D hV hI hV2 hI2 w f q k (by omega) hfq (h1 k (by omega)) h2 (zlu n m) 64 0 n (by omega) (by omega)).trans ih
theorem law3n(n:Nat)(hn:2000≤n)(l:List Int)(M:Me)(w f q:Int)(e1:q12 n (l,())=some ((M,(w,(f,(q,())))),()))(hM:MW M):q3 n (l,())=some ((true,()),()):=by
 show zor n (zlu n n) l=_;rw[zor]
 cases decide ((1048576:Int)<(l.length:Int)) with
 |true=>rfl
 |false =>
  simp only[cond_false];rw[e1];simp only[Option.bind_some];have hB:BgM n M:=hM.bg hn;rw[show (((M.1.1,M.1.2),(M.2.1.1,M.2.1.2),M.2.2.1,M.2.2.2):Me)=M from rfl,yo6 n hn M w f q hB,yo5 n hn M w f q hB];simp only[Option.bind_some]
  cases hb:okM n M&&liv M w with
  |false =>
   have hd:cutR n M w f q=(Mz,1):=by unfold cutR;rw[hb];rfl
   rw[hd];simp only;rw[show (((Mz.1.1,Mz.1.2),(Mz.2.1.1,Mz.2.1.2),Mz.2.2.1,Mz.2.2.2):Me)=Mz from rfl,zo4 n hn _ MW.z];rfl
  |true =>
   obtain⟨b1,b2⟩:=za_.1 hb;obtain⟨k,rfl,hk,hlv⟩:=zte b2;have hV:=(zoa n hn M hB).2.2.1 b1;have hI:=hV.mi hn hB;have h5:=hV.l5;obtain⟨a1,a2,_⟩:=(hV.sp k (by omega)).2 hlv
   cases hc:okC (rw' M.2.2.1 k).2.1 f q with
   |false =>
    have hd:cutR n M (k:Int) f q=(M,4):=by unfold cutR;rw[hb,cond_true,zaa,hc];rfl
    rw[hd];simp only;rw[show (((M.1.1,M.1.2),(M.2.1.1,M.2.1.2),M.2.2.1,M.2.2.2):Me)=M from rfl,zo4 n hn M hM];rfl
   |true =>
    have a:=ykb hc;have hl6:=zs6 hc;obtain⟨f',rfl⟩:=Int.eq_ofNat_of_zero_le a.1;obtain⟨q',rfl⟩:=Int.eq_ofNat_of_zero_le (show 0≤q by omega);have hd:cutR n M (k:Int) (f':Int) (q':Int)=(zfz k (rngL f' q') (zfw M k (cutL (f':Int) ((f':Int)+(q':Int)) (rw' M.2.2.1 k).2.1)),0):=by unfold cutR;rw[hb,cond_true,zaa,hc];rfl
    have hI1:MI (zfw M k (cutL (f':Int) ((f':Int)+(q':Int)) (rw' M.2.2.1 k).2.1)):=hI.areas (by omega) hl6
    have C:=yac hn (show k < 5 by omega) q' f' (zfw M k (cutL (f':Int) ((f':Int) + (q':Int)) (rw' M.2.2.1 k).2.1)) (by omega) hV.p1 hV.p2 hI1 (by
     show (rw' (M.2.2.1.set k _) k).2.2.length=16
     rw[rw',zay hk];exact a2)
    rw[hd];generalize zfz k (rngL f' q') (zfw M k (cutL (f':Int) ((f':Int)+(q':Int)) (rw' M.2.2.1 k).2.1))=D at *;obtain⟨hV2,g1,g2⟩:=MV.cut hn hV hI (show k<5 by omega) hlv (by omega) hl6 C;have hI2:=C.i;have en:∀ b:Bool,(!b == b)=false:=fun b=>by cases b <;> rfl
    have d0:decide ((0:Int)=0)=true:=rfl;simp only;rw[show (((D.1.1,D.1.2),(D.2.1.1,D.2.1.2),D.2.2.1,D.2.2.2):Me)=D from rfl,zo4 n hn D (hV2.mw hn (hI2.bg hn))];simp only[Option.bind_some,cond_true,d0,Bool.not_true,cond_false];exact zre n hn M D hV hI hV2 hI2 k f' q' (by omega) g1 g2 5 0 n rfl (by omega)
theorem law3(l:List Int)(hl:∀ x∈l,0≤x∧x<256):q3 2000 (l,())=some ((true,()),()):=by
 obtain⟨M,w,f,q,e1,hM,_⟩:=yo7 hl;exact law3n 2000 (Nat.le_refl _) l M w f q e1 hM
theorem pure3(l:List Int)(h:WfT (.row 5 (.int .u8)) l):∃ n o,q3 n (l,())=some ((true,()),o):=⟨2000,(),law3 l fun x hx=>ymk (h.2 x hx)⟩
end Go.Proofs.Ytdkaagpkeomhmaa.Rx.S
