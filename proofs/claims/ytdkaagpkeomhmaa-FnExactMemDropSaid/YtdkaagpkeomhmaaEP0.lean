/- Plain laws of those functions, no program in sight: the law answers true on all data. No condition. -/
import GoSem.Claim
import Derived.Test.YtdkaagpkeomhmaaEF1
set_option linter.unusedVariables false
set_option linter.unusedSimpArgs false
namespace Go.Proofs.Ytdkaagpkeomhmaa.Rx.Pu
open Go
theorem wr{x:Int}(h0:-9223372036854775808≤x)(h1:x≤9223372036854775807):IntKind.i64.wrap x=x:=by
 have e1:(2:Int) ^ IntKind.i64.bits=18446744073709551616:=rfl
 have e2:(2:Int) ^ (IntKind.i64.bits - 1)=9223372036854775808:=rfl
 have e3:IntKind.i64.signed=true:=rfl
 unfold IntKind.wrap
 simp only[e1,e2,e3,Bool.true_and,decide_eq_true_eq]
 split <;> omega
theorem zaa(i:Nat):((i:Int)).toNat=i:=rfl
theorem xor_small{a b:Int}(ha:0≤a)(ha2:a<4611686018427387904)(hb:0≤b)(hb2:b<4611686018427387904) :
  0≤IntKind.i64.wrap ((BitVec.ofInt IntKind.i64.bits a ^^^ BitVec.ofInt IntKind.i64.bits b).toNat:Int):=by
 have e0:IntKind.i64.bits=64:=rfl
 obtain⟨m,rfl⟩:=Int.eq_ofNat_of_zero_le ha
 obtain⟨k,rfl⟩:=Int.eq_ofNat_of_zero_le hb
 have hm:m<2 ^ 62:=by omega
 have hk:k<2 ^ 62:=by omega
 have hx:m ^^^ k<2 ^ 62:=Nat.xor_lt_two_pow hm hk
 have e:(BitVec.ofInt IntKind.i64.bits (m:Int) ^^^ BitVec.ofInt IntKind.i64.bits (k:Int)).toNat=m ^^^ k:=by
  have h1:∀ j:Nat,j<2 ^ 62→(BitVec.ofInt IntKind.i64.bits (j:Int)).toNat=j:=by
   intro j hj
   rw[BitVec.toNat_ofInt]
   have e9:((2 ^ IntKind.i64.bits:Nat):Int)=18446744073709551616:=rfl
   rw[e9]
   omega
  rw[BitVec.toNat_xor,h1 m hm,h1 k hk]
 rw[e,wr (by omega) (by omega)]
 omega
theorem zdm{a b:Int}(ha:0≤a)(hb:1≤b):0≤a.tmod b∧a.tmod b<b:=by
 rw[Int.tmod_eq_emod_of_nonneg ha]
 exact⟨Int.emod_nonneg _ (by omega),Int.emod_lt_of_pos _ (by omega)⟩
theorem tdiv_range{a b:Int}(ha:0≤a)(hb:1≤b):0≤a.tdiv b∧a.tdiv b≤a:=by
 rw[Int.tdiv_eq_ediv_of_nonneg ha]
 exact⟨Int.ediv_nonneg ha (by omega),Int.ediv_le_self _ ha⟩
end Go.Proofs.Ytdkaagpkeomhmaa.Rx.Pu
namespace Go.Proofs.Ytdkaagpkeomhmaa.Rx.S
open Go Go.Proofs.Ytdkaagpkeomhmaa.Rx Go.Proofs.Ytdkaagpkeomhmaa.Rx.Pu
set_option maxRecDepth 100000
abbrev Pg:=List ByteArray×List Int
abbrev Ar:=Int×Int×Bool×Bool
abbrev Sp:=Bool×List Ar×List Ar
abbrev Me:=Pg×Pg×List Sp×Int
def isT(kd a:Int)(x:Ar):Bool:=decide (x.1=kd)&&decide (x.2.1=a)
def cnt(kd a:Int)(l:List Ar):Nat:=l.countP (isT kd a)
def told(kd a:Int)(S:List Sp):Nat:=(S.map fun s=>cnt kd a s.2.2).sum
def mapS(g:Ar→Ar)(S:List Sp):List Sp:=S.map fun s=>(s.1,s.2.1,s.2.2.map g)
def turnG(k a k' a':Int)(x:Ar):Ar:=if x.1=k∧x.2.1=a then (k',a',x.2.2.1,x.2.2.2) else x
theorem lt_t{i n:Nat}(h:i<n):decide ((i:Int)<(n:Int))=true:=by simp;omega
theorem lt_f(n:Nat):decide ((n:Int)<(n:Int))=false:=by simp
theorem ge_t(i:Nat):decide ((0:Int)≤(i:Int))=true:=by simp
theorem wS{i:Nat}(h:i≤1000000):IntKind.i64.wrap ((i:Int)+1)=((i+1:Nat):Int):=by rw[wr (by omega) (by omega)];omega
theorem zbj{α:Type}(pre:List α)(s:α)(post:List α)(d:α):(pre++s::post).getD pre.length d=s:=by simp
theorem set_pre{α:Type}(pre:List α)(s s':α)(post:List α):(pre++s::post).set pre.length s'=pre++s'::post:=by simp
theorem len_pre{α:Type}(pre:List α)(s:α)(post:List α):pre.length<(pre++s::post).length:=by simp
theorem zdb{α:Type}(pre:List α)(s:α)(post:List α):decide ((pre.length:Int)<((pre++s::post).length:Int))=true:=lt_t (len_pre pre s post)
theorem zav{kd a:Int}{x:Ar}:isT kd a x=true↔x.1=kd∧x.2.1=a:=by simp[isT]
theorem cnt_le(kd a:Int)(l:List Ar):cnt kd a l≤l.length:=List.countP_le_length
theorem zbe(kd a:Int)(s:Sp)(S:List Sp):told kd a (s::S)=cnt kd a s.2.2+told kd a S:=by simp[told]
theorem told_nil(kd a:Int):told kd a []=0:=rfl
theorem zbk(kd a:Int)(x:Ar)(l:List Ar):cnt kd a (x::l)=cnt kd a l+(if isT kd a x then 1 else 0):=by simp[cnt,List.countP_cons]
theorem cnt_pos{kd a:Int}{l:List Ar}{x:Ar}(hx:x∈l)(h:isT kd a x=true):0<cnt kd a l:=List.countP_pos_iff.2 ⟨x,hx,h⟩
theorem zb_{kd a:Int}:∀ {S:List Sp} {s:Sp} {x:Ar},s∈S→x∈s.2.2→isT kd a x=true→0<told kd a S
 | t::S,s,x,hs,hx,h=>by
  rw[zbe]
  rcases List.mem_cons.1 hs with rfl | hs
  ·have:=cnt_pos hx h;omega
  ·have:=zb_ hs hx h;omega
theorem zfo(kd a:Int)(s':Sp):∀ (S:List Sp) (w:Nat),w<S.length→told kd a (S.set w s')+cnt kd a (S.getD w (false,[],[])).2.2=told kd a S+cnt kd a s'.2.2
 | [],w,h=>by simp at h
 | s::S,0,h=>by simp only[List.set_cons_zero,zbe,List.getD_cons_zero];omega
 | s::S,w+1,h=>by
  have:=zfo kd a s' S w (by simp at h;omega)
  simp only[List.set_cons_succ,zbe,List.getD_cons_succ];omega
theorem cnt_set(kd a:Int)(y:Ar):∀ (l:List Ar) (p:Nat),p<l.length→cnt kd a (l.set p y)+(if isT kd a (l.getD p (0,0,false,false)) then 1 else 0)=cnt kd a l+(if isT kd a y then 1 else 0)
 | [],p,h=>by simp at h
 | x::l,0,h=>by simp only[List.set_cons_zero,zbk,List.getD_cons_zero];omega
 | x::l,p+1,h=>by
  have:=cnt_set kd a y l p (by simp at h;omega)
  simp only[List.set_cons_succ,zbk,List.getD_cons_succ];omega
theorem zik{kd a:Int}{g:Ar→Ar}(h:∀ x,isT kd a (g x)=isT kd a x):∀ l:List Ar,cnt kd a (l.map g)=cnt kd a l
 | []=>rfl
 | x::l=>by rw[List.map_cons,zbk,zbk,zik h l,h]
theorem zfp{kd a:Int}{g:Ar→Ar}(h:∀ x,isT kd a (g x)=isT kd a x):∀ S:List Sp,told kd a (mapS g S)=told kd a S
 | []=>rfl
 | s::S=>by
  have:=zfp h S
  simp only[mapS,List.map_cons,zbe]at this ⊢
  rw[this,zik h]
theorem isT_turn_other{kd i k a k' a':Int}(h1:¬(kd=k'∧i=a'))(h2:¬(kd=k∧i=a))(x:Ar):isT kd i (turnG k a k' a' x)=isT kd i x:=by
 unfold turnG
 split
 ·rename_i h
  have e1:isT kd i (k',a',x.2.2.1,x.2.2.2)=false:=by
   rw[Bool.eq_false_iff];intro hh;exact h1 ⟨(zav.1 hh).1.symm,(zav.1 hh).2.symm⟩
  have e2:isT kd i x=false:=by
   rw[Bool.eq_false_iff];intro hh;exact h2 ⟨(zav.1 hh).1.symm.trans h.1,(zav.1 hh).2.symm.trans h.2⟩
  rw[e1,e2]
 ·rfl
theorem zc3{kd i k a k' a':Int}(h1:¬(kd=k'∧i=a'))(h2:¬(kd=k∧i=a))(S:List Sp):told kd i (mapS (turnG k a k' a') S)=told kd i S:=zfp (isT_turn_other h1 h2) S
theorem zhk{k a k' a':Int}(hne:¬(k=k'∧a=a')):∀ l:List Ar,cnt k a (l.map (turnG k a k' a'))=0
 | []=>rfl
 | x::l=>by
  rw[List.map_cons,zbk,zhk hne l]
  have:isT k a (turnG k a k' a' x)=false:=by
   rw[Bool.eq_false_iff];intro hh
   have:=zav.1 hh
   unfold turnG at this
   split at this
   ·exact hne ⟨this.1.symm,this.2.symm⟩
   ·rename_i h;exact h this
  rw[this];rfl
theorem zev{k a k' a':Int}(hne:¬(k=k'∧a=a')):∀ S:List Sp,told k a (mapS (turnG k a k' a') S)=0
 | []=>rfl
 | s::S=>by
  have:=zev hne S
  simp only[mapS,List.map_cons,zbe]at this ⊢
  rw[this,zhk hne]
theorem zlh{k a k' a':Int}(hne:¬(k=k'∧a=a')):∀ l:List Ar,cnt k' a' (l.map (turnG k a k' a'))=cnt k' a' l+cnt k a l
 | []=>rfl
 | x::l=>by
  rw[List.map_cons,zbk,zlh hne l,zbk,zbk]
  by_cases h:x.1=k∧x.2.1=a
  ·have e1:turnG k a k' a' x=(k',a',x.2.2.1,x.2.2.2):=by unfold turnG;rw[if_pos h]
   have e2:isT k' a' (turnG k a k' a' x)=true:=by rw[e1];exact zav.2 ⟨rfl,rfl⟩
   have e3:isT k' a' x=false:=by
    rw[Bool.eq_false_iff];intro hh
    have:=zav.1 hh
    exact hne ⟨h.1.symm.trans this.1,h.2.symm.trans this.2⟩
   have e4:isT k a x=true:=zav.2 h
   simp only[e2,e3,e4,if_true]
   simp
   omega
  ·have e1:turnG k a k' a' x=x:=by unfold turnG;rw[if_neg h]
   have e4:isT k a x=false:=by
    rw[Bool.eq_false_iff];intro hh;exact h (zav.1 hh)
   rw[e1,e4]
   simp
   omega
theorem zib{k a k' a':Int}(hne:¬(k=k'∧a=a')):∀ S:List Sp,told k' a' (mapS (turnG k a k' a') S)=told k' a' S+told k a S
 | []=>rfl
 | s::S=>by
  have:=zib hne S
  simp only[mapS,List.map_cons,zbe]at this ⊢
  rw[this,zlh hne]
  omega
structure PgI(kd:Int)(P:Pg)(S:List Sp):Prop where
 l1:P.1.length=12
 l2:P.2.length=12
 c:∀ i:Nat,i<12→P.2.getD i 0=(told kd i S:Int)
 s:∀ i:Nat,i<12→P.2.getD i 0≠0→(P.1.getD i ByteArray.empty).size=4
def SlI(x:Ar):Prop:=0≤x.1∧x.1≤2∧(x.1≠0→0≤x.2.1∧x.2.1<12)
structure RwI(s:Sp):Prop where
 ar:s.2.1.length≤6
 lv:s.1=true→s.2.2.length=16
 dd:s.1=false→s.2.2=[]
 sl:∀ x∈s.2.2,SlI x
structure SpI(S:List Sp):Prop where
 len:S.length=5
 rw:∀ s∈S,RwI s
structure MI(m:Me):Prop where
 sp:SpI m.2.2.1
 ram:PgI 1 m.1 m.2.2.1
 swp:PgI 2 m.2.1 m.2.2.1
 h0:0≤m.2.2.2
 h1:m.2.2.2<12
theorem RwI.len{s:Sp}(h:RwI s):s.2.2.length≤16:=by
 cases hb:s.1 with
 | true=>rw[h.lv hb];decide
 | false=>rw[h.dd hb];decide
theorem told_le:∀ {S:List Sp},(∀ s∈S,RwI s)→∀ kd a,told kd a S≤16*S.length
 | [],_,kd,a=>Nat.zero_le _
 | s::S,h,kd,a=>by
  rw[zbe]
  have h1:=told_le (fun t ht=>h t (List.mem_cons_of_mem _ ht)) kd a
  have h2:=cnt_le kd a s.2.2
  have h3:=(h s List.mem_cons_self).len
  simp only[List.length_cons]
  omega
theorem SpI.told{S:List Sp}(h:SpI S)(kd a:Int):told kd a S≤80:=by
 have:=told_le h.rw kd a
 rw[h.len]at this
 exact this
theorem zam{α:Type}{l:List α}{i:Nat}{d:α}(h:i<l.length):l.getD i d∈l:=by
 rw[List.getD_eq_getElem?_getD,List.getElem?_eq_getElem h];exact List.getElem_mem h
theorem SpI.map{S:List Sp}(h:SpI S){g:Ar→Ar}(hg:∀ x,SlI x→SlI (g x)):SpI (mapS g S):=by
 refine⟨by simp[mapS,h.len],fun s hs=>?_⟩
 simp only[mapS,List.mem_map]at hs
 obtain⟨t,ht,rfl⟩:=hs
 have hr:=h.rw t ht
 refine⟨hr.ar,fun hb=>by simpa using hr.lv hb,fun hb=>by simp[hr.dd hb],fun x hx=>?_⟩
 obtain⟨y,hy,rfl⟩:=List.mem_map.1 hx
 exact hg y (hr.sl y hy)
theorem SpI.set{S:List Sp}(h:SpI S){w:Nat}{s:Sp}(hs:RwI s):SpI (S.set w s):=by
 refine⟨by simp[h.len],fun t ht=>?_⟩
 rcases List.mem_or_eq_of_mem_set ht with ht | rfl
 ·exact h.rw t ht
 ·exact hs
theorem RwI.set{s:Sp}(h:RwI s){p:Nat}{y:Ar}(hy:SlI y):RwI (s.1,s.2.1,s.2.2.set p y):=by
 refine⟨h.ar,fun hb=>by simpa using h.lv hb,fun hb=>by simp[h.dd hb],fun x hx=>?_⟩
 rcases List.mem_or_eq_of_mem_set hx with hx | rfl
 ·exact h.sl x hx
 ·exact hy
theorem slI_turn{k a k' a':Int}{x:Ar}(hk:0≤k'∧k'≤2)(ha:0≤a'∧a'<12)(h:SlI x):SlI (turnG k a k' a' x):=by
 unfold turnG;split
 ·exact⟨hk.1,hk.2,fun _=>ha⟩
 ·exact h
theorem mapS_len(g:Ar→Ar)(S:List Sp):(mapS g S).length=S.length:=by simp[mapS]
theorem mapS_getD(g:Ar→Ar)(S:List Sp){w:Nat}(h:w<S.length):(mapS g S).getD w (false,[],[])=((S.getD w (false,[],[])).1,(S.getD w (false,[],[])).2.1,(S.getD w (false,[],[])).2.2.map g):=by
 simp[mapS,List.getD_eq_getElem?_getD,List.getElem?_eq_getElem h]
def ff(l:List Int):Nat:=l.findIdx fun x=>decide (x=0)
theorem ff_get{l:List Int}(h:ff l<l.length):l.getD (ff l) 0=0:=by
 have this:decide (l[ff l]=0)=true:=List.findIdx_getElem (w:=h)
 rw[List.getD_eq_getElem?_getD,List.getElem?_eq_getElem h]
 exact of_decide_eq_true this
theorem za4{α:Type}(l:List α)(i j:Nat)(y d:α)(h:i<l.length):(l.set i y).getD j d=if j=i then y else l.getD j d:=by
 rw[List.getD_eq_getElem?_getD,List.getElem?_set,List.getD_eq_getElem?_getD]
 by_cases e:i=j
 ·subst e;simp[h]
 ·simp[e,Ne.symm e]
theorem nxt{h:Int}(h0:0≤h)(h1:h<12):(IntKind.i64.wrap (h+1)).tmod 12=(h+1) % 12:=by
 rw[wr (by omega) (by omega),Int.tmod_eq_emod_of_nonneg (by omega)]
theorem MI.out{R W:Pg}{S:List Sp}{h:Int}(hM:MI (R,W,S,h)){k:Nat}(hk:k<12)(hf:ff W.2<12) :
  MI ((R.1.set k (ByteArray.mk #[]),R.2.set k 0),(W.1.set (ff W.2) (R.1.getD k ByteArray.empty),(W.2.set (ff W.2) 1).set (ff W.2) (R.2.getD k 0)),mapS (turnG 1 k 2 (ff W.2)) S,h):=by
 have hne:¬((1:Int)=2∧(k:Int)=(ff W.2:Int)):=by omega
 have hl1:=hM.ram.l1
 have hl2:=hM.ram.l2
 have hw1:=hM.swp.l1
 have hw2:=hM.swp.l2
 simp only at hl1 hl2 hw1 hw2
 have hz:W.2.getD (ff W.2) 0=0:=ff_get (by omega)
 refine⟨hM.sp.map fun x hx=>slI_turn (by omega) ⟨by omega,by omega⟩ hx,⟨by simpa using hl1,by simpa using hl2,fun i hi=>?_,fun i hi h0=>?_⟩,⟨by simpa using hw1,by simpa using hw2,fun i hi=>?_,fun i hi h0=>?_⟩,hM.h0,hM.h1⟩
 ·simp only
  rw[za4 _ _ _ _ _ (by omega)]
  by_cases e:i=k
  ·subst e;rw[if_pos rfl,zev hne];rfl
  ·rw[if_neg e,zc3 (by omega) (by omega)];exact hM.ram.c i hi
 ·simp only at h0 ⊢
  rw[za4 _ _ _ _ _ (by omega)]at h0 ⊢
  by_cases e:i=k
  ·rw[if_pos e]at h0;exact absurd rfl h0
  ·rw[if_neg e]at h0 ⊢;exact hM.ram.s i hi h0
 ·simp only
  rw[List.set_set,za4 _ _ _ _ _ (by omega)]
  by_cases e:i=ff W.2
  ·rw[if_pos e,e,zib hne]
   have h1:=hM.swp.c (ff W.2) hf
   have h2:=hM.ram.c k hk
   simp only at h1 h2
   rw[hz]at h1
   rw[h2];omega
  ·rw[if_neg e,zc3 (by omega) (by omega)];exact hM.swp.c i hi
 ·simp only at h0 ⊢
  rw[List.set_set,za4 _ _ _ _ _ (by omega)]at h0
  rw[za4 _ _ _ _ _ (by omega)]
  by_cases e:i=ff W.2
  ·rw[if_pos e]at h0 ⊢;exact hM.ram.s k hk h0
  ·rw[if_neg e]at h0 ⊢;exact hM.swp.s i hi h0
abbrev rw'(S:List Sp)(w:Nat):Sp:=S.getD w (false,[],[])
abbrev sl(S:List Sp)(w p:Nat):Ar:=List.getD (List.getD S w (false,[],[])).2.2 p (0,0,false,false)
abbrev setS(S:List Sp)(w p:Nat)(y:Ar):List Sp:=S.set w ((S.getD w (false,[],[])).1,(S.getD w (false,[],[])).2.1,List.set (S.getD w (false,[],[])).2.2 p y)
def RS(S S':List Sp):Prop:=∀ w,(rw' S' w).1=(rw' S w).1∧(rw' S' w).2.1=(rw' S w).2.1∧(rw' S' w).2.2.length=(rw' S w).2.2.length
theorem RS.refl(S:List Sp):RS S S:=fun _=>⟨rfl,rfl,rfl⟩
theorem RS.trans{S T U:List Sp}(h:RS S T)(k:RS T U):RS S U:=fun w=>⟨(k w).1.trans (h w).1,(k w).2.1.trans (h w).2.1,(k w).2.2.trans (h w).2.2⟩
theorem RS.map(g:Ar→Ar)(S:List Sp):RS S (mapS g S):=fun w=>by
 by_cases h:w<S.length
 ·rw[rw',mapS_getD g S h];exact⟨rfl,rfl,by simp⟩
 ·have e1:rw' (mapS g S) w=(false,[],[]):=by rw[rw',List.getD_eq_getElem?_getD,List.getElem?_eq_none (by rw[mapS_len];omega)];rfl
  have e2:rw' S w=(false,[],[]):=by rw[rw',List.getD_eq_getElem?_getD,List.getElem?_eq_none (by omega)];rfl
  rw[e1,e2];exact⟨rfl,rfl,rfl⟩
theorem zb8{α:Type}{l:List α}{i:Nat}{y d:α}(h:i<l.length):(l.set i y).getD i d=y:=by rw[za4 _ _ _ _ _ h,if_pos rfl]
theorem getD_set_ne{α:Type}{l:List α}{i j:Nat}{y d:α}(h:i<l.length)(hn:j≠i):(l.set i y).getD j d=l.getD j d:=by rw[za4 _ _ _ _ _ h,if_neg hn]
theorem RS.set(S:List Sp)(w p:Nat)(y:Ar)(hw:w<S.length):RS S (setS S w p y):=fun v=>by
 by_cases e:v=w
 ·subst e;rw[rw',setS,zb8 hw];exact⟨rfl,rfl,by simp⟩
 ·rw[rw',setS,getD_set_ne hw e];exact⟨rfl,rfl,rfl⟩
theorem zbb(kd a:Int)(S:List Sp)(w p:Nat)(y:Ar)(hw:w<S.length)(hp:p<(rw' S w).2.2.length) :
  told kd a (setS S w p y)+(if isT kd a (sl S w p) then 1 else 0)=told kd a S+(if isT kd a y then 1 else 0):=by
 have h1:=zfo kd a ((S.getD w (false,[],[])).1,(S.getD w (false,[],[])).2.1,List.set (S.getD w (false,[],[])).2.2 p y) S w hw
 have h2:=cnt_set kd a y (S.getD w (false,[],[])).2.2 p hp
 simp only at h1
 simp only[setS,sl]
 omega
theorem SpI.setS{S:List Sp}(h:SpI S){w p:Nat}(hw:w<5){y:Ar}(hy:SlI y):SpI (setS S w p y) :=
 SpI.set h ((h.rw _ (zam (by rw[h.len];exact hw))).set hy)
theorem SpI.slI{S:List Sp}(h:SpI S){w p:Nat}(hw:w<5)(hp:p<(rw' S w).2.2.length):SlI (sl S w p) :=
 (h.rw _ (zam (by rw[h.len];exact hw))).sl _ (zam hp)
theorem isT_same{kd a:Int}{x y:Ar}(h:y.1=x.1∧y.2.1=x.2.1):isT kd a y=isT kd a x:=by unfold isT;rw[h.1,h.2]
theorem told_same{kd a:Int}{S:List Sp}{w p:Nat}{y:Ar}(hw:w<S.length)(hp:p<(rw' S w).2.2.length)(h:y.1=(sl S w p).1∧y.2.1=(sl S w p).2.1):told kd a (setS S w p y)=told kd a S:=by
 have:=zbb kd a S w p y hw hp
 rw[isT_same h]at this
 omega
theorem zbg{kd a:Int}{x:Ar}(h:x.1≠kd):isT kd a x=false:=by
 rw[Bool.eq_false_iff];intro hh;exact h (zav.1 hh).1
theorem MI.take{M:Me}(hM:MI M){w p:Nat}{y:Ar}{t:ByteArray}(hw:w<5)(hp:p<(rw' M.2.2.1 w).2.2.length)(h0:(sl M.2.2.1 w p).1=0)(hf:ff M.1.2<12)(hy:y.1=1∧y.2.1=(ff M.1.2:Int))(ht:t.size=4) :
  MI ((M.1.1.set (ff M.1.2) t,M.1.2.set (ff M.1.2) 1),M.2.1,setS M.2.2.1 w p y,M.2.2.2):=by
 have hw':w<M.2.2.1.length:=by rw[hM.sp.len];exact hw
 have hl1:=hM.ram.l1
 have hl2:=hM.ram.l2
 have hy':SlI y:=by unfold SlI;rw[hy.1,hy.2];omega
 refine⟨hM.sp.setS hw hy',⟨by simpa using hl1,by simpa using hl2,fun i hi=>?_,fun i hi hz=>?_⟩,⟨hM.swp.l1,hM.swp.l2,fun i hi=>?_,hM.swp.s⟩,hM.h0,hM.h1⟩
 ·have h1:=zbb 1 i M.2.2.1 w p y hw' hp
  rw[zbg (x:=sl M.2.2.1 w p) (by rw[h0];decide)]at h1
  have h2:=hM.ram.c i hi
  simp only
  rw[za4 _ _ _ _ _ (by omega)]
  by_cases e:i=ff M.1.2
  ·have e2:isT 1 i y=true:=zav.2 ⟨hy.1,by rw[hy.2,e]⟩
   rw[e2]at h1
   have h3:M.1.2.getD i 0=0:=by rw[e];exact ff_get (by omega)
   rw[if_pos e]
   simp at h1
   omega
  ·have e2:isT 1 i y=false:=by
    rw[Bool.eq_false_iff];intro hh
    have:=(zav.1 hh).2
    rw[hy.2]at this;omega
   rw[e2]at h1
   rw[if_neg e]
   simp at h1
   omega
 ·simp only at hz ⊢
  rw[za4 _ _ _ _ _ (by omega)]at hz ⊢
  by_cases e:i=ff M.1.2
  ·rw[if_pos e];exact ht
  ·rw[if_neg e]at hz ⊢;exact hM.ram.s i hi hz
 ·have h1:=zbb 2 i M.2.2.1 w p y hw' hp
  rw[zbg (x:=sl M.2.2.1 w p) (by rw[h0];decide),zbg (x:=y) (by rw[hy.1];decide)]at h1
  have h2:=hM.swp.c i hi
  simp at h1
  simp only
  rw[h2,h1]
theorem zbm(n:Nat)(a b c:Int):q69 n (a,b,c,())=some ((decide (b≤a)&&decide (a≤c),()),()):=by
 show ziv n a b c=_
 rw[ziv]
 by_cases h:b≤a <;> simp[h]
def inA(b:Int)(x:Ar):Bool:=decide (x.1≤b)&&decide (b≤IntKind.i64.wrap (IntKind.i64.wrap (x.1+x.2.1) - 1))
def at2(l:List Ar)(b:Int):Int:=if l.findIdx (inA b)<l.length then (l.findIdx (inA b):Int) else -1
theorem at2_rng(l:List Ar)(b:Int):-1≤at2 l b∧at2 l b<l.length:=by unfold at2;split <;> omega
theorem p71_L2_eq(n:Nat)(b:Int)(l:List Ar)(hs:l.length≤1000):∀ (rest done:List Ar) (m:Nat),done++rest=l→rest.length<m→(∀ x∈done,inA b x=false)→p71_L2 n m l b (done.length:Int)=some ((at2 l b,()),())
 | [],done,0,hd,h,_=>by simp at h
 | [],done,m+1,hd,h,hz=>by
  have hd':done=l:=by simpa using hd
  subst hd'
  have hf:¬ done.findIdx (inA b)<done.length:=by
   rw[List.findIdx_lt_length]
   rintro ⟨x,hx,hh⟩
   rw[hz x hx]at hh;cases hh
  show zht n _ _ _ _=_
  simp only[zht,lt_f,cond_false,at2,if_neg hf]
 | x::rest,done,0,hd,h,_=>by simp at h
 | x::rest,done,m+1,hd,h,hz=>by
  have hl:done.length<l.length:=by rw[← hd];simp
  have hg:l.getD done.length (0,0,false,false)=x:=by rw[← hd];simp
  show zht n _ _ _ _=_
  simp only[zht,lt_t hl,ge_t,cond_true,zaa,hg]
  rw[zbm]
  simp only[Option.bind_some]
  by_cases hx:inA b x=true
  ·have hf:l.findIdx (inA b)=done.length:=by
    rw[← hd,List.findIdx_append,List.findIdx_eq_length_of_false hz]
    simp[List.findIdx_cons,hx]
   have hx':=hx
   unfold inA at hx'
   rw[hx']
   simp only[cond_true,at2,hf,if_pos hl]
  ·have hx2:inA b x=false:=by simpa using hx
   have hx':=hx2
   unfold inA at hx'
   rw[hx']
   simp only[cond_false]
   have ih:=p71_L2_eq n b l hs rest (done++[x]) m (by simpa using hd) (by simp at h;omega) (by
    intro y hy
    rcases List.mem_append.1 hy with hy | hy
    ·exact hz y hy
    ·rw[List.mem_singleton.1 hy];exact hx2)
   simp only[List.length_append,List.length_cons,List.length_nil,Nat.zero_add]at ih
   rw[wS (by omega),ih]
theorem q71_eq(n:Nat)(hn:2000≤n)(l:List Ar)(b:Int)(hs:l.length≤1000):q71 n (l,b,())=some ((at2 l b,()),()) :=
 p71_L2_eq n b l hs l [] n rfl (by omega) (fun _ h=>by simp at h)
theorem q123_eq(n:Nat)(P:Pg)(h1:P.1.length≤1000)(h2:P.2.length≤1000):q123 n (P,())=some ((P,()),()):=by
 show zgb n P=_
 have e1:decide ((0+List.length P.1)*(16:Nat)≤140737488355328)=true:=by simp;omega
 have e2:decide ((0+List.length P.2)*(8:Nat)≤140737488355328)=true:=by simp;omega
 simp only[zgb,e1,e2,cond_true]
theorem p56_L3_eq(n:Nat)(x1:List ByteArray)(x2:List Int)(x3:List ByteArray)(x4:List Int)(x6 x7 x8:Int)(x9:List ByteArray)(x10:List Int)(x11:List ByteArray)(x12:List Int)(S:List Sp)(hs:S.length≤1000)(hS:∀ s∈S,s.2.1.length≤1000∧s.2.2.length≤1000) :
  ∀ (rest done:List Sp) (m:Nat),done++rest=S→rest.length<m→p56_L3 n m (done.length:Int) x1 x2 x3 x4 S x6 x7 x8 x9 x10 x11 x12 done=some ((((x9,x10),((x11,x12),(S,x8))),()),())
 | [],done,0,hd,h=>by simp at h
 | [],done,m+1,hd,h=>by
  have hd':done=S:=by simpa using hd
  subst hd'
  show zhu n _ _ _ _ _ _ _ _ _ _ _ _ _ _ _=_
  simp only[zhu,lt_f,cond_false]
 | s::rest,done,0,hd,h=>by simp at h
 | s::rest,done,m+1,hd,h=>by
  have hl:done.length<S.length:=by rw[← hd];simp
  have hg:S.getD done.length (false,[],[])=s:=by rw[← hd];simp
  have hb:=hS s (by rw[← hd];simp)
  have e1:decide ((0+s.2.1.length)*(24:Nat)≤140737488355328)=true:=by simp;omega
  have e2:decide ((0+s.2.2.length)*(24:Nat)≤140737488355328)=true:=by simp;omega
  have e3:decide ((done.length+1)*(56:Nat)≤140737488355328)=true:=by simp;omega
  show zhu n _ _ _ _ _ _ _ _ _ _ _ _ _ _ _=_
  simp only[zhu,lt_t hl,ge_t,cond_true,zaa,hg,List.length_cons,List.length_nil,Nat.zero_add]at e1 e2 ⊢
  simp only[e1,e2,e3,cond_true]
  have ih:=p56_L3_eq n x1 x2 x3 x4 x6 x7 x8 x9 x10 x11 x12 S hs hS rest (done++[s]) m (by simpa using hd) (by simp at h;omega)
  simp only[List.length_append,List.length_cons,List.length_nil,Nat.zero_add]at ih
  rw[wS (by omega)]
  exact ih
theorem q56_eq(n:Nat)(hn:2000≤n)(M:Me)(h1:M.1.1.length≤1000∧M.1.2.length≤1000)(h2:M.2.1.1.length≤1000∧M.2.1.2.length≤1000)(hs:M.2.2.1.length≤1000)(hS:∀ s∈M.2.2.1,s.2.1.length≤1000∧s.2.2.length≤1000):q56 n (M,())=some ((M,()),()):=by
 show zi1 n (p56_L3 n n) M=_
 rw[zi1,q123_eq n M.1 h1.1 h1.2]
 simp only[Option.bind_some]
 rw[q123_eq n M.2.1 h2.1 h2.2]
 simp only[Option.bind_some]
 exact p56_L3_eq n M.1.1 M.1.2 M.2.1.1 M.2.1.2 M.2.2.2 0 M.2.2.2 M.1.1 M.1.2 M.2.1.1 M.2.1.2 M.2.2.1 hs hS M.2.2.1 [] n rfl (by omega)
theorem MI.copy{M:Me}(hM:MI M)(n:Nat)(hn:2000≤n):q56 n (M,())=some ((M,()),()):=by
 have h1:=hM.ram.l1
 have h2:=hM.ram.l2
 have h3:=hM.swp.l1
 have h4:=hM.swp.l2
 have h5:=hM.sp.len
 refine q56_eq n hn M (by omega) (by omega) (by omega) fun s hs=>?_
 have hr:=hM.sp.rw s hs
 have:=hr.ar
 have:=hr.len
 omega
structure PgC(P:Pg)(c:Nat→Nat):Prop where
 l1:P.1.length=12
 l2:P.2.length=12
 c:∀ i:Nat,i<12→P.2.getD i 0=(c i:Int)
 s:∀ i:Nat,i<12→P.2.getD i 0≠0→(P.1.getD i ByteArray.empty).size=4
theorem PgI.toC{kd:Int}{P:Pg}{S:List Sp}(h:PgI kd P S):PgC P (fun i=>told kd i S):=⟨h.l1,h.l2,h.c,h.s⟩
theorem PgC.toI{kd:Int}{P:Pg}{S:List Sp}{c:Nat→Nat}(h:PgC P c)(hc:∀ i,i<12→c i=told kd i S):PgI kd P S:=⟨h.l1,h.l2,fun i hi=>by rw[h.c i hi,hc i hi],h.s⟩
def giv(P:Pg)(k:Nat):Pg:=(if P.2.getD k 0 - 1=0 then P.1.set k (ByteArray.mk #[]) else P.1,P.2.set k (P.2.getD k 0 - 1))
theorem PgC.giv{P:Pg}{c:Nat→Nat}(h:PgC P c){k:Nat}(hk:k<12)(hc:1≤c k):PgC (giv P k) (fun i=>if i=k then c i - 1 else c i):=by
 have l1:=h.l1
 have l2:=h.l2
 refine⟨?_,by simp[S.giv,l2],fun i hi=>?_,fun i hi hz=>?_⟩
 ·unfold S.giv;simp only;split <;> simp[l1]
 ·simp only[S.giv]
  rw[za4 _ _ _ _ _ (by omega)]
  by_cases e:i=k
  ·subst e;rw[if_pos rfl,if_pos rfl,h.c i hi];omega
  ·rw[if_neg e,if_neg e];exact h.c i hi
 ·simp only[S.giv]at hz ⊢
  rw[za4 _ _ _ _ _ (by omega)]at hz
  by_cases e:i=k
  ·subst e
   rw[if_pos rfl]at hz
   rw[if_neg hz]
   have:=h.c i hi
   exact h.s i hi (by omega)
  ·rw[if_neg e]at hz
   have:=h.s i hi hz
   split
   ·rw[za4 _ _ _ _ _ (by omega),if_neg e];exact this
   ·exact this
theorem PgC.take{P:Pg}{c:Nat→Nat}(h:PgC P c)(hf:ff P.2<12){t:ByteArray}(ht:t.size=4):PgC (P.1.set (ff P.2) t,P.2.set (ff P.2) 1) (fun i=>if i=ff P.2 then 1 else c i):=by
 have l1:=h.l1
 have l2:=h.l2
 refine⟨by simpa using l1,by simpa using l2,fun i hi=>?_,fun i hi hz=>?_⟩
 ·simp only
  rw[za4 _ _ _ _ _ (by omega)]
  by_cases e:i=ff P.2
  ·rw[if_pos e,if_pos e];rfl
  ·rw[if_neg e,if_neg e];exact h.c i hi
 ·simp only at hz ⊢
  rw[za4 _ _ _ _ _ (by omega)]at hz ⊢
  by_cases e:i=ff P.2
  ·rw[if_pos e];exact ht
  ·rw[if_neg e]at hz ⊢;exact h.s i hi hz
theorem q160_eq(n:Nat)(P:Pg)(k:Nat)(h1:k<P.1.length)(h2:k<P.2.length)(hr:0≤P.2.getD k 0∧P.2.getD k 0<1000):q160 n (P,(k:Int),())=some ((giv P k,()),()):=by
 show zf0 n P k=_
 rw[zf0]
 simp only[ge_t,lt_t h1,lt_t h2,cond_true,zaa,List.length_set,zb8 h2]
 rw[wr (by omega) (by omega)]
 by_cases e:P.2.getD k 0 - 1=0
 ·simp only[e,decide_true,cond_true,giv,if_true]
 ·simp only[e,decide_false,cond_false,giv,if_false]
theorem MI.own{M:Me}(hM:MI M){w p k:Nat}{y:Ar}(hw:w<5)(hp:p<(rw' M.2.2.1 w).2.2.length)(hk:k<12)(h0:(sl M.2.2.1 w p).1=1∧(sl M.2.2.1 w p).2.1=(k:Int))(hf:ff M.1.2<12)(hy:y.1=1∧y.2.1=(ff M.1.2:Int)) :
  MI (giv (M.1.1.set (ff M.1.2) (M.1.1.getD k ByteArray.empty),M.1.2.set (ff M.1.2) 1) k,M.2.1,setS M.2.2.1 w p y,M.2.2.2)∧M.1.2.getD k 0≠0∧k≠ff M.1.2:=by
 have hw':w<M.2.2.1.length:=by rw[hM.sp.len];exact hw
 have hl2:=hM.ram.l2
 have hy':SlI y:=by unfold SlI;rw[hy.1,hy.2];omega
 have hpos:0<told 1 k M.2.2.1:=zb_ (zam hw') (zam hp) (zav.2 h0)
 have hck:=hM.ram.c k hk
 have hnz:M.1.2.getD k 0≠0:=by omega
 have hne:k≠ff M.1.2:=fun e=>hnz (by rw[e];exact ff_get (by omega))
 have hz:told 1 (ff M.1.2) M.2.2.1=0:=by
  have h1:=hM.ram.c (ff M.1.2) hf
  have h2:M.1.2.getD (ff M.1.2) 0=0:=ff_get (by omega)
  omega
 have hC:=(hM.ram.toC.take hf (hM.ram.s k hk hnz)).giv hk (by rw[if_neg hne];exact hpos)
 refine⟨⟨hM.sp.setS hw hy',hC.toI fun i hi=>?_,⟨hM.swp.l1,hM.swp.l2,fun i hi=>?_,hM.swp.s⟩,hM.h0,hM.h1⟩,hnz,hne⟩
 ·have h1:=zbb 1 i M.2.2.1 w p y hw' hp
  have e1:isT 1 i (sl M.2.2.1 w p)=decide (i=k):=by
   unfold isT;rw[h0.1,h0.2]
   by_cases e:i=k
   ·simp[e]
   ·simp[e];omega
  have e2:isT 1 i y=decide (i=ff M.1.2):=by
   unfold isT;rw[hy.1,hy.2]
   by_cases e:i=ff M.1.2
   ·simp[e]
   ·simp[e];omega
  rw[e1,e2]at h1
  by_cases e:i=k
  ·subst e
   simp[hne]at h1
   simp[hne]
   omega
  ·by_cases e3:i=ff M.1.2
   ·rw[← e3]at hz
    simp only[e3,e,hz,decide_true,if_true]at h1 ⊢
    simp[Ne.symm hne]at h1 ⊢
    rw[e3]at hz
    omega
   ·simp[e,e3]at h1 ⊢
    omega
 ·have h1:=zbb 2 i M.2.2.1 w p y hw' hp
  rw[zbg (x:=sl M.2.2.1 w p) (by rw[h0.1];decide),zbg (x:=y) (by rw[hy.1];decide)]at h1
  have h2:=hM.swp.c i hi
  simp at h1
  simp only
  rw[h2,h1]
theorem q158_tot(n:Nat)(x:Ar):∃ b,q158 n (x,())=some ((b,()),()):=by
 show ∃ b,zck n x=_
 rw[zck,zbm]
 simp only[Option.bind_some]
 cases (decide ((0:Int)≤x.1)&&decide (x.1≤15)) with
 | false=>exact⟨_,rfl⟩
 | true=>simp only[cond_true];rw[zbm];exact⟨_,rfl⟩
theorem zk0(n:Nat)(l:List Ar)(hs:l.length≤1000):∀ (d k m:Nat),k+d=l.length→d<m→∃ b,zcw n m l (k:Int)=some ((b,()),())∧(b=true→l.length≤6)
 | _,k,0,_,h=>by omega
 | 0,k,m+1,hk,h=>by
  obtain rfl:k=l.length:=by omega
  show ∃ b,za_ n _ _ _=_∧_
  simp only[za_,lt_f,cond_false]
  exact⟨_,rfl,fun hb=>by have:=of_decide_eq_true hb;omega⟩
 | d+1,k,m+1,hk,h=>by
  have hl:k<l.length:=by omega
  obtain⟨b,ih⟩:=zk0 n l hs d (k+1) m (by omega) (by omega)
  show ∃ b,za_ n _ _ _=_∧_
  simp only[za_,lt_t hl,ge_t,cond_true,zaa]
  obtain⟨b1,e1⟩:=q158_tot n ((l.getD k (0,0,false,false)).1,(l.getD k (0,0,false,false)).2.1,(l.getD k (0,0,false,false)).2.2.1,(l.getD k (0,0,false,false)).2.2.2)
  rw[e1]
  simp only[Option.bind_some]
  cases b1 with
  | false=>exact⟨_,rfl,fun hb=>by cases hb⟩
  | true =>
   simp only[Bool.not_true,cond_false,wS (show k≤1000000 by omega)]
   cases k with
   | zero=>exact⟨_,ih⟩
   | succ k =>
    have e2:IntKind.i64.wrap (((k+1:Nat):Int) - 1)=(k:Int):=by rw[wr (by omega) (by omega)];omega
    have e3:decide ((0:Int)<((k+1:Nat):Int))=true:=decide_eq_true (by omega)
    simp only[e2,e3,cond_true,ge_t,lt_t (show k<l.length by omega),zaa]
    cases decide ((l.getD (k+1) (0,0,false,false)).1<IntKind.i64.wrap ((l.getD k (0,0,false,false)).1+(l.getD k (0,0,false,false)).2.1)) with
    | true=>exact⟨_,rfl,fun hb=>by cases hb⟩
    | false=>exact⟨_,ih⟩
theorem q127_tot(n:Nat)(hn:2000≤n)(l:List Ar)(hs:l.length≤1000):∃ b,q127 n (l,())=some ((b,()),())∧(b=true→l.length≤6):=zk0 n l hs l.length 0 n (by omega) (by omega)
theorem MI.lose1{M:Me}(hM:MI M){w p k:Nat}(hw:w<5)(hp:p<(rw' M.2.2.1 w).2.2.length)(hk:k<12)(h0:(sl M.2.2.1 w p).1=1∧(sl M.2.2.1 w p).2.1=(k:Int)) :
  MI (giv M.1 k,M.2.1,setS M.2.2.1 w p (0,0,false,false),M.2.2.2):=by
 have hw':w<M.2.2.1.length:=by rw[hM.sp.len];exact hw
 have hpos:0<told 1 k M.2.2.1:=zb_ (zam hw') (zam hp) (zav.2 h0)
 refine⟨hM.sp.setS hw (by unfold SlI;simp),(hM.ram.toC.giv hk hpos).toI fun i hi=>?_,⟨hM.swp.l1,hM.swp.l2,fun i hi=>?_,hM.swp.s⟩,hM.h0,hM.h1⟩
 ·have h1:=zbb 1 i M.2.2.1 w p (0,0,false,false) hw' hp
  rw[zbg (x:=(0,0,false,false)) (by decide)]at h1
  have e1:isT 1 i (sl M.2.2.1 w p)=decide (i=k):=by
   unfold isT;rw[h0.1,h0.2]
   by_cases e:i=k
   ·simp[e]
   ·simp[e];omega
  rw[e1]at h1
  by_cases e:i=k
  ·simp[e]at h1 ⊢;omega
  ·simp[e]at h1 ⊢;omega
 ·have h1:=zbb 2 i M.2.2.1 w p (0,0,false,false) hw' hp
  rw[zbg (x:=(0,0,false,false)) (by decide),zbg (x:=sl M.2.2.1 w p) (by rw[h0.1];decide)]at h1
  have h2:=hM.swp.c i hi
  simp at h1
  simp only
  rw[h2,h1]
theorem MI.lose2{M:Me}(hM:MI M){w p k:Nat}(hw:w<5)(hp:p<(rw' M.2.2.1 w).2.2.length)(hk:k<12)(h0:(sl M.2.2.1 w p).1=2∧(sl M.2.2.1 w p).2.1=(k:Int)) :
  MI (M.1,giv M.2.1 k,setS M.2.2.1 w p (0,0,false,false),M.2.2.2):=by
 have hw':w<M.2.2.1.length:=by rw[hM.sp.len];exact hw
 have hpos:0<told 2 k M.2.2.1:=zb_ (zam hw') (zam hp) (zav.2 h0)
 refine⟨hM.sp.setS hw (by unfold SlI;simp),⟨hM.ram.l1,hM.ram.l2,fun i hi=>?_,hM.ram.s⟩,(hM.swp.toC.giv hk hpos).toI fun i hi=>?_,hM.h0,hM.h1⟩
 ·have h1:=zbb 1 i M.2.2.1 w p (0,0,false,false) hw' hp
  rw[zbg (x:=(0,0,false,false)) (by decide),zbg (x:=sl M.2.2.1 w p) (by rw[h0.1];decide)]at h1
  have h2:=hM.ram.c i hi
  simp at h1
  simp only
  rw[h2,h1]
 ·have h1:=zbb 2 i M.2.2.1 w p (0,0,false,false) hw' hp
  rw[zbg (x:=(0,0,false,false)) (by decide)]at h1
  have e1:isT 2 i (sl M.2.2.1 w p)=decide (i=k):=by
   unfold isT;rw[h0.1,h0.2]
   by_cases e:i=k
   ·simp[e]
   ·simp[e];omega
  rw[e1]at h1
  by_cases e:i=k
  ·simp[e]at h1 ⊢;omega
  ·simp[e]at h1 ⊢;omega
theorem MI.lose0{M:Me}(hM:MI M){w p:Nat}(hw:w<5)(hp:p<(rw' M.2.2.1 w).2.2.length)(h0:(sl M.2.2.1 w p).1=0) :
  MI (M.1,M.2.1,setS M.2.2.1 w p (0,0,false,false),M.2.2.2):=by
 have hw':w<M.2.2.1.length:=by rw[hM.sp.len];exact hw
 refine⟨hM.sp.setS hw (by unfold SlI;simp),⟨hM.ram.l1,hM.ram.l2,fun i hi=>?_,hM.ram.s⟩,⟨hM.swp.l1,hM.swp.l2,fun i hi=>?_,hM.swp.s⟩,hM.h0,hM.h1⟩
 ·have h1:=zbb 1 i M.2.2.1 w p (0,0,false,false) hw' hp
  rw[zbg (x:=(0,0,false,false)) (by decide),zbg (x:=sl M.2.2.1 w p) (by rw[h0];decide)]at h1
  have h2:=hM.ram.c i hi
  simp at h1
  simp only
  rw[h2,h1]
 ·have h1:=zbb 2 i M.2.2.1 w p (0,0,false,false) hw' hp
  rw[zbg (x:=(0,0,false,false)) (by decide),zbg (x:=sl M.2.2.1 w p) (by rw[h0];decide)]at h1
  have h2:=hM.swp.c i hi
  simp at h1
  simp only
  rw[h2,h1]
def lose(M:Me)(w p:Nat):Me :=
 if (sl M.2.2.1 w p).1=1 then (giv M.1 (sl M.2.2.1 w p).2.1.toNat,M.2.1,setS M.2.2.1 w p (0,0,false,false),M.2.2.2)
 else if (sl M.2.2.1 w p).1=2 then (M.1,giv M.2.1 (sl M.2.2.1 w p).2.1.toNat,setS M.2.2.1 w p (0,0,false,false),M.2.2.2)
 else (M.1,M.2.1,setS M.2.2.1 w p (0,0,false,false),M.2.2.2)
theorem q122_eq(n:Nat)(M:Me)(hM:MI M)(w p:Nat)(hw:w<5)(hp:p<(rw' M.2.2.1 w).2.2.length) :
  q122 n (M,(w:Int),(p:Int),())=some ((lose M w p,()),())∧MI (lose M w p)∧RS M.2.2.1 (lose M w p).2.2.1:=by
 have hw':w<M.2.2.1.length:=by rw[hM.sp.len];exact hw
 have hsl:=hM.sp.slI hw hp
 have e0:q122 n (M,(w:Int),(p:Int),())=zgc n M w p:=rfl
 rw[e0,zgc]
 simp only[ge_t,lt_t hw',lt_t hp,cond_true,zaa]
 have hr1:=hM.ram.l1
 have hr2:=hM.ram.l2
 have hs1:=hM.swp.l1
 have hs2:=hM.swp.l2
 by_cases h1:(sl M.2.2.1 w p).1=1
 ·have hat:=hsl.2.2 (by rw[h1];decide)
  obtain⟨k,hk⟩:=Int.eq_ofNat_of_zero_le hat.1
  have hk2:k<12:=by omega
  have hc:=hM.ram.c k hk2
  have ht:=hM.sp.told 1 k
  have hq:=q160_eq n M.1 k (by omega) (by omega) (by omega)
  simp only[h1,decide_true,cond_true,hk,lose,if_true,zaa]
  rw[hq]
  exact⟨rfl,hM.lose1 hw hp hk2 ⟨h1,hk⟩,RS.set _ _ _ _ hw'⟩
 ·by_cases h2:(sl M.2.2.1 w p).1=2
  ·have hat:=hsl.2.2 (by rw[h2];decide)
   obtain⟨k,hk⟩:=Int.eq_ofNat_of_zero_le hat.1
   have hk2:k<12:=by omega
   have hc:=hM.swp.c k hk2
   have ht:=hM.sp.told 2 k
   have hq:=q160_eq n M.2.1 k (by omega) (by omega) (by omega)
   simp only[h1,h2,decide_true,decide_false,cond_true,cond_false,hk,lose,if_true,if_false,zaa]
   rw[hq]
   exact⟨rfl,hM.lose2 hw hp hk2 ⟨h2,hk⟩,RS.set _ _ _ _ hw'⟩
  ·have h0:(sl M.2.2.1 w p).1=0:=by have:=hsl.1;have:=hsl.2.1;omega
   simp only[h1,h2,decide_false,cond_false,lose,if_false]
   exact⟨trivial,hM.lose0 hw hp h0,RS.set _ _ _ _ hw'⟩
structure MW(M:Me):Prop where
 a1:M.1.1.length≤100
 a2:M.1.2.length≤100
 b1:M.2.1.1.length≤100
 b2:M.2.1.2.length≤100
 s:M.2.2.1.length≤100
 r:∀ s∈M.2.2.1,s.2.1.length≤100∧s.2.2.length≤100
theorem MI.mw{M:Me}(h:MI M):MW M:=by
 have h1:=h.ram.l1
 have h2:=h.ram.l2
 have h3:=h.swp.l1
 have h4:=h.swp.l2
 have h5:=h.sp.len
 refine⟨by omega,by omega,by omega,by omega,by omega,fun s hs=>?_⟩
 have hr:=h.sp.rw s hs
 have:=hr.ar
 have:=hr.len
 omega
theorem zbv{a b:Bool}:(a&&b)=true↔a=true∧b=true:=by simp
theorem zk6(n:Nat)(t:List ByteArray)(l:List Int)(htl:t.length=l.length)(hs:l.length≤1000):∀ (d k m:Nat),k+d=l.length→d<m→∃ b,zcx n m (k:Int) t l=some ((b,()),())∧(b=true→∀ i,k≤i→i<l.length→l.getD i 0≠0→(t.getD i ByteArray.empty).size=4)
 | _,k,0,_,h=>by omega
 | 0,k,m+1,hk,h=>by
  obtain rfl:k=t.length:=by omega
  show ∃ b,zbw n _ _ _ _=_∧_
  simp only[zbw,lt_f,cond_false]
  exact⟨_,rfl,fun _ i h1 h2=>by omega⟩
 | d+1,k,m+1,hk,h=>by
  obtain⟨b,e,ih⟩:=zk6 n t l htl hs d (k+1) m (by omega) (by omega)
  show ∃ b,zbw n _ _ _ _=_∧_
  simp only[zbw,lt_t (show k<l.length by omega),lt_t (show k<t.length by omega),ge_t,cond_true,zaa,zbm n (l.getD k 0) 0 99,Option.bind_some,wS (show k≤1000000 by omega)]
  by_cases h0:l.getD k 0=0
  ·simp only[h0,decide_true,cond_true]
   cases decide ((((t.getD k ByteArray.empty).size:Nat):Int)=0) with
   | false =>
    exact⟨_,rfl,fun hb=>by cases hb⟩
   | true =>
    refine⟨b,e,fun hb i h1 h2 h3=>?_⟩
    by_cases hi:i=k
    ·subst hi;exact absurd h0 h3
    ·exact ih hb i (by omega) h2 h3
  ·simp only[h0,decide_false,cond_false]
   cases (decide ((0:Int)≤l.getD k 0)&&decide (l.getD k 0≤99)) with
   | false=>exact⟨_,rfl,fun hb=>by cases hb⟩
   | true =>
    simp only[Bool.not_true,cond_false]
    by_cases h4:(((t.getD k ByteArray.empty).size:Nat):Int)=4
    ·simp only[h4,decide_true,Bool.not_true,cond_false]
     refine⟨b,e,fun hb i h1 h2 h3=>?_⟩
     by_cases hi:i=k
     ·subst hi;omega
     ·exact ih hb i (by omega) h2 h3
    ·simp only[h4,decide_false,Bool.not_false,cond_true]
     exact⟨_,rfl,fun hb=>by cases hb⟩
theorem q117_tot(n:Nat)(hn:2000≤n)(P:Pg)(h1:P.1.length≤1000)(h2:P.2.length≤1000):∃ b,q117 n (P,())=some ((b,()),())∧(b=true→P.1.length=P.2.length∧∀ i,i<P.2.length→P.2.getD i 0≠0→(P.1.getD i ByteArray.empty).size=4):=by
 show ∃ b,zbf n _ P=_∧_
 rw[zbf]
 by_cases hl:((P.1.length:Int)=(P.2.length:Int))
 ·have hl':P.1.length=P.2.length:=by omega
  simp only[hl,decide_true,Bool.not_true,cond_false]
  rw[zbm]
  simp only[Option.bind_some]
  cases (decide ((1:Int)≤(P.2.length:Int))&&decide ((P.2.length:Int)≤12)) with
  | false=>exact⟨_,rfl,fun hb=>by cases hb⟩
  | true =>
   obtain⟨b,e,ih⟩:=zk6 n P.1 P.2 hl' h2 P.2.length 0 n (by omega) (by omega)
   exact⟨b,e,fun hb=>⟨hl',fun i hi=>ih hb i (Nat.zero_le _) hi⟩⟩
 ·simp only[hl,decide_false,Bool.not_false,cond_true]
  exact⟨_,rfl,fun hb=>by cases hb⟩
theorem zk4(n:Nat)(hn:2000≤n)(x1:Bool)(ar:List Ar)(ha:ar.length≤1000)(l:List Ar)(hl:l.length=16):∀ (d k m:Nat),k+d=16→d<m→∃ b,zfl n m (k:Int) x1 ar l=some ((b,()),())∧(b=true→∀ i,k≤i→i<16→0≤(l.getD i (0,0,false,false)).1∧(l.getD i (0,0,false,false)).1≤2)
 | _,k,0,_,h=>by omega
 | 0,k,m+1,hk,h=>by
  obtain rfl:k=16:=by omega
  show ∃ b,zbs n _ _ _ _ _=_∧_
  simp only[zbs]
  exact⟨_,rfl,fun _ i h1 h2=>by omega⟩
 | d+1,k,m+1,hk,h=>by
  obtain⟨b,e,ih⟩:=zk4 n hn x1 ar ha l hl d (k+1) m (by omega) (by omega)
  have hr:=at2_rng ar k
  show ∃ b,zbs n _ _ _ _ _=_∧_
  simp only[zbs,show decide ((k:Int)<16)=true from decide_eq_true (by omega),lt_t (show k<l.length by omega),ge_t,cond_true,zaa,zbm n (l.getD k (0,0,false,false)).1 1 2,q71_eq n hn ar k ha,Option.bind_some,wS (show k≤1000000 by omega)]
  have hstep:(0≤(l.getD k (0,0,false,false)).1∧(l.getD k (0,0,false,false)).1≤2)→∃ b,zfl n m ((k+1:Nat):Int) x1 ar l=some ((b,()),())∧(b=true→∀ i,k≤i→i<16→0≤(l.getD i (0,0,false,false)).1∧(l.getD i (0,0,false,false)).1≤2):=fun hx =>
   ⟨b,e,fun hb i h1 h2=>by
    by_cases hi:i=k
    ·subst hi;exact hx
    ·exact ih hb i (by omega) h2⟩
  by_cases h0:(l.getD k (0,0,false,false)).1=0
  ·simp only[h0,decide_true,cond_true]
   cases (true&&(decide ((l.getD k (0,0,false,false)).2.1=0)&&((l.getD k (0,0,false,false)).2.2.1 == false&&((l.getD k (0,0,false,false)).2.2.2 == false&&true)))) with
   | false=>exact⟨_,rfl,fun hb=>by cases hb⟩
   | true=>exact hstep (by omega)
  ·simp only[h0,decide_false,cond_false]
   by_cases h1:at2 ar k<0
   ·simp only[h1,decide_true,cond_true]
    exact⟨_,rfl,fun hb=>by cases hb⟩
   ·obtain⟨j,hj⟩:=Int.eq_ofNat_of_zero_le (show 0≤at2 ar k by omega)
    simp only[h1,decide_false,cond_false]
    by_cases h2:1≤(l.getD k (0,0,false,false)).1∧(l.getD k (0,0,false,false)).1≤2
    ·simp only[h2.1,h2.2,decide_true,Bool.and_self,Bool.not_true,cond_false,hj,ge_t,lt_t (show j<ar.length by omega),cond_true,zaa]
     cases (ar.getD j (0,0,false,false)).2.2.2 with
     | false=>exact hstep (by omega)
     | true =>
      simp only[cond_true]
      cases (l.getD k (0,0,false,false)).2.2.1 with
      | false=>exact⟨_,rfl,fun hb=>by cases hb⟩
      | true=>exact hstep (by omega)
    ·have:(decide (1≤(l.getD k (0,0,false,false)).1)&&decide ((l.getD k (0,0,false,false)).1≤2))=false:=by
      rw[Bool.eq_false_iff];intro hh
      have:=zbv.1 hh
      exact h2 ⟨of_decide_eq_true this.1,of_decide_eq_true this.2⟩
     simp only[this,Bool.not_false,cond_true]
     exact⟨_,rfl,fun hb=>by cases hb⟩
theorem q118_tot(n:Nat)(hn:2000≤n)(s:Sp)(ha:s.2.1.length≤1000)(hs:s.2.2.length≤1000):∃ b,q118 n (s,())=some ((b,()),())∧(b=true→(s.1=false→s.2.1=[]∧s.2.2=[])∧(s.1=true→s.2.1.length≤6∧s.2.2.length=16∧∀ i,i<16→0≤(s.2.2.getD i (0,0,false,false)).1∧(s.2.2.getD i (0,0,false,false)).1≤2)):=by
 show ∃ b,zcl n _ s=_∧_
 rw[zcl]
 cases hb:s.1 with
 | false =>
  simp only[Bool.not_false,cond_true]
  by_cases h1:((s.2.1.length:Int)=0)
  ·simp only[h1,decide_true,cond_true]
   refine⟨_,rfl,fun hd=>⟨fun _=>⟨List.length_eq_zero_iff.1 (by omega),List.length_eq_zero_iff.1 (by have:=of_decide_eq_true hd;omega)⟩,fun h=>by cases h⟩⟩
  ·simp only[h1,decide_false,cond_false]
   exact⟨_,rfl,fun hd=>by cases hd⟩
 | true =>
  simp only[Bool.not_true,cond_false]
  obtain⟨b1,e1,f1⟩:=q127_tot n hn s.2.1 ha
  rw[e1]
  simp only[Option.bind_some]
  cases b1 with
  | false=>exact⟨_,rfl,fun hd=>by cases hd⟩
  | true =>
   simp only[Bool.not_true,cond_false]
   by_cases h1:((s.2.2.length:Int)=16)
   ·simp only[h1,decide_true,Bool.not_true,cond_false]
    obtain⟨b,e,ih⟩:=zk4 n hn true s.2.1 ha s.2.2 (by omega) 16 0 n (by omega) (by omega)
    exact⟨b,e,fun hd=>⟨fun h=>(by cases h),fun _=>⟨f1 rfl,by omega,fun i hi=>ih hd i (Nat.zero_le _) hi⟩⟩⟩
   ·simp only[h1,decide_false,Bool.not_false,cond_true]
    exact⟨_,rfl,fun hd=>by cases hd⟩
theorem p119_L6_eq(n:Nat)(g3:Int→Int→Int→Int→List ByteArray→List Int→List ByteArray→List Int→List Sp→Int→Option R119)(kd a x10:Int)(x5:List ByteArray)(x6:List Int)(x7:List ByteArray)(x8:List Int)(pre post:List Sp)(b:Bool)(ar:List Ar) :
  ∀ (rest done:List Ar) (m c:Nat),rest.length<m→done.length+rest.length≤1000→c+rest.length≤1000000→p119_L6 g3 n m kd a (c:Int) (pre.length:Int) (done.length:Int) x5 x6 x7 x8 (pre++(b,ar,done++rest)::post) x10=g3 kd a ((c+cnt kd a rest:Nat):Int) (IntKind.i64.wrap ((pre.length:Int)+1)) x5 x6 x7 x8 (pre++(b,ar,done++rest)::post) x10
 | [],done,0,c,h,_,_=>by simp at h
 | [],done,m+1,c,h,hl,_=>by
  show zea n _ _ _ _ _ _ _ _ _ _ _ _ _=_
  simp only[zea,ge_t,zdb,zaa,zbj,List.append_nil,lt_f,cond_true,cond_false,cnt,List.countP_nil,Nat.add_zero]
 | x::rest,done,0,c,h,_,_=>by simp at h
 | x::rest,done,m+1,c,h,hl,hc=>by
  have ih:=fun c' hc'=>p119_L6_eq n g3 kd a x10 x5 x6 x7 x8 pre post b ar rest (done++[x]) m c' (by simp at h;omega) (by simp at hl ⊢;omega) hc'
  simp only[List.length_append,List.length_cons,List.length_nil,List.append_assoc,List.cons_append,List.nil_append,Nat.zero_add]at ih
  simp only[List.length_cons]at hc
  show zea n _ _ _ _ _ _ _ _ _ _ _ _ _=_
  simp only[zea,ge_t,zdb,zaa,zbj,cond_true,wS (show done.length≤1000000 by simp at hl;omega),wS (show c≤1000000 by omega)]
  rw[zbk]
  by_cases h1:x.1=kd
  ·by_cases h2:x.2.1=a
   ·have:isT kd a x=true:=zav.2 ⟨h1,h2⟩
    simp only[h1,h2,decide_true,cond_true,this,if_true]
    rw[ih (c+1) (by omega)]
    congr 1;omega
   ·have:isT kd a x=false:=by rw[Bool.eq_false_iff];intro hh;exact h2 (zav.1 hh).2
    simp only[h1,h2,decide_true,decide_false,cond_true,cond_false,this]
    rw[ih c (by omega)]
    simp
  ·have:isT kd a x=false:=zbg h1
   simp only[h1,decide_false,cond_false,this]
   rw[ih c (by omega)]
   simp
theorem p119_L3_eq(n:Nat)(hn:2000≤n)(kd a x9:Int)(x4:List ByteArray)(x5:List Int)(x6:List ByteArray)(x7:List Int) :
  ∀ (post pre:List Sp) (m c:Nat),post.length<m→pre.length+post.length≤1000→(∀ s∈post,s.2.2.length≤1000)→c≤1000*pre.length→zk3 n m kd a (c:Int) (pre.length:Int) x4 x5 x6 x7 (pre++post) x9=some ((((c+told kd a post:Nat):Int),()),())
 | [],pre,0,c,h,_,_,_=>by simp at h
 | [],pre,m+1,c,h,hl,_,_=>by
  show zeb n _ _ _ _ _ _ _ _ _ _ _=_
  simp only[zeb,List.append_nil,lt_f,cond_false,told_nil,Nat.add_zero]
 | s::post,pre,0,c,h,_,_,_=>by simp at h
 | s::post,pre,m+1,c,h,hl,hs,hc=>by
  have ih:=fun c' hc'=>p119_L3_eq n hn kd a x9 x4 x5 x6 x7 post (pre++[s]) m c' (by simp at h;omega) (by simp at hl ⊢;omega) (fun t ht=>hs t (List.mem_cons_of_mem _ ht)) hc'
  simp only[List.length_append,List.length_cons,List.length_nil,List.append_assoc,List.cons_append,List.nil_append,Nat.zero_add]at ih
  have hs0:=hs s List.mem_cons_self
  have hcl:=cnt_le kd a s.2.2
  simp only[List.length_cons]at hl
  have h5:=p119_L6_eq n (zk3 n m) kd a x9 x4 x5 x6 x7 pre post s.1 s.2.1 s.2.2 [] n c (by omega) (by simpa using hs0) (by omega)
  simp only[List.nil_append]at h5
  show zeb n _ _ _ _ _ _ _ _ _ _ _=_
  simp only[zeb,zdb,cond_true]
  refine h5.trans ?_
  rw[wS (by omega),ih (c+cnt kd a s.2.2) (by omega),zbe]
  congr 4;omega
theorem q119_eq(n:Nat)(hn:2000≤n)(M:Me)(hM:MW M)(kd a:Int):q119 n (M,kd,a,())=some (((told kd a M.2.2.1:Int),()),()):=by
 have h1:=hM.s
 have h2:=hM.r
 have:=p119_L3_eq n hn kd a M.2.2.2 M.1.1 M.1.2 M.2.1.1 M.2.1.2 M.2.2.1 [] n 0 (by omega) (by simp;omega) (fun s hs=>by have:=h2 s hs;omega) (by simp)
 simp only[List.nil_append,List.length_nil,Nat.zero_add]at this
 exact this
theorem q157_eq(n:Nat)(hn:2000≤n)(s:Sp)(ha:s.2.1.length≤1000)(b:Int):q157 n (s,b,())=some ((decide (0≤at2 s.2.1 b)&&(s.2.1.getD (at2 s.2.1 b).toNat (0,0,false,false)).2.2.2,()),()):=by
 have hr:=at2_rng s.2.1 b
 show zf1 n s b=_
 rw[zf1,q71_eq n hn s.2.1 b ha]
 simp only[Option.bind_some]
 by_cases h:0≤at2 s.2.1 b
 ·simp only[h,hr.2,decide_true,cond_true,Bool.true_and]
 ·simp only[h,decide_false,cond_false,Bool.false_and]
theorem zk1(n:Nat)(hn:2000≤n)(g5:Int→Int→Int→Bool→Bool→Int→List ByteArray→List Int→List ByteArray→List Int→List Sp→Int→Option R120)(kd a x12:Int)(x7:List ByteArray)(x8:List Int)(x9:List ByteArray)(x10:List Int)(pre post:List Sp)(s:Sp)(ha:s.2.1.length≤1000)(hs:s.2.2.length≤1000) :
  ∀ (d k m c:Nat) (u v:Bool),k+d=s.2.2.length→d<m→c+d≤100000→∃ c' u' v',c'≤c+d∧zfj g5 n m kd a (c:Int) u v (pre.length:Int) (k:Int) x7 x8 x9 x10 (pre++s::post) x12=g5 kd a ((c':Nat):Int) u' v' (IntKind.i64.wrap ((pre.length:Int)+1)) x7 x8 x9 x10 (pre++s::post) x12
 | _,k,0,c,u,v,_,h,_=>by omega
 | 0,k,m+1,c,u,v,hk,h,hc=>by
  obtain rfl:k=s.2.2.length:=by omega
  show ∃ c' u' v',_∧zbq n _ _ _ _ _ _ _ _ _ _ _ _ _ _ _=_
  simp only[zbq,ge_t,zdb,zaa,zbj,lt_f,cond_true,cond_false]
  exact⟨c,u,v,by omega,rfl⟩
 | d+1,k,m+1,c,u,v,hk,h,hc=>by
  have hl:k<s.2.2.length:=by omega
  have ih:=fun c' u' v' hc'=>zk1 n hn g5 kd a x12 x7 x8 x9 x10 pre post s ha hs d (k+1) m c' u' v' (by omega) (by omega) hc'
  show ∃ c' u' v',_∧zbq n _ _ _ _ _ _ _ _ _ _ _ _ _ _ _=_
  simp only[zbq,ge_t,zdb,zaa,zbj,cond_true,lt_t hl,wS (show k≤1000000 by omega),wS (show c≤1000000 by omega),q157_eq n hn (s.1,s.2.1,s.2.2) ha,Option.bind_some]
  have up:∀ u' v',∃ c'' u'' v'',c''≤c+(d+1)∧zfj g5 n m kd a ((c+1:Nat):Int) u' v' (pre.length:Int) ((k+1:Nat):Int) x7 x8 x9 x10 (pre++s::post) x12=g5 kd a ((c'':Nat):Int) u'' v'' (IntKind.i64.wrap ((pre.length:Int)+1)) x7 x8 x9 x10 (pre++s::post) x12:=fun u' v'=>by
   obtain⟨c1,u1,v1,h1,h2⟩:=ih (c+1) u' v' (by omega)
   exact⟨c1,u1,v1,by omega,h2⟩
  have st:∃ c'' u'' v'',c''≤c+(d+1)∧zfj g5 n m kd a ((c:Nat):Int) u v (pre.length:Int) ((k+1:Nat):Int) x7 x8 x9 x10 (pre++s::post) x12=g5 kd a ((c'':Nat):Int) u'' v'' (IntKind.i64.wrap ((pre.length:Int)+1)) x7 x8 x9 x10 (pre++s::post) x12:=by
   obtain⟨c1,u1,v1,h1,h2⟩:=ih c u v (by omega)
   exact⟨c1,u1,v1,by omega,h2⟩
  cases decide ((s.2.2.getD k (0,0,false,false)).1=kd) with
  | false=>exact st
  | true =>
   cases decide ((s.2.2.getD k (0,0,false,false)).2.1=a) with
   | false=>exact st
   | true=>cases u <;> cases v <;> exact up _ _
theorem zk2(n:Nat)(hn:2000≤n)(kd a x11:Int)(x6:List ByteArray)(x7:List Int)(x8:List ByteArray)(x9:List Int) :
  ∀ (post pre:List Sp) (m c:Nat) (u v:Bool),post.length<m→pre.length+post.length≤100→(∀ s∈post,s.2.1.length≤100∧s.2.2.length≤100)→c≤100*pre.length→∃ b,zfk n m kd a (c:Int) u v (pre.length:Int) x6 x7 x8 x9 (pre++post) x11=some ((b,()),())
 | [],pre,0,c,u,v,h,_,_,_=>by simp at h
 | [],pre,m+1,c,u,v,h,hl,_,_=>by
  show ∃ b,zbr n _ _ _ _ _ _ _ _ _ _ _ _ _=_
  simp only[zbr,List.append_nil,lt_f,cond_false]
  cases decide ((c:Int)<2) <;> cases u <;> exact⟨_,rfl⟩
 | s::post,pre,0,c,u,v,h,_,_,_=>by simp at h
 | s::post,pre,m+1,c,u,v,h,hl,hs,hc=>by
  have ih:=fun c' u' v' hc'=>zk2 n hn kd a x11 x6 x7 x8 x9 post (pre++[s]) m c' u' v' (by simp at h;omega) (by simp at hl ⊢;omega) (fun t ht=>hs t (List.mem_cons_of_mem _ ht)) hc'
  simp only[List.length_append,List.length_cons,List.length_nil,List.append_assoc,List.cons_append,List.nil_append,Nat.zero_add]at ih
  have hs0:=hs s List.mem_cons_self
  simp only[List.length_cons]at hl
  obtain⟨c',u',v',h1,h2⟩:=zk1 n hn (zfk n m) kd a x11 x6 x7 x8 x9 pre post s (by omega) (by omega) s.2.2.length 0 n c u v (by omega) (by omega) (by omega)
  show ∃ b,zbr n _ _ _ _ _ _ _ _ _ _ _ _ _=_
  simp only[zbr,zdb,cond_true]
  obtain⟨b,hb⟩:=ih c' u' v' (by omega)
  refine⟨b,h2.trans ?_⟩
  rw[wS (by omega)]
  exact hb
theorem q120_tot(n:Nat)(hn:2000≤n)(M:Me)(hM:MW M)(kd a:Int):∃ b,q120 n (M,kd,a,())=some ((b,()),()):=by
 have h1:=hM.s
 have:=zk2 n hn kd a M.2.2.2 M.1.1 M.1.2 M.2.1.1 M.2.1.2 M.2.2.1 [] n 0 false false (by omega) (by simp;omega) hM.r (by simp)
 simp only[List.nil_append,List.length_nil]at this
 exact this
def AtOk(x:Ar):Prop:=x.1≠0→0≤x.2.1∧x.2.1<12
theorem atLt12(x:Int)(b:Bool)(h:(decide ((0:Int)≤x)&&decide (x≤IntKind.i64.wrap (12 - 1)))=true):0≤x∧x<12:=by
 rw[wr (by omega) (by omega)]at h
 have:=zbv.1 h
 have h1:=of_decide_eq_true this.1
 have h2:=of_decide_eq_true this.2
 omega
theorem p53_L9_tot(n:Nat)(g4:Int→List ByteArray→List Int→List ByteArray→List Int→List Sp→Int→Option R53)(x7:Int)(x2:List ByteArray)(x3:List Int)(x4:List ByteArray)(x5:List Int)(S:List Sp)(w:Nat)(hw:w<S.length)(hw2:w≤1000)(hs:(rw' S w).2.2.length≤1000) :
  ∀ (d k m:Nat),k+d=(rw' S w).2.2.length→d<m→zb3 g4 n m (w:Int) (k:Int) x2 x3 x4 x5 S x7=some ((false,()),())∨(zb3 g4 n m (w:Int) (k:Int) x2 x3 x4 x5 S x7=g4 ((w+1:Nat):Int) x2 x3 x4 x5 S x7∧∀ i,k≤i→i<(rw' S w).2.2.length→AtOk (sl S w i))
 | _,k,0,_,h=>by omega
 | 0,k,m+1,hk,h=>by
  obtain rfl:k=(rw' S w).2.2.length:=by omega
  right
  constructor
  ·show zch n _ _ _ _ _ _ _ _ _ _=_
   simp only[zch,ge_t,lt_t hw,cond_true,zaa,lt_f,cond_false,wS (show w≤1000000 by omega)]
  ·intro i h1 h2;omega
 | d+1,k,m+1,hk,h=>by
  have hl:k<(rw' S w).2.2.length:=by omega
  have ih:=p53_L9_tot n g4 x7 x2 x3 x4 x5 S w hw hw2 hs d (k+1) m (by omega) (by omega)
  have nxt:AtOk (sl S w k)→zb3 g4 n m (w:Int) ((k+1:Nat):Int) x2 x3 x4 x5 S x7=some ((false,()),())∨(zb3 g4 n m (w:Int) ((k+1:Nat):Int) x2 x3 x4 x5 S x7=g4 ((w+1:Nat):Int) x2 x3 x4 x5 S x7∧∀ i,k≤i→i<(rw' S w).2.2.length→AtOk (sl S w i)):=fun hx=>by
   rcases ih with e | ⟨e,hh⟩
   ·exact .inl e
   ·refine .inr ⟨e,fun i h1 h2=>?_⟩
    by_cases hi:i=k
    ·subst hi;exact hx
    ·exact hh i (by omega) h2
  have e0:zb3 g4 n (m+1) (w:Int) (k:Int) x2 x3 x4 x5 S x7=zch n (zb3 g4 n m) g4 (w:Int) (k:Int) x2 x3 x4 x5 S x7:=rfl
  rw[e0,zch]
  simp only[ge_t,lt_t hw,cond_true,zaa,lt_t hl,zbm n (sl S w k).2.1 0 (IntKind.i64.wrap (12 - 1)),Option.bind_some,wS (show k≤1000000 by omega)]
  by_cases h0:(sl S w k).1=0
  ·simp only[h0,decide_true,Bool.not_true,cond_false]
   simp only[show decide ((0:Int)=2)=false from rfl,cond_false]
   exact nxt fun hx=>absurd h0 hx
  ·simp only[h0,decide_false,Bool.not_false,cond_true]
   cases hb:(decide ((0:Int)≤(sl S w k).2.1)&&decide ((sl S w k).2.1≤IntKind.i64.wrap (12 - 1))) with
   | false =>
    cases decide ((sl S w k).1=2) <;> exact .inl rfl
   | true =>
    have:=atLt12 _ true hb
    cases decide ((sl S w k).1=2) <;> exact nxt fun _=>this
theorem zkp(n:Nat)(hn:2000≤n)(M:Me)(hM:MW M)(hl:M.2.1.2.length=12):∀ (d k m:Nat),k+d=12→d<m→∃ b,zkr n m (k:Int) M.1.1 M.1.2 M.2.1.1 M.2.1.2 M.2.2.1 M.2.2.2=some ((b,()),())∧(b=true→∀ i:Nat,k≤i→i<12→M.2.1.2.getD i 0=(told 2 i M.2.2.1:Int))
 | _,k,0,_,h=>by omega
 | 0,k,m+1,hk,h=>by
  obtain rfl:k=12:=by omega
  show ∃ b,zbo n _ _ _ _ _ _ _ _=_∧_
  simp only[zbo]
  exact⟨_,rfl,fun _ i h1 h2=>by omega⟩
 | d+1,k,m+1,hk,h=>by
  obtain⟨b,e,ih⟩:=zkp n hn M hM hl d (k+1) m (by omega) (by omega)
  obtain⟨b2,e2⟩:=q120_tot n hn M hM 2 k
  show ∃ b,zbo n _ _ _ _ _ _ _ _=_∧_
  simp only[zbo,show decide ((k:Int)<12)=true from decide_eq_true (by omega),cond_true]
  rw[q119_eq n hn ((M.1.1,M.1.2),(M.2.1.1,M.2.1.2),M.2.2.1,M.2.2.2) hM]
  simp only[Option.bind_some,ge_t,lt_t (show k<M.2.1.2.length by omega),cond_true,zaa]
  by_cases hc:((told 2 k M.2.2.1:Nat):Int)=M.2.1.2.getD k 0
  ·simp only[hc,decide_true,Bool.not_true,cond_false]
   rw[e2]
   simp only[Option.bind_some,wS (show k≤1000000 by omega)]
   cases b2 with
   | false=>exact⟨_,rfl,fun hb=>by cases hb⟩
   | true =>
    refine⟨b,e,fun hb i h1 h2=>?_⟩
    by_cases hi:i=k
    ·subst hi;exact hc.symm
    ·exact ih hb i (by omega) h2
  ·simp only[hc,decide_false,Bool.not_false,cond_true]
   exact⟨_,rfl,fun hb=>by cases hb⟩
theorem zkt(n:Nat)(hn:2000≤n)(M:Me)(hM:MW M)(hl1:M.1.2.length=12)(hl:M.2.1.2.length=12):∀ (d k m:Nat),k+d=12→d<m→∃ b,zkv n m (k:Int) M.1.1 M.1.2 M.2.1.1 M.2.1.2 M.2.2.1 M.2.2.2=some ((b,()),())∧(b=true→(∀ i:Nat,k≤i→i<12→M.1.2.getD i 0=(told 1 i M.2.2.1:Int))∧∀ i:Nat,i<12→M.2.1.2.getD i 0=(told 2 i M.2.2.1:Int))
 | _,k,0,_,h=>by omega
 | 0,k,m+1,hk,h=>by
  obtain rfl:k=12:=by omega
  obtain⟨b,e,ih⟩:=zkp n hn M hM hl 12 0 n (by omega) (by omega)
  show ∃ b,zbp n _ _ _ _ _ _ _ _ _=_∧_
  simp only[zbp]
  exact⟨b,e,fun hb=>⟨fun i h1 h2=>by omega,fun i h2=>ih hb i (Nat.zero_le _) h2⟩⟩
 | d+1,k,m+1,hk,h=>by
  obtain⟨b,e,ih⟩:=zkt n hn M hM hl1 hl d (k+1) m (by omega) (by omega)
  obtain⟨b2,e2⟩:=q120_tot n hn M hM 1 k
  show ∃ b,zbp n _ _ _ _ _ _ _ _ _=_∧_
  simp only[zbp,show decide ((k:Int)<12)=true from decide_eq_true (by omega),cond_true]
  rw[q119_eq n hn ((M.1.1,M.1.2),(M.2.1.1,M.2.1.2),M.2.2.1,M.2.2.2) hM]
  simp only[Option.bind_some,ge_t,lt_t (show k<M.1.2.length by omega),cond_true,zaa]
  by_cases hc:((told 1 k M.2.2.1:Nat):Int)=M.1.2.getD k 0
  ·simp only[hc,decide_true,Bool.not_true,cond_false]
   rw[e2]
   simp only[Option.bind_some,wS (show k≤1000000 by omega)]
   cases b2 with
   | false=>exact⟨_,rfl,fun hb=>by cases hb⟩
   | true =>
    refine⟨b,e,fun hb=>⟨fun i h1 h2=>?_,(ih hb).2⟩⟩
    by_cases hi:i=k
    ·subst hi;exact hc.symm
    ·exact(ih hb).1 i (by omega) h2
  ·simp only[hc,decide_false,Bool.not_false,cond_true]
   exact⟨_,rfl,fun hb=>by cases hb⟩
theorem p53_L4_tot(n:Nat)(hn:2000≤n)(M:Me)(hM:MW M)(hl1:M.1.2.length=12)(hl:M.2.1.2.length=12)(h5:M.2.2.1.length=5):∀ (d k m:Nat),k+d=5→d<m→∃ b,zko n m (k:Int) M.1.1 M.1.2 M.2.1.1 M.2.1.2 M.2.2.1 M.2.2.2=some ((b,()),())∧(b=true→(∀ w:Nat,k≤w→w<5→RwI (rw' M.2.2.1 w))∧(∀ i:Nat,i<12→M.1.2.getD i 0=(told 1 i M.2.2.1:Int))∧∀ i:Nat,i<12→M.2.1.2.getD i 0=(told 2 i M.2.2.1:Int))
 | _,k,0,_,h=>by omega
 | 0,k,m+1,hk,h=>by
  obtain rfl:k=5:=by omega
  obtain⟨b,e,ih⟩:=zkt n hn M hM hl1 hl 12 0 n (by omega) (by omega)
  show ∃ b,zci n _ _ _ _ _ _ _ _ _=_∧_
  simp only[zci]
  exact⟨b,e,fun hb=>⟨fun i h1 h2=>by omega,fun i h2=>(ih hb).1 i (Nat.zero_le _) h2,(ih hb).2⟩⟩
 | d+1,k,m+1,hk,h=>by
  obtain⟨b,e,ih⟩:=p53_L4_tot n hn M hM hl1 hl h5 d (k+1) m (by omega) (by omega)
  have hw:k<M.2.2.1.length:=by omega
  have hr:(rw' M.2.2.1 k).2.1.length≤100∧(rw' M.2.2.1 k).2.2.length≤100:=hM.r _ (zam hw)
  obtain⟨b2,e2,f2⟩:=q118_tot n hn (rw' M.2.2.1 k) (by omega) (by omega)
  show ∃ b,zci n _ _ _ _ _ _ _ _ _=_∧_
  simp only[zci,show decide ((k:Int)<5)=true from decide_eq_true (by omega),cond_true,ge_t,lt_t hw,zaa]
  rw[e2]
  simp only[Option.bind_some]
  cases b2 with
  | false=>exact⟨_,rfl,fun hb=>by cases hb⟩
  | true =>
   simp only[Bool.not_true,cond_false]
   rcases p53_L9_tot n (zko n m) M.2.2.2 M.1.1 M.1.2 M.2.1.1 M.2.1.2 M.2.2.1 k hw (by omega) (by omega) (rw' M.2.2.1 k).2.2.length 0 n (by omega) (by omega) with e3 | ⟨e3,e4⟩
   ·exact⟨_,e3,fun hb=>by cases hb⟩
   ·refine⟨b,e3.trans e,fun hb=>⟨fun w h1 h2=>?_,(ih hb).2⟩⟩
    by_cases hi:w=k
    ·subst hi
     have f3:=f2 rfl
     cases hv:(rw' M.2.2.1 w).1 with
     | false =>
      have:=f3.1 hv
      exact⟨by rw[this.1];simp,fun hh=>(by rw[hv]at hh;cases hh),fun _=>this.2,fun x hx=>by rw[this.2]at hx;cases hx⟩
     | true =>
      have:=f3.2 hv
      refine⟨this.1,fun _=>this.2.1,fun hh=>(by rw[hv]at hh;cases hh),fun x hx=>?_⟩
      obtain⟨i,hi,rfl⟩:=List.getElem_of_mem hx
      have eg:(rw' M.2.2.1 w).2.2[i]=sl M.2.2.1 w i:=by rw[sl,List.getD_eq_getElem?_getD,List.getElem?_eq_getElem hi];rfl
      have t1:=this.2.2 i (by omega)
      have t2:=e4 i (Nat.zero_le _) hi
      rw[eg]
      exact⟨t1.1,t1.2,t2⟩
    ·exact(ih hb).1 w (by omega) h2
theorem q53_tot(n:Nat)(hn:2000≤n)(M:Me)(hM:MW M):∃ b,q53 n (M,())=some ((b,()),())∧(b=true→MI M):=by
 show ∃ b,zdn n _ M=_∧_
 rw[zdn]
 have ha1:=hM.a1
 have ha2:=hM.a2
 have hb1:=hM.b1
 have hb2:=hM.b2
 obtain⟨c1,e1,f1⟩:=q117_tot n hn M.1 (by omega) (by omega)
 obtain⟨c2,e2,f2⟩:=q117_tot n hn M.2.1 (by omega) (by omega)
 rw[e1]
 simp only[Option.bind_some]
 cases c1 with
 | false=>exact⟨_,rfl,fun hb=>by cases hb⟩
 | true =>
  simp only[Bool.not_true,cond_false]
  rw[e2]
  simp only[Option.bind_some]
  cases c2 with
  | false=>exact⟨_,rfl,fun hb=>by cases hb⟩
  | true =>
   simp only[Bool.not_true,cond_false]
   by_cases h1:((M.1.2.length:Int)=12)
   ·by_cases h2:((M.2.1.2.length:Int)=12)
    ·by_cases h3:((M.2.2.1.length:Int)=5)
     ·simp only[h1,h2,h3,decide_true,Bool.not_true,cond_false]
      rw[zbm]
      simp only[Option.bind_some]
      cases hh:(decide ((0:Int)≤M.2.2.2)&&decide (M.2.2.2≤11)) with
      | false=>exact⟨_,rfl,fun hb=>by cases hb⟩
      | true =>
       simp only[Bool.not_true,cond_false]
       obtain⟨b,e,f⟩:=p53_L4_tot n hn M hM (by omega) (by omega) (by omega) 5 0 n (by omega) (by omega)
       refine⟨b,e,fun hb=>?_⟩
       have ff:=f hb
       have g1:=f1 rfl
       have g2:=f2 rfl
       have hh:=zbv.1 hh
       have hh1:=of_decide_eq_true hh.1
       have hh2:=of_decide_eq_true hh.2
       refine⟨⟨by omega,fun s hs=>?_⟩,⟨by omega,by omega,ff.2.1,fun i hi=>g1.2 i (by omega)⟩,⟨by omega,by omega,ff.2.2,fun i hi=>g2.2 i (by omega)⟩,hh1,by omega⟩
       obtain⟨i,hi,rfl⟩:=List.getElem_of_mem hs
       have eg:M.2.2.1[i]=rw' M.2.2.1 i:=by rw[rw',List.getD_eq_getElem?_getD,List.getElem?_eq_getElem hi];rfl
       rw[eg]
       exact ff.1 i (Nat.zero_le _) (by omega)
     ·simp only[h1,h2,h3,decide_true,decide_false,Bool.not_true,Bool.not_false,cond_false,cond_true]
      exact⟨_,rfl,fun hb=>by cases hb⟩
    ·simp only[h1,h2,decide_true,decide_false,Bool.not_true,Bool.not_false,cond_false,cond_true]
     exact⟨_,rfl,fun hb=>by cases hb⟩
   ·simp only[h1,decide_true,decide_false,Bool.not_true,Bool.not_false,cond_false,cond_true]
    exact⟨_,rfl,fun hb=>by cases hb⟩
def Bys(l:List Int):Prop:=(∀ x∈l,0≤x∧x<256)∧l.length≤2000
theorem Bys.get{l:List Int}(h:Bys l)(i:Nat):0≤l.getD i 0∧l.getD i 0<256:=by
 rw[List.getD_eq_getElem?_getD]
 cases hi:l[i]? with
 | none=>simp
 | some x=>exact h.1 x (List.mem_of_getElem? hi)
theorem p48_eq(n:Nat){l:List Int}(hl:Bys l){pos b:Int}(hp:0≤pos∧pos<1000000)(hb:1≤b) :
  ∃ v:Int,p48 n (l,pos) b=some ((v,()),((l,pos+1),()))∧0≤v∧v<b:=by
 have e1:IntKind.i64.wrap (pos+1)=pos+1:=wr (by omega) (by omega)
 have e2:IntKind.i64.wrap (pos+1 - 1)=pos:=(wr (x:=pos+1 - 1) (by omega) (by omega)).trans (by omega)
 have e3:IntKind.i64.wrap (pos*7)=pos*7:=wr (by omega) (by omega)
 have e4:IntKind.i64.wrap (pos*7+3)=pos*7+3:=wr (by omega) (by omega)
 have e5:IntKind.i64.wrap (pos*29)=pos*29:=wr (by omega) (by omega)
 have hlen:=hl.2
 show ∃ v:Int,st48_top n (l,pos) b=_∧_
 have hb1:¬ b<1:=by omega
 have hb2:¬ b=0:=by omega
 simp only[st48_top,e1,e2,e3,e4,e5,hb1,hb2,decide_false,cond_false,Bool.not_false,cond_true]
 by_cases h0:(l.length:Int)=0
 ·simp only[h0,decide_true,cond_true]
  exact⟨0,rfl,by omega,by omega⟩
 ·have hl1:(1:Int)≤l.length:=by omega
  simp only[h0,decide_false,cond_false,Bool.not_false,cond_true]
  by_cases h1:pos<(l.length:Int)
  ·have hp0:(0:Int)≤pos:=hp.1
   simp only[h1,hp0,decide_true,cond_true]
   have hg:=hl.get pos.toNat
   rw[wr (by omega) (by omega)]
   exact⟨_,rfl,zdm hg.1 hb⟩
  ·simp only[h1,decide_false,cond_false]
   have t1:=zdm (a:=pos) (b:=l.length) hp.1 hl1
   have t2:=zdm (a:=pos*7+3) (b:=l.length) (by omega) hl1
   have t3:=tdiv_range (a:=pos) (b:=l.length) hp.1 hl1
   simp only[t1.1,t1.2,t2.1,t2.2,decide_true,cond_true]
   have g1:=hl.get (pos.tmod l.length).toNat
   have g2:=hl.get ((pos*7+3).tmod l.length).toNat
   generalize l.getD (pos.tmod l.length).toNat 0=y1 at *
   generalize l.getD ((pos*7+3).tmod l.length).toNat 0=y2 at *
   generalize pos.tdiv l.length=q at *
   have w1:IntKind.i64.wrap y1=y1:=wr (by omega) (by omega)
   have w2:IntKind.i64.wrap (y1*131)=y1*131:=wr (by omega) (by omega)
   have w3:IntKind.i64.wrap y2=y2:=wr (by omega) (by omega)
   have w4:IntKind.i64.wrap (y2*1117)=y2*1117:=wr (by omega) (by omega)
   have w5:IntKind.i64.wrap (y1*131+y2*1117)=y1*131+y2*1117:=wr (by omega) (by omega)
   have w6:IntKind.i64.wrap (y1*131+y2*1117+pos*29)=y1*131+y2*1117+pos*29:=wr (by omega) (by omega)
   have w7:IntKind.i64.wrap q=q:=wr (by omega) (by omega)
   have w8:IntKind.i64.wrap (q*53)=q*53:=wr (by omega) (by omega)
   have w9:IntKind.i64.wrap (y1*131+y2*1117+pos*29+q*53)=y1*131+y2*1117+pos*29+q*53:=wr (by omega) (by omega)
   simp only[w1,w2,w3,w4,w5,w6,w7,w8,w9]
   have hS:0≤y1*131+y2*1117+pos*29+q*53∧y1*131+y2*1117+pos*29+q*53<1000000000000:=by omega
   generalize y1*131+y2*1117+pos*29+q*53=S at *
   have hd:=tdiv_range (a:=S) (b:=64) hS.1 (by omega)
   have w10:IntKind.i64.wrap (S.tdiv 64)=S.tdiv 64:=wr (by omega) (by omega)
   simp only[w10]
   exact⟨_,rfl,zdm (xor_small hS.1 (by omega) hd.1 (by omega)) hb⟩
structure Rd(r:List Int×Int)(b:Nat):Prop where
 l:Bys r.1
 h0:0≤r.2
 h1:r.2≤(b:Int)
theorem Rd.pick{r:List Int×Int}{b:Nat}(h:Rd r b)(hb:b<900000)(n:Nat)(k:Int)(hk:1≤k):∃ v:Int,q48 n (r,k,())=some ((v,()),((r.1,r.2+1),()))∧0≤v∧v<k∧Rd (r.1,r.2+1) (b+1):=by
 have h1:=h.h0
 have h2:=h.h1
 obtain⟨v,e,hv⟩:=p48_eq n (l:=r.1) h.l (pos:=r.2) (b:=k) ⟨h.h0,by omega⟩ hk
 exact⟨v,e,hv.1,hv.2,h.l,by simp only;omega,by simp only;omega⟩
theorem Rd.up{r:List Int×Int}{b c:Nat}(h:Rd r b)(hc:b≤c):Rd r c:=⟨h.l,h.h0,by have:=h.h1;omega⟩
def frf(S:List Sp):Int:=if S.findIdx (fun s=>!s.1)<S.length then (S.findIdx (fun s=>!s.1):Int) else -1
theorem p93_L2_eq(n:Nat)(x1:List ByteArray)(x2:List Int)(x3:List ByteArray)(x4:List Int)(x6:Int)(S:List Sp)(hs:S.length≤1000):∀ (rest done:List Sp) (m:Nat),done++rest=S→rest.length<m→(∀ s∈done,(!s.1)=false)→p93_L2 n m (done.length:Int) x1 x2 x3 x4 S x6=some ((frf S,()),())
 | [],done,0,hd,h,_=>by simp at h
 | [],done,m+1,hd,h,hz=>by
  have hd':done=S:=by simpa using hd
  subst hd'
  have hf:¬ done.findIdx (fun s=>!s.1)<done.length:=by
   rw[List.findIdx_lt_length]
   rintro ⟨x,hx,hh⟩
   rw[hz x hx]at hh;cases hh
  show zhr n _ _ _ _ _ _ _ _=_
  simp only[zhr,lt_f,cond_false,frf,if_neg hf]
 | x::rest,done,0,hd,h,_=>by simp at h
 | x::rest,done,m+1,hd,h,hz=>by
  have hl:done.length<S.length:=by rw[← hd];simp
  have hg:S.getD done.length (false,[],[])=x:=by rw[← hd];simp
  show zhr n _ _ _ _ _ _ _ _=_
  simp only[zhr,lt_t hl,ge_t,cond_true,zaa,hg]
  cases hx:(!x.1) with
  | true =>
   have hf:S.findIdx (fun s=>!s.1)=done.length:=by
    rw[← hd,List.findIdx_append,List.findIdx_eq_length_of_false hz]
    simp[List.findIdx_cons,hx]
   simp only[cond_true,frf,hf,if_pos hl]
  | false =>
   simp only[cond_false]
   have ih:=p93_L2_eq n x1 x2 x3 x4 x6 S hs rest (done++[x]) m (by simpa using hd) (by simp at h;omega) (by
    intro y hy
    rcases List.mem_append.1 hy with hy | hy
    ·exact hz y hy
    ·rw[List.mem_singleton.1 hy];exact hx)
   simp only[List.length_append,List.length_cons,List.length_nil,Nat.zero_add]at ih
   rw[wS (by omega),ih]
theorem q93_eq(n:Nat)(hn:2000≤n)(M:Me)(hs:M.2.2.1.length≤1000):q93 n (M,())=some ((frf M.2.2.1,()),()) :=
 p93_L2_eq n M.1.1 M.1.2 M.2.1.1 M.2.1.2 M.2.2.2 M.2.2.1 hs M.2.2.1 [] n rfl (by omega) (fun _ h=>by simp at h)
theorem frf_cases(S:List Sp):(frf S = -1∧frf S<0)∨∃ t:Nat,frf S=(t:Int)∧t<S.length∧(rw' S t).1=false:=by
 by_cases h:S.findIdx (fun s=>!s.1)<S.length
 ·refine .inr ⟨S.findIdx (fun s=>!s.1),by unfold frf;rw[if_pos h],h,?_⟩
  have this:(!(S[S.findIdx (fun s=>!s.1)]).1)=true:=List.findIdx_getElem (w:=h)
  rw[rw',List.getD_eq_getElem?_getD,List.getElem?_eq_getElem h]
  simpa using this
 ·refine .inl ⟨by unfold frf;rw[if_neg h],by unfold frf;rw[if_neg h];decide⟩
theorem MI.fill{M:Me}(hM:MI M){t:Nat}(ht:t<5)(hd:(rw' M.2.2.1 t).1=false):MI (M.1,M.2.1,M.2.2.1.set t (true,[],List.replicate (Int.toNat 16) (0,0,false,false)),M.2.2.2):=by
 have ht':t<M.2.2.1.length:=by rw[hM.sp.len];exact ht
 have hz:=(hM.sp.rw _ (zam (d:=(false,[],[])) ht')).dd hd
 have hc:∀ kd a:Int,kd≠0→told kd a (M.2.2.1.set t (true,[],List.replicate (Int.toNat 16) (0,0,false,false)))=told kd a M.2.2.1:=fun kd a hk=>by
  have h1:=zfo kd a (true,[],List.replicate (Int.toNat 16) (0,0,false,false)) M.2.2.1 t ht'
  have h2:cnt kd a (List.replicate (Int.toNat 16) ((0,0,false,false):Ar))=0:=by
   unfold cnt
   rw[List.countP_eq_zero]
   intro x hx
   rw[(List.mem_replicate.1 hx).2]
   simp[isT,Ne.symm hk]
  have h3:cnt kd a (M.2.2.1.getD t (false,[],[])).2.2=0:=by rw[hz];rfl
  simp only at h1
  omega
 refine⟨SpI.set hM.sp ⟨by simp,fun _=>by simp,fun h=>(by cases h),fun x hx=>?_⟩,⟨hM.ram.l1,hM.ram.l2,fun i hi=>?_,hM.ram.s⟩,⟨hM.swp.l1,hM.swp.l2,fun i hi=>?_,hM.swp.s⟩,hM.h0,hM.h1⟩
 ·rw[(List.mem_replicate.1 hx).2];unfold SlI;simp
 ·simp only;rw[hc 1 i (by decide)];exact hM.ram.c i hi
 ·simp only;rw[hc 2 i (by decide)];exact hM.swp.c i hi
theorem MI.dead{M:Me}(hM:MI M){w:Nat}(hw:w<5)(hz:∀ x∈(rw' M.2.2.1 w).2.2,x.1=0):MI (M.1,M.2.1,M.2.2.1.set w (false,[],[]),M.2.2.2):=by
 have hw':w<M.2.2.1.length:=by rw[hM.sp.len];exact hw
 have hc:∀ kd a:Int,kd≠0→told kd a (M.2.2.1.set w (false,[],[]))=told kd a M.2.2.1:=fun kd a hk=>by
  have h1:=zfo kd a (false,[],[]) M.2.2.1 w hw'
  have h3:cnt kd a (M.2.2.1.getD w (false,[],[])).2.2=0:=by
   unfold cnt
   rw[List.countP_eq_zero]
   intro x hx
   rw[zbg (by rw[hz x hx];exact Ne.symm hk)]
   simp
  have h4:cnt kd a ([]:List Ar)=0:=rfl
  simp only at h1
  omega
 refine⟨SpI.set hM.sp ⟨by simp,fun h=>(by cases h),fun _=>rfl,fun x hx=>(by simp at hx)⟩,⟨hM.ram.l1,hM.ram.l2,fun i hi=>?_,hM.ram.s⟩,⟨hM.swp.l1,hM.swp.l2,fun i hi=>?_,hM.swp.s⟩,hM.h0,hM.h1⟩
 ·simp only;rw[hc 1 i (by decide)];exact hM.ram.c i hi
 ·simp only;rw[hc 2 i (by decide)];exact hM.swp.c i hi
theorem PgC.inc{P:Pg}{c:Nat→Nat}(h:PgC P c){k:Nat}(hk:k<12)(hc:1≤c k):PgC (P.1,P.2.set k (P.2.getD k 0+1)) (fun i=>if i=k then c i+1 else c i):=by
 have l1:=h.l1
 have l2:=h.l2
 refine⟨l1,by simpa using l2,fun i hi=>?_,fun i hi hz=>?_⟩
 ·simp only
  rw[za4 _ _ _ _ _ (by omega)]
  by_cases e:i=k
  ·subst e;rw[if_pos rfl,if_pos rfl,h.c i hi];omega
  ·rw[if_neg e,if_neg e];exact h.c i hi
 ·simp only at hz ⊢
  rw[za4 _ _ _ _ _ (by omega)]at hz
  by_cases e:i=k
  ·subst e
   have:=h.c i hi
   exact h.s i hi (by omega)
  ·rw[if_neg e]at hz;exact h.s i hi hz
theorem PgC.congr{P:Pg}{c c':Nat→Nat}(h:PgC P c)(e:∀ i,i<12→c i=c' i):PgC P c':=⟨h.l1,h.l2,fun i hi=>by rw[← e i hi];exact h.c i hi,h.s⟩
theorem take_set(y:Ar):∀ (l:List Ar) (j:Nat),j<l.length→(l.set j y).take (j+1)=l.take j++[y]
 | [],j,h=>by simp at h
 | x::l,0,h=>by simp
 | x::l,j+1,h=>by
  have:=take_set y l j (by simp at h;omega)
  simp only[List.set_cons_succ,List.take_succ_cons,List.cons_append,this]
theorem cnt_app(kd a:Int)(l r:List Ar):cnt kd a (l++r)=cnt kd a l+cnt kd a r:=List.countP_append
structure FI(w t j:Nat)(R W:Pg)(S:List Sp):Prop where
 sp:SpI S
 lv:(rw' S w).1=true
 td:(rw' S t).1=false
 r:PgC R (fun i=>told 1 i S+cnt 1 i ((rw' S w).2.2.take j))
 s:PgC W (fun i=>told 2 i S+cnt 2 i ((rw' S w).2.2.take j))
theorem FI.len{w t j:Nat}{R W:Pg}{S:List Sp}(h:FI w t j R W S)(hw:w<5):(rw' S w).2.2.length=16 :=
 (h.sp.rw _ (zam (by rw[h.sp.len];exact hw))).lv h.lv
theorem zbi(kd i:Int){S:List Sp}{w j:Nat}{y:Ar}(hw:w<S.length)(hj:j<(rw' S w).2.2.length)(hy:y.1=(sl S w j).1∧y.2.1=(sl S w j).2.1) :
  told kd i (setS S w j y)+cnt kd i ((rw' (setS S w j y) w).2.2.take (j+1))=told kd i S+cnt kd i ((rw' S w).2.2.take j)+(if isT kd i (sl S w j) then 1 else 0):=by
 rw[told_same hw hj hy]
 have:rw' (setS S w j y) w=((rw' S w).1,(rw' S w).2.1,(rw' S w).2.2.set j y):=zb8 hw
 rw[this]
 simp only
 rw[take_set y _ j hj,cnt_app,zbk,isT_same hy]
 have:cnt kd i ([]:List Ar)=0:=rfl
 omega
theorem FI.base{w t j:Nat}{R W:Pg}{S:List Sp}(h:FI w t j R W S)(hw:w<5)(ht:t<5)(hne:t≠w)(hj:j<16){y:Ar}(hy:y.1=(sl S w j).1∧y.2.1=(sl S w j).2.1) :
  SpI (setS S w j y)∧(rw' (setS S w j y) w).1=true∧(rw' (setS S w j y) t).1=false:=by
 have hl:=h.len hw
 have hw':w<S.length:=by rw[h.sp.len];exact hw
 have hs:=h.sp.slI hw (p:=j) (by omega)
 have hyI:SlI y:=by unfold SlI at hs ⊢;rw[hy.1,hy.2];exact hs
 refine⟨h.sp.setS hw hyI,?_,?_⟩
 ·rw[(RS.set S w j y hw' w).1];exact h.lv
 ·rw[(RS.set S w j y hw' t).1];exact h.td
theorem FI.s0{w t j:Nat}{R W:Pg}{S:List Sp}(h:FI w t j R W S)(hw:w<5)(ht:t<5)(hne:t≠w)(hj:j<16){y:Ar}(hy:y.1=(sl S w j).1∧y.2.1=(sl S w j).2.1)(h0:(sl S w j).1=0):FI w t (j+1) R W (setS S w j y):=by
 have hw':w<S.length:=by rw[h.sp.len];exact hw
 have hl:=h.len hw
 obtain⟨b1,b2,b3⟩:=h.base hw ht hne hj hy
 refine⟨b1,b2,b3,h.r.congr fun i _=>?_,h.s.congr fun i _=>?_⟩
 ·rw[zbi 1 i hw' (by omega) hy,zbg (by rw[h0];decide)];simp
 ·rw[zbi 2 i hw' (by omega) hy,zbg (by rw[h0];decide)];simp
theorem FI.s1{w t j:Nat}{R W:Pg}{S:List Sp}(h:FI w t j R W S)(hw:w<5)(ht:t<5)(hne:t≠w)(hj:j<16){y:Ar}(hy:y.1=(sl S w j).1∧y.2.1=(sl S w j).2.1){k:Nat}(hk:k<12)(h1:(sl S w j).1=1)(h2:(sl S w j).2.1=(k:Int)):FI w t (j+1) (R.1,R.2.set k (R.2.getD k 0+1)) W (setS S w j y):=by
 have hw':w<S.length:=by rw[h.sp.len];exact hw
 have hl:=h.len hw
 obtain⟨b1,b2,b3⟩:=h.base hw ht hne hj hy
 have hpos:0<told 1 k S:=zb_ (zam hw') (zam (show j<(rw' S w).2.2.length by omega)) (zav.2 ⟨h1,h2⟩)
 refine⟨b1,b2,b3,(h.r.inc hk (by omega)).congr fun i _=>?_,h.s.congr fun i _=>?_⟩
 ·rw[zbi 1 i hw' (by omega) hy]
  have e1:isT 1 i (sl S w j)=decide (i=k):=by
   unfold isT;rw[h1,h2]
   by_cases e:i=k
   ·simp[e]
   ·simp[e];omega
  rw[e1]
  by_cases e:i=k
  ·simp[e]
  ·simp[e]
 ·rw[zbi 2 i hw' (by omega) hy,zbg (by rw[h1];decide)];simp
theorem FI.s2{w t j:Nat}{R W:Pg}{S:List Sp}(h:FI w t j R W S)(hw:w<5)(ht:t<5)(hne:t≠w)(hj:j<16){y:Ar}(hy:y.1=(sl S w j).1∧y.2.1=(sl S w j).2.1){k:Nat}(hk:k<12)(h1:(sl S w j).1=2)(h2:(sl S w j).2.1=(k:Int)):FI w t (j+1) R (W.1,W.2.set k (W.2.getD k 0+1)) (setS S w j y):=by
 have hw':w<S.length:=by rw[h.sp.len];exact hw
 have hl:=h.len hw
 obtain⟨b1,b2,b3⟩:=h.base hw ht hne hj hy
 have hpos:0<told 2 k S:=zb_ (zam hw') (zam (show j<(rw' S w).2.2.length by omega)) (zav.2 ⟨h1,h2⟩)
 refine⟨b1,b2,b3,h.r.congr fun i _=>?_,(h.s.inc hk (by omega)).congr fun i _=>?_⟩
 ·rw[zbi 1 i hw' (by omega) hy,zbg (by rw[h1];decide)];simp
 ·rw[zbi 2 i hw' (by omega) hy]
  have e1:isT 2 i (sl S w j)=decide (i=k):=by
   unfold isT;rw[h1,h2]
   by_cases e:i=k
   ·simp[e]
   ·simp[e];omega
  rw[e1]
  by_cases e:i=k
  ·simp[e]
  ·simp[e]
theorem FI.fin{w t:Nat}{R W:Pg}{S:List Sp}{h:Int}(hF:FI w t 16 R W S)(hw:w<5)(ht:t<5)(hne:t≠w)(hh:0≤h∧h<12):MI (R,W,S.set t (true,(rw' S w).2.1,(rw' S w).2.2),h):=by
 have ht':t<S.length:=by rw[hF.sp.len];exact ht
 have hw':w<S.length:=by rw[hF.sp.len];exact hw
 have hl:=hF.len hw
 have hr:=hF.sp.rw _ (zam (d:=(false,[],[])) hw')
 have hz:=(hF.sp.rw _ (zam (d:=(false,[],[])) ht')).dd hF.td
 have hc:∀ kd a:Int,told kd a (S.set t (true,(rw' S w).2.1,(rw' S w).2.2))=told kd a S+cnt kd a (rw' S w).2.2:=fun kd a=>by
  have h1:=zfo kd a (true,(rw' S w).2.1,(rw' S w).2.2) S t ht'
  have h3:cnt kd a (S.getD t (false,[],[])).2.2=0:=by rw[hz];rfl
  simp only at h1
  omega
 have htk:(rw' S w).2.2.take 16=(rw' S w).2.2:=List.take_of_length_le (by omega)
 refine⟨SpI.set hF.sp ⟨hr.ar,fun _=>hl,fun h=>(by cases h),hr.sl⟩,hF.r.toI fun i hi=>?_,hF.s.toI fun i hi=>?_,hh.1,hh.2⟩
 ·rw[hc,htk]
 ·rw[hc,htk]
theorem MI.frame{M:Me}(hM:MI M){w p:Nat}(hw:w<5)(hp:p<(rw' M.2.2.1 w).2.2.length)(h1:(sl M.2.2.1 w p).1=1):∃ k:Nat,(sl M.2.2.1 w p).2.1=(k:Int)∧k<12∧(M.1.1.getD k ByteArray.empty).size=4:=by
 have hw':w<M.2.2.1.length:=by rw[hM.sp.len];exact hw
 have hat:=(hM.sp.slI hw hp).2.2 (by rw[h1];decide)
 obtain⟨k,hk⟩:=Int.eq_ofNat_of_zero_le hat.1
 have hk2:k<12:=by omega
 have hpos:0<told 1 k M.2.2.1:=zb_ (zam hw') (zam hp) (zav.2 ⟨h1,hk⟩)
 have hc:=hM.ram.c k hk2
 exact⟨k,hk,hk2,hM.ram.s k hk2 (by omega)⟩
abbrev Bo:=Bool×List Ar×List Int×List ByteArray
def pk(M:Me)(x:Ar)(j:Nat):Int :=
 if x.1=1 then IntKind.i64.wrap (((M.1.1.getD x.2.1.toNat ByteArray.empty).data.toList.getD j (0:UInt8)).toNat:Int)
 else if x.1=2 then IntKind.i64.wrap (((M.2.1.1.getD x.2.1.toNat ByteArray.empty).data.toList.getD j (0:UInt8)).toNat:Int)
 else 0
def tx(M:Me)(x:Ar):ByteArray:=List.foldl (fun r n=>r.push (UInt8.ofNat n.toNat)) ByteArray.empty [IntKind.u8.wrap (pk M x 0),IntKind.u8.wrap (pk M x 1),IntKind.u8.wrap (pk M x 2),IntKind.u8.wrap (pk M x 3)]
def Fst(S:List Sp)(kd a g:Int):Prop:=∃ i k:Nat,i<S.length∧k<(rw' S i).2.2.length∧isT kd a (sl S i k)=true∧g=1+16*(i:Int)+(k:Int)∧(∀ j l:Nat,j<S.length→l<(rw' S j).2.2.length→isT kd a (sl S j l)=true→i<j∨(i=j∧k≤l))
def PgV(M:Me)(i p:Nat)(g:Int)(t:ByteArray):Prop :=
 (at2 (rw' M.2.2.1 i).2.1 p<0∧g=0∧t=ByteArray.empty)∨(0≤at2 (rw' M.2.2.1 i).2.1 p∧t=tx M (sl M.2.2.1 i p)∧(g=0∨((sl M.2.2.1 i p).1≠0∧Fst M.2.2.1 (sl M.2.2.1 i p).1 (sl M.2.2.1 i p).2.1 g)))
structure RowV(M:Me)(i:Nat)(b:Bo):Prop where
 lv:b.1=true
 ar:b.2.1=(rw' M.2.2.1 i).2.1
 gl:b.2.2.1.length=16
 tl:b.2.2.2.length=16
 pg:∀ p,p<16→PgV M i p (b.2.2.1.getD p 0) (b.2.2.2.getD p ByteArray.empty)
structure VW(M:Me)(V:List Bo):Prop where
 len:V.length=5
 dd:∀ i,i<5→(rw' M.2.2.1 i).1=false→V.getD i (false,[],[],[])=(false,[],[],[])
 lv:∀ i,i<5→(rw' M.2.2.1 i).1=true→RowV M i (V.getD i (false,[],[],[]))
theorem zid(n:Nat)(a b c:Int):q59 n (a,b,c,())=some ((decide (b≤a)&&decide (a≤c),()),()):=by
 show zi0 n a b c=_
 rw[zi0]
 by_cases h:b≤a <;> simp[h]
def aArea(x:Ar):Bool:=(decide (0≤x.1)&&decide (x.1≤15))&&(decide (1≤x.2.1)&&decide (x.2.1≤IntKind.i64.wrap (16 - x.1)))
theorem q158_eq(n:Nat)(x:Ar):q158 n (x,())=some ((aArea x,()),()):=by
 show zck n x=_
 rw[zck,zbm]
 simp only[Option.bind_some,aArea]
 cases (decide ((0:Int)≤x.1)&&decide (x.1≤15)) with
 | false=>rfl
 | true=>simp only[cond_true];rw[zbm];rfl
theorem q114_eq(n:Nat)(x:Ar):q114 n (x,())=some ((aArea x,()),()):=by
 show zgd n x=_
 rw[zgd,zid]
 simp only[Option.bind_some,aArea]
 cases (decide ((0:Int)≤x.1)&&decide (x.1≤15)) with
 | false=>rfl
 | true=>simp only[cond_true];rw[zid];rfl
theorem q115_eq(n:Nat)(x:Ar):q115 n (x,())=some ((IntKind.i64.wrap (x.1+x.2.1),()),()):=rfl
theorem p63_eq(n:Nat)(l:List Ar):∀ (m:Nat) (k:Int),p63_L2 n m l l (l.length:Int) k=zcw n m l k
 | 0,k=>rfl
 | m+1,k=>by
  have ih:=p63_eq n l m
  show st63_L2 n _ _ _ _ _=za_ n _ _ _
  have e1:=q114_eq n (l.getD k.toNat (0,0,false,false))
  have e2:=q158_eq n (l.getD k.toNat (0,0,false,false))
  have e3:=q115_eq n (l.getD (IntKind.i64.wrap (k - 1)).toNat (0,0,false,false))
  have e1':q114 n (((l.getD k.toNat (0,0,false,false)).1,(l.getD k.toNat (0,0,false,false)).2.1,(l.getD k.toNat (0,0,false,false)).2.2.1,(l.getD k.toNat (0,0,false,false)).2.2.2),())=_:=e1
  have e2':q158 n (((l.getD k.toNat (0,0,false,false)).1,(l.getD k.toNat (0,0,false,false)).2.1,(l.getD k.toNat (0,0,false,false)).2.2.1,(l.getD k.toNat (0,0,false,false)).2.2.2),())=_:=e2
  have e3':q115 n (((l.getD (IntKind.i64.wrap (k - 1)).toNat (0,0,false,false)).1,(l.getD (IntKind.i64.wrap (k - 1)).toNat (0,0,false,false)).2.1,(l.getD (IntKind.i64.wrap (k - 1)).toNat (0,0,false,false)).2.2.1,(l.getD (IntKind.i64.wrap (k - 1)).toNat (0,0,false,false)).2.2.2),())=_:=e3
  simp only[st63_L2,za_,ih]
  rw[e1',e2',e3']
  simp only[Option.bind_some]
  cases hk:decide (k<(l.length:Int)) <;> cases hk0:decide (0≤k) <;> cases aArea (l.getD k.toNat (0,0,false,false)) <;> cases decide (0<k) <;> cases decide (0≤IntKind.i64.wrap (k - 1)) <;> cases decide (IntKind.i64.wrap (k - 1)<(l.length:Int)) <;> rfl
theorem q63_eq(n:Nat)(l:List Ar):q63 n (l,())=q127 n (l,()):=p63_eq n l n 0
theorem p127_area(n:Nat)(l:List Ar)(hs:l.length≤1000):∀ (d k m:Nat),k+d=l.length→d<m→zcw n m l (k:Int)=some ((true,()),())→∀ i,k≤i→i<l.length→aArea (l.getD i (0,0,false,false))=true
 | _,k,0,_,h,_=>by omega
 | 0,k,m+1,hk,h,he=>fun i h1 h2=>by omega
 | d+1,k,m+1,hk,h,he=>by
  have hl:k<l.length:=by omega
  have he':za_ n (zcw n m) l (k:Int)=some ((true,()),()):=he
  have e2':q158 n (((l.getD k (0,0,false,false)).1,(l.getD k (0,0,false,false)).2.1,(l.getD k (0,0,false,false)).2.2.1,(l.getD k (0,0,false,false)).2.2.2),())=_:=q158_eq n (l.getD k (0,0,false,false))
  simp only[za_,lt_t hl,ge_t,cond_true,zaa]at he'
  rw[e2']at he'
  simp only[Option.bind_some,wS (show k≤1000000 by omega)]at he'
  cases ha:aArea (l.getD k (0,0,false,false)) with
  | false=>rw[ha]at he';simp at he'
  | true =>
   rw[ha]at he'
   simp only[Bool.not_true,cond_false]at he'
   have hn:zcw n m l ((k+1:Nat):Int)=some ((true,()),()):=by
    revert he'
    cases decide (0<(k:Int)) <;> cases decide (0≤IntKind.i64.wrap ((k:Int) - 1)) <;> cases decide (IntKind.i64.wrap ((k:Int) - 1)<(l.length:Int)) <;> cases decide ((l.getD k (0,0,false,false)).1<IntKind.i64.wrap ((l.getD (IntKind.i64.wrap ((k:Int) - 1)).toNat (0,0,false,false)).1+(l.getD (IntKind.i64.wrap ((k:Int) - 1)).toNat (0,0,false,false)).2.1)) <;> simp
   intro i h1 h2
   by_cases e:i=k
   ·subst e;exact ha
   ·exact p127_area n l hs d (k+1) m (by omega) (by omega) hn i (by omega) h2
theorem q127_area(n:Nat)(hn:2000≤n)(l:List Ar)(hs:l.length≤1000)(h:q127 n (l,())=some ((true,()),())):∀ x∈l,aArea x=true:=fun x hx=>by
 obtain⟨i,hi,rfl⟩:=List.getElem_of_mem hx
 have:=p127_area n l hs l.length 0 n (by omega) (by omega) h i (Nat.zero_le _) hi
 rw[List.getD_eq_getElem?_getD,List.getElem?_eq_getElem hi]at this
 exact this
theorem inA_area{x:Ar}(h:aArea x=true)(b:Int):inA b x=(decide (x.1≤b)&&decide (b<IntKind.i64.wrap (x.1+x.2.1))):=by
 unfold aArea at h
 obtain⟨h1,h2⟩:=zbv.1 h
 obtain⟨h3,h4⟩:=zbv.1 h1
 obtain⟨h5,h6⟩:=zbv.1 h2
 have h3:=of_decide_eq_true h3
 have h4:=of_decide_eq_true h4
 have h5:=of_decide_eq_true h5
 have h6:=of_decide_eq_true h6
 rw[wr (by omega) (by omega)]at h6
 unfold inA
 rw[wr (x:=x.1+x.2.1) (by omega) (by omega),wr (by omega) (by omega)]
 congr 1
 exact decide_eq_decide.2 (by omega)
theorem q125_eq(n:Nat)(x:Ar)(b:Int):q125 n (x,b,())=some ((decide (x.1≤b)&&decide (b<IntKind.i64.wrap (x.1+x.2.1)),()),()):=by
 show zga n x b=_
 rw[zga,q115_eq]
 cases h:decide (x.1≤b) with
 | false=>simp[h]
 | true=>simp[h]
theorem p124_L2_eq(n:Nat)(b:Int)(l:List Ar)(hs:l.length≤1000)(ha:∀ x∈l,aArea x=true):∀ (rest done:List Ar) (m:Nat),done++rest=l→rest.length<m→(∀ x∈done,inA b x=false)→p124_L2 n m l b (l.length:Int) (done.length:Int)=some ((at2 l b,()),())
 | [],done,0,hd,h,_=>by simp at h
 | [],done,m+1,hd,h,hz=>by
  have hd':done=l:=by simpa using hd
  subst hd'
  have hf:¬ done.findIdx (inA b)<done.length:=by
   rw[List.findIdx_lt_length]
   rintro ⟨x,hx,hh⟩
   rw[hz x hx]at hh;cases hh
  show zd_ n _ _ _ _ _=_
  simp only[zd_,lt_f,cond_false,at2,if_neg hf]
 | x::rest,done,0,hd,h,_=>by simp at h
 | x::rest,done,m+1,hd,h,hz=>by
  have hl:done.length<l.length:=by rw[← hd];simp
  have hg:l.getD done.length (0,0,false,false)=x:=by rw[← hd];simp
  have hxa:=ha x (by rw[← hd];simp)
  show zd_ n _ _ _ _ _=_
  simp only[zd_,lt_t hl,ge_t,cond_true,zaa,hg]
  have e:q125 n ((x.1,x.2.1,x.2.2.1,x.2.2.2),b,())=_:=q125_eq n x b
  rw[e,← inA_area hxa]
  simp only[Option.bind_some]
  cases hx:inA b x with
  | true =>
   have hf:l.findIdx (inA b)=done.length:=by
    rw[← hd,List.findIdx_append,List.findIdx_eq_length_of_false hz]
    simp[List.findIdx_cons,hx]
   simp only[cond_true,at2,hf,if_pos hl]
  | false =>
   simp only[cond_false]
   have ih:=p124_L2_eq n b l hs ha rest (done++[x]) m (by simpa using hd) (by simp at h;omega) (by
    intro y hy
    rcases List.mem_append.1 hy with hy | hy
    ·exact hz y hy
    ·rw[List.mem_singleton.1 hy];exact hx)
   simp only[List.length_append,List.length_cons,List.length_nil,Nat.zero_add]at ih
   rw[wS (by omega),ih]
theorem q60_eq(n:Nat)(hn:2000≤n)(l:List Ar)(b:Int)(hs:l.length≤1000)(h:q127 n (l,())=some ((true,()),())):q60 n (l,b,())=some ((at2 l b,()),()):=by
 have e0:q60 n (l,b,())=ziz n l b:=rfl
 rw[e0,ziz,q63_eq,h]
 simp only[Option.bind_some,Bool.not_true,cond_false]
 have e1:q124 n (l,(b,()),())=_:=p124_L2_eq n b l hs (q127_area n hn l hs h) l [] n rfl (by omega) (fun _ h=>by simp at h)
 rw[e1]
 rfl
abbrev rb(V:List Bo)(i:Nat):Bo:=V.getD i (false,[],[],[])
structure BOk(b:Bo):Prop where
 ar:b.2.1.length≤6
 gl:b.2.2.1.length≤16
 tl:b.2.2.2.length=b.2.2.1.length
structure VB(V:List Bo):Prop where
 len:V.length≤5
 ok:∀ b∈V,BOk b
noncomputable def aok(n:Nat)(l:List Ar):Bool:=match q127 n (l,()) with
 | some r=>r.1.1
 | none=>false
noncomputable def alB(n:Nat)(b:Bo):Bool:=b.1&&(decide ((b.2.2.1.length:Int)=16)&&(decide ((b.2.2.2.length:Int)=16)&&aok n b.2.1))
noncomputable def al(n:Nat)(V:List Bo)(w:Int):Bool:=(decide (0≤w)&&decide (w≤(V.length:Int) - 1))&&alB n (rb V w.toNat)
theorem VB.row{V:List Bo}(h:VB V){i:Nat}(hi:i<V.length):BOk (rb V i):=h.ok _ (zam hi)
abbrev z4:Ar:=(0,0,false,false)
def shd(ar:List Ar)(p:Int):Bool:=decide (0≤at2 ar p)&&(ar.getD (at2 ar p).toNat z4).2.2.2
def tlR(kd a:Int)(ar:List Ar):Nat→List Ar→List (Bool×Bool)
 | _,[]=>[]
 | p,x::l=>cond (isT kd a x) ((x.2.2.1,shd ar p)::tlR kd a ar (p+1) l) (tlR kd a ar (p+1) l)
def tl(kd a:Int)(S:List Sp):List (Bool×Bool):=S.flatMap fun s=>tlR kd a s.2.1 0 s.2.2
theorem tlR_len(kd a:Int)(ar:List Ar):∀ (l:List Ar) (p:Nat),(tlR kd a ar p l).length=cnt kd a l
 | [],_=>rfl
 | x::l,p=>by
  rw[zbk,tlR]
  cases isT kd a x with
  | true=>simp[tlR_len kd a ar l]
  | false=>simp[tlR_len kd a ar l]
theorem tl_cons(kd a:Int)(s:Sp)(S:List Sp):tl kd a (s::S)=tlR kd a s.2.1 0 s.2.2++tl kd a S:=by simp[tl]
theorem tl_len(kd a:Int):∀ S:List Sp,(tl kd a S).length=told kd a S
 | []=>rfl
 | s::S=>by rw[tl_cons,zbe,List.length_append,tlR_len,tl_len kd a S]
theorem tl_app(kd a:Int)(S T:List Sp):tl kd a (S++T)=tl kd a S++tl kd a T:=by simp[tl]
def alnB(l:List (Bool×Bool)):Bool:=decide (l.length<2) || (!l.any (·.1) || !l.any (!·.2))
def prB(l:List (Bool×Bool)):Prop:=∀ i j,i<l.length→j<l.length→i≠j→(l.getD i (false,false)).1=true→(l.getD i (false,false)).2=true∧(l.getD j (false,false)).2=true
theorem alnB_iff(l:List (Bool×Bool)):alnB l=true↔prB l:=by
 constructor
 ·intro h i j hi hj hne ho
  have hi':l.getD i (false,false)∈l:=zam hi
  have hj':l.getD j (false,false)∈l:=zam hj
  unfold alnB at h
  simp only[Bool.or_eq_true,decide_eq_true_eq,Bool.not_eq_true',List.any_eq_false]at h
  rcases h with h | h | h
  ·omega
  ·exact absurd ho (h _ hi')
  ·exact⟨by simpa using h _ hi',by simpa using h _ hj'⟩
 ·intro h
  unfold alnB
  simp only[Bool.or_eq_true,decide_eq_true_eq,Bool.not_eq_true',List.any_eq_false]
  by_cases h2:l.length<2
  ·exact .inl h2
  ·right
   by_cases h3:∀ x∈l,¬ (x.1=true)
   ·exact .inl h3
   ·right
    simp only[Classical.not_forall,Classical.not_not]at h3
    obtain⟨x,hx,hxo⟩:=h3
    obtain⟨i,hi,rfl⟩:=List.getElem_of_mem hx
    intro y hy
    obtain⟨j,hj,rfl⟩:=List.getElem_of_mem hy
    have ei:l.getD i (false,false)=l[i]:=by rw[List.getD_eq_getElem?_getD,List.getElem?_eq_getElem hi];rfl
    have ej:l.getD j (false,false)=l[j]:=by rw[List.getD_eq_getElem?_getD,List.getElem?_eq_getElem hj];rfl
    have hxo:l[i].1=true:=hxo
    by_cases hij:i=j
    ·subst hij
     have:∃ k,k<l.length∧i≠k:=by
      by_cases h0:i=0
      ·exact⟨1,by omega,by omega⟩
      ·exact⟨0,by omega,h0⟩
     obtain⟨k,hk,hne⟩:=this
     have:=(h i k hi hk hne (by rw[ei];exact hxo)).1
     rw[ei]at this
     simp[this]
    ·have:=(h i j hi hj hij (by rw[ei];exact hxo)).2
     rw[ej]at this
     simp[this]
theorem p120_L8_eq(n:Nat)(hn:2000≤n)(g5:Int→Int→Int→Bool→Bool→Int→List ByteArray→List Int→List ByteArray→List Int→List Sp→Int→Option R120)(kd a x12:Int)(x7:List ByteArray)(x8:List Int)(x9:List ByteArray)(x10:List Int)(pre post:List Sp)(s:Sp)(ha:s.2.1.length≤1000)(hs:s.2.2.length≤1000) :
  ∀ (rest done:List Ar) (m c:Nat) (u v:Bool),done++rest=s.2.2→rest.length<m→c+rest.length≤100000 →
   zfj g5 n m kd a (c:Int) u v (pre.length:Int) (done.length:Int) x7 x8 x9 x10 (pre++s::post) x12 =
    g5 kd a ((c+(tlR kd a s.2.1 done.length rest).length:Nat):Int) (u || (tlR kd a s.2.1 done.length rest).any (·.1)) (v || (tlR kd a s.2.1 done.length rest).any (!·.2)) (IntKind.i64.wrap ((pre.length:Int)+1)) x7 x8 x9 x10 (pre++s::post) x12
 | _,_,0,c,u,v,_,h,_=>by omega
 | [],done,m+1,c,u,v,hk,h,hc=>by
  have hk:done=s.2.2:=by simpa using hk
  subst hk
  show zbq n _ _ _ _ _ _ _ _ _ _ _ _ _ _ _=_
  simp only[zbq,ge_t,zdb,zaa,zbj,lt_f,cond_true,cond_false,tlR,List.length_nil,Nat.add_zero,List.any_nil,Bool.or_false]
 | x::rest,done,m+1,c,u,v,hk,h,hc=>by
  have hl:done.length<s.2.2.length:=by rw[← hk];simp
  have hg:s.2.2.getD done.length z4=x:=by rw[← hk];exact zbj _ _ _ _
  have ih:=fun c' u' v' hc'=>p120_L8_eq n hn g5 kd a x12 x7 x8 x9 x10 pre post s ha hs rest (done++[x]) m c' u' v' (by simpa using hk) (by simp at h;omega) hc'
  simp only[List.length_append,List.length_cons,List.length_nil,Nat.zero_add]at ih
  show zbq n _ _ _ _ _ _ _ _ _ _ _ _ _ _ _=_
  simp only[List.length_cons]at hc
  simp only[zbq,ge_t,zdb,zaa,zbj,cond_true,lt_t hl,wS (show done.length≤1000000 by omega),wS (show c≤1000000 by omega),q157_eq n hn (s.1,s.2.1,s.2.2) ha,Option.bind_some,hg]
  by_cases h1:x.1=kd
  ·by_cases h2:x.2.1=a
   ·have ht:isT kd a x=true:=zav.2 ⟨h1,h2⟩
    simp only[h1,h2,decide_true,cond_true,tlR,ht,List.length_cons,List.any_cons]
    have e1:∀ q:Nat,c+(q+1)=c+1+q:=fun q=>by omega
    rw[e1 (tlR kd a s.2.1 (done.length+1) rest).length]
    cases u with
    | true =>
     simp only[cond_true,Bool.true_or]
     cases v with
     | true=>simp only[cond_true,Bool.true_or];rw[ih (c+1) true true (by omega)];simp only[Bool.true_or]
     | false=>simp only[cond_false,Bool.false_or];rw[ih (c+1) true _ (by omega)];simp only[Bool.true_or];rfl
    | false =>
     simp only[cond_false,Bool.false_or]
     cases v with
     | true=>simp only[cond_true,Bool.true_or];rw[ih (c+1) _ true (by omega)];simp only[Bool.true_or]
     | false=>simp only[cond_false,Bool.false_or];rw[ih (c+1) _ _ (by omega)];rfl
   ·have ht:isT kd a x=false:=by rw[Bool.eq_false_iff];exact fun hh=>h2 (zav.1 hh).2
    simp only[h1,h2,decide_true,decide_false,cond_true,cond_false,tlR,ht]
    exact ih c u v (by omega)
  ·have ht:isT kd a x=false:=by rw[Bool.eq_false_iff];exact fun hh=>h1 (zav.1 hh).1
   simp only[h1,decide_false,cond_false,tlR,ht]
   exact ih c u v (by omega)
theorem p120_L5_eq(n:Nat)(hn:2000≤n)(kd a x11:Int)(x6:List ByteArray)(x7:List Int)(x8:List ByteArray)(x9:List Int) :
  ∀ (post pre:List Sp) (m c:Nat) (u v:Bool),post.length<m→pre.length+post.length≤100→(∀ s∈post,s.2.1.length≤100∧s.2.2.length≤100)→c≤100*pre.length →
   zfk n m kd a (c:Int) u v (pre.length:Int) x6 x7 x8 x9 (pre++post) x11=some ((decide (c+(tl kd a post).length<2) || (!(u || (tl kd a post).any (·.1)) || !(v || (tl kd a post).any (!·.2))),()),())
 | [],pre,0,c,u,v,h,_,_,_=>by simp at h
 | [],pre,m+1,c,u,v,h,hl,_,_=>by
  show zbr n _ _ _ _ _ _ _ _ _ _ _ _ _=_
  have e:decide ((c:Int)<2)=decide (c<2):=by congr 1;simp;omega
  simp only[zbr,List.append_nil,lt_f,cond_false,tl,List.flatMap_nil,List.length_nil,Nat.add_zero,List.any_nil,Bool.or_false,e]
  cases decide (c<2) <;> cases u <;> cases v <;> rfl
 | s::post,pre,0,c,u,v,h,_,_,_=>by simp at h
 | s::post,pre,m+1,c,u,v,h,hl,hs,hc=>by
  have ih:=fun c' u' v' hc'=>p120_L5_eq n hn kd a x11 x6 x7 x8 x9 post (pre++[s]) m c' u' v' (by simp at h;omega) (by simp at hl ⊢;omega) (fun t ht=>hs t (List.mem_cons_of_mem _ ht)) hc'
  simp only[List.length_append,List.length_cons,List.length_nil,List.append_assoc,List.cons_append,List.nil_append,Nat.zero_add]at ih
  have hs0:=hs s List.mem_cons_self
  simp only[List.length_cons]at hl
  have h2:=p120_L8_eq n hn (zfk n m) kd a x11 x6 x7 x8 x9 pre post s (by omega) (by omega) s.2.2 [] n c u v rfl (by omega) (by omega)
  simp only[List.length_nil]at h2
  show zbr n _ _ _ _ _ _ _ _ _ _ _ _ _=_
  simp only[zbr,zdb,cond_true]
  refine h2.trans ?_
  have hle:(tlR kd a s.2.1 0 s.2.2).length≤s.2.2.length:=by rw[tlR_len];exact cnt_le _ _ _
  rw[wS (by omega),ih _ _ _ (by omega),tl_cons]
  simp only[List.length_append,List.any_append,Bool.or_assoc,Nat.add_assoc]
theorem q120_eq(n:Nat)(hn:2000≤n)(M:Me)(hM:MW M)(kd a:Int):q120 n (M,kd,a,())=some ((alnB (tl kd a M.2.2.1),()),()):=by
 have h1:=hM.s
 have:=p120_L5_eq n hn kd a M.2.2.2 M.1.1 M.1.2 M.2.1.1 M.2.1.2 M.2.2.1 [] n 0 false false (by omega) (by simp;omega) hM.r (by simp)
 simp only[List.nil_append,List.length_nil,Nat.zero_add,Bool.false_or]at this
 exact this
theorem wL{i:Nat}(h:i≤4000000000000000000):IntKind.i64.wrap ((i:Int)+1)=((i+1:Nat):Int):=by rw[wr (by omega) (by omega)];omega
theorem p62_eq(n:Nat)(t:List ByteArray)(l:List Int)(htl:t.length=l.length)(hs:l.length≤1000):∀ (m k:Nat),k≤l.length→p62_L4 n m l (l.length:Int) (k:Int) t l=zcx n m (k:Int) t l
 | 0,k,_=>rfl
 | m+1,k,hk=>by
  show zjx n (p62_L4 n m) _ _ _ _ _=zbw n (zcx n m) _ _ _
  rcases Nat.lt_or_eq_of_le hk with hl | rfl
  ·have ih:=p62_eq n t l htl hs m (k+1) (by omega)
   simp only[zjx,zbw,lt_t hl,lt_t (show k<t.length by omega),ge_t,cond_true,zaa,zid n (l.getD k 0) 0 99,zbm n (l.getD k 0) 0 99,Option.bind_some,wS (show k≤1000000 by omega),ih]
  ·simp only[zjx,zbw,lt_f,cond_false,← htl]
theorem q62_eq(n:Nat)(P:Pg):q62 n (P,())=q117 n (P,()):=by
 show ziy n (p62_L4 n n) P=zbf n (zcx n n) P
 unfold ziy zbf
 by_cases h1:(P.1.length:Int)=(P.2.length:Int)
 ·rw[decide_eq_true h1]
  simp only[Bool.not_true,cond_false,zid n (P.1.length:Int) 1 12,zbm n (P.1.length:Int) 1 12,Option.bind_some]
  cases hb:(decide ((1:Int)≤(P.1.length:Int))&&decide ((P.1.length:Int)≤12)) with
  | false=>rfl
  | true =>
   simp only[Bool.not_true,cond_false]
   have h2:=of_decide_eq_true (zbv.1 hb).2
   exact p62_eq n P.1 P.2 (by omega) (by omega) n 0 (Nat.zero_le _)
 ·rw[decide_eq_false h1]
  rfl
noncomputable def pgB(n:Nat)(P:Pg):Bool:=match q117 n (P,()) with
 | some ((b,_),_)=>b
 | none=>false
theorem zhz(n:Nat)(hn:2000≤n)(P:Pg):q117 n (P,())=some ((pgB n P,()),())∧(pgB n P=true→P.1.length=P.2.length∧P.1.length≤12∧∀ i,i<P.2.length→P.2.getD i 0≠0→(P.1.getD i ByteArray.empty).size=4):=by
 by_cases h:P.1.length≤1000∧P.2.length≤1000
 ·obtain⟨b,e,f⟩:=q117_tot n hn P h.1 h.2
  have hb:pgB n P=b:=by unfold pgB;rw[e]
  rw[hb]
  refine⟨e,fun hb=>⟨(f hb).1,?_,(f hb).2⟩⟩
  subst hb
  have e:zbf n (zcx n n) P=some ((true,()),()):=e
  unfold zbf at e
  rw[zbm]at e
  simp only[Option.bind_some]at e
  cases h1:decide ((P.1.length:Int)=(P.2.length:Int)) with
  | false=>rw[h1]at e;simp at e
  | true =>
   rw[h1]at e
   simp only[Bool.not_true,cond_false]at e
   cases h2:(decide ((1:Int)≤(P.1.length:Int))&&decide ((P.1.length:Int)≤12)) with
   | false=>rw[h2]at e;simp at e
   | true=>have:=of_decide_eq_true (zbv.1 h2).2;omega
 ·have e:q117 n (P,())=some ((false,()),()):=by
   show zbf n (zcx n n) P=_
   unfold zbf
   rw[zbm]
   simp only[Option.bind_some]
   by_cases h1:(P.1.length:Int)=(P.2.length:Int)
   ·have h2:decide ((P.1.length:Int)≤12)=false:=decide_eq_false (by omega)
    rw[decide_eq_true h1,h2]
    simp
   ·rw[decide_eq_false h1]
    rfl
  have hb:pgB n P=false:=by unfold pgB;rw[e]
  rw[hb]
  exact⟨e,fun h=>by cases h⟩
theorem zif(n:Nat)(l:List Ar)(hs:l.length≤4000000):∀ (d k m:Nat),k+d=l.length→d<m→∃ b,zcw n m l (k:Int)=some ((b,()),())∧(b=true→l.length≤6)
 | _,k,0,_,h=>by omega
 | 0,k,m+1,hk,h=>by
  obtain rfl:k=l.length:=by omega
  show ∃ b,za_ n _ _ _=_∧_
  simp only[za_,lt_f,cond_false]
  exact⟨_,rfl,fun hb=>by have:=of_decide_eq_true hb;omega⟩
 | d+1,k,m+1,hk,h=>by
  have hl:k<l.length:=by omega
  obtain⟨b,ih⟩:=zif n l hs d (k+1) m (by omega) (by omega)
  show ∃ b,za_ n _ _ _=_∧_
  simp only[za_,lt_t hl,ge_t,cond_true,zaa]
  obtain⟨b1,e1⟩:=q158_tot n ((l.getD k (0,0,false,false)).1,(l.getD k (0,0,false,false)).2.1,(l.getD k (0,0,false,false)).2.2.1,(l.getD k (0,0,false,false)).2.2.2)
  rw[e1]
  simp only[Option.bind_some]
  cases b1 with
  | false=>exact⟨_,rfl,fun hb=>by cases hb⟩
  | true =>
   simp only[Bool.not_true,cond_false,wL (show k≤4000000000000000000 by omega)]
   cases k with
   | zero=>exact⟨_,ih⟩
   | succ k =>
    have e2:IntKind.i64.wrap (((k+1:Nat):Int) - 1)=(k:Int):=by rw[wr (by omega) (by omega)];omega
    have e3:decide ((0:Int)<((k+1:Nat):Int))=true:=decide_eq_true (by omega)
    simp only[e2,e3,cond_true,ge_t,lt_t (show k<l.length by omega),zaa]
    cases decide ((l.getD (k+1) (0,0,false,false)).1<IntKind.i64.wrap ((l.getD k (0,0,false,false)).1+(l.getD k (0,0,false,false)).2.1)) with
    | true=>exact⟨_,rfl,fun hb=>by cases hb⟩
    | false=>exact⟨_,ih⟩
theorem q127_eqB(n:Nat)(l:List Ar)(hl:l.length<n)(hs:l.length≤4000000):q127 n (l,())=some ((aok n l,()),())∧(aok n l=true→l.length≤6):=by
 obtain⟨b,e,f⟩:=zif n l hs l.length 0 n (by omega) (by omega)
 have hb:aok n l=b:=by unfold aok;rw[show q127 n (l,())=_ from e]
 rw[hb]
 exact⟨e,f⟩
def SlV(ar:List Ar)(i:Nat)(x:Ar):Prop:=(x.1=0→x=z4)∧(x.1≠0→0≤at2 ar i∧(1≤x.1∧x.1≤2)∧((ar.getD (at2 ar i).toNat z4).2.2.2=true→x.2.2.1=true))
def SpV(n:Nat)(s:Sp):Prop:=(s.1=false→s.2.1=[]∧s.2.2=[])∧(s.1=true→aok n s.2.1=true∧s.2.2.length=16∧∀ i,i<16→SlV s.2.1 i (s.2.2.getD i z4)∧AtOk (s.2.2.getD i z4))
def SpW(n:Nat)(s:Sp):Prop:=(s.1=false→s.2.1=[]∧s.2.2=[])∧(s.1=true→aok n s.2.1=true∧s.2.2.length=16∧∀ i,i<16→SlV s.2.1 i (s.2.2.getD i z4))
theorem zero4(x:Ar)(h0:x.1=0):(decide (x.1=0)&&(decide (x.2.1=0)&&(x.2.2.1 == false&&(x.2.2.2 == false&&true))))=true↔x=z4:=by
 obtain⟨a,b,c,d⟩:=x
 simp only at h0
 subst h0
 cases c <;> cases d <;> simp
theorem zk5(n:Nat)(hn:2000≤n)(x1:Bool)(ar:List Ar)(ha:ar.length≤1000)(l:List Ar)(hl:l.length=16):∀ (d k m:Nat),k+d=16→d<m→∃ b,zfl n m (k:Int) x1 ar l=some ((b,()),())∧(b=true↔∀ i,k≤i→i<16→SlV ar i (l.getD i z4))
 | _,k,0,_,h=>by omega
 | 0,k,m+1,hk,h=>by
  obtain rfl:k=16:=by omega
  show ∃ b,zbs n _ _ _ _ _=_∧_
  simp only[zbs]
  exact⟨_,rfl,iff_of_true rfl fun i h1 h2=>by omega⟩
 | d+1,k,m+1,hk,h=>by
  obtain⟨b,e,ih⟩:=zk5 n hn x1 ar ha l hl d (k+1) m (by omega) (by omega)
  have hr:=at2_rng ar k
  show ∃ b,zbs n _ _ _ _ _=_∧_
  simp only[zbs,show decide ((k:Int)<16)=true from decide_eq_true (by omega),lt_t (show k<l.length by omega),ge_t,cond_true,zaa,zbm n (l.getD k (0,0,false,false)).1 1 2,q71_eq n hn ar k ha,Option.bind_some,wS (show k≤1000000 by omega)]
  have hstep:SlV ar k (l.getD k z4)→∃ b,zfl n m ((k+1:Nat):Int) x1 ar l=some ((b,()),())∧(b=true↔∀ i,k≤i→i<16→SlV ar i (l.getD i z4)):=fun hx =>
   ⟨b,e,ih.trans ⟨fun hh i h1 h2=>by
    by_cases hi:i=k
    ·subst hi;exact hx
    ·exact hh i (by omega) h2,fun hh i h1 h2=>hh i (by omega) h2⟩⟩
  have hno:¬ SlV ar k (l.getD k z4)→∃ b,(some ((false,()),()):Option R118)=some ((b,()),())∧(b=true↔∀ i,k≤i→i<16→SlV ar i (l.getD i z4)):=fun hx =>
   ⟨false,rfl,iff_of_false (by simp) fun hh=>hx (hh k (Nat.le_refl _) (by omega))⟩
  by_cases h0:(l.getD k z4).1=0
  ·have hz:=zero4 (l.getD k z4) h0
   rw[decide_eq_true h0]at hz
   simp only[h0,decide_true,cond_true]
   cases hc:(true&&(decide ((l.getD k z4).2.1=0)&&((l.getD k z4).2.2.1 == false&&((l.getD k z4).2.2.2 == false&&true)))) with
   | false=>exact hno fun hx=>by have:=hz.2 (hx.1 h0);rw[hc]at this;cases this
   | true=>exact hstep ⟨fun _=>hz.1 hc,fun h=>absurd h0 h⟩
  ·simp only[h0,decide_false,cond_false]
   by_cases h1:at2 ar k<0
   ·simp only[h1,decide_true,cond_true]
    exact hno fun hx=>by have:=(hx.2 h0).1;omega
   ·obtain⟨j,hj⟩:=Int.eq_ofNat_of_zero_le (show 0≤at2 ar k by omega)
    simp only[h1,decide_false,cond_false]
    by_cases h2:1≤(l.getD k z4).1∧(l.getD k z4).1≤2
    ·have e1:decide (1≤(l.getD k z4).1)=true:=decide_eq_true h2.1
     have e2:decide ((l.getD k z4).1≤2)=true:=decide_eq_true h2.2
     simp only[e1,e2,Bool.and_self,Bool.not_true,cond_false,hj,ge_t,lt_t (show j<ar.length by omega),cond_true,zaa]
     cases hsh:(ar.getD j z4).2.2.2 with
     | false=>exact hstep ⟨fun h=>absurd h h0,fun _=>⟨by omega,h2,fun hq=>by rw[hj,zaa,hsh]at hq;cases hq⟩⟩
     | true =>
      simp only[cond_true]
      cases ho:(l.getD k z4).2.2.1 with
      | false=>exact hno fun hx=>by have:=(hx.2 h0).2.2 (by rw[hj,zaa];exact hsh);rw[ho]at this;cases this
      | true=>exact hstep ⟨fun h=>absurd h h0,fun _=>⟨by omega,h2,fun _=>ho⟩⟩
    ·have:(decide (1≤(l.getD k z4).1)&&decide ((l.getD k z4).1≤2))=false:=by
      rw[Bool.eq_false_iff];intro hh
      have:=zbv.1 hh
      exact h2 ⟨of_decide_eq_true this.1,of_decide_eq_true this.2⟩
     simp only[this,Bool.not_false,cond_true]
     exact hno fun hx=>h2 (hx.2 h0).2.1
theorem q118_iff(n:Nat)(hn:2000≤n)(s:Sp)(ha:s.2.1.length<n)(ha2:s.2.1.length≤4000000):∃ b,q118 n (s,())=some ((b,()),())∧(b=true↔SpW n s):=by
 show ∃ b,zcl n _ s=_∧_
 rw[zcl]
 cases hb:s.1 with
 | false =>
  simp only[Bool.not_false,cond_true]
  by_cases h1:((s.2.1.length:Int)=0)
  ·simp only[h1,decide_true,cond_true]
   refine⟨_,rfl,⟨fun hd=>⟨fun _=>⟨List.length_eq_zero_iff.1 (by omega),List.length_eq_zero_iff.1 (by have:=of_decide_eq_true hd;omega)⟩,fun h=>by rw[hb]at h;cases h⟩,fun hw=>?_⟩⟩
   have:=(hw.1 hb).2
   rw[this]
   rfl
  ·simp only[h1,decide_false,cond_false]
   refine⟨_,rfl,iff_of_false (by simp) fun hw=>h1 ?_⟩
   have:=(hw.1 hb).1
   rw[this]
   rfl
 | true =>
  simp only[Bool.not_true,cond_false]
  obtain⟨e1,f1⟩:=q127_eqB n s.2.1 ha ha2
  rw[e1]
  simp only[Option.bind_some]
  cases hk:aok n s.2.1 with
  | false=>exact⟨_,rfl,iff_of_false (by simp) fun hw=>by have:=(hw.2 hb).1;rw[hk]at this;cases this⟩
  | true =>
   simp only[Bool.not_true,cond_false]
   by_cases h1:((s.2.2.length:Int)=16)
   ·simp only[h1,decide_true,Bool.not_true,cond_false]
    obtain⟨b,e,ih⟩:=zk5 n hn true s.2.1 (by have:=f1 hk;omega) s.2.2 (by omega) 16 0 n (by omega) (by omega)
    exact⟨b,e,ih.trans ⟨fun hh=>⟨fun h=>(by rw[hb]at h;cases h),fun _=>⟨hk,by omega,fun i hi=>hh i (Nat.zero_le _) hi⟩⟩,fun hw i _ hi=>(hw.2 hb).2.2 i hi⟩⟩
   ·simp only[h1,decide_false,Bool.not_false,cond_true]
    exact⟨_,rfl,iff_of_false (by simp) fun hw=>h1 (by have:=(hw.2 hb).2.1;omega)⟩
def CnV(M:Me):Prop:=(∀ i:Nat,i<12→M.1.2.getD i 0=(told 1 i M.2.2.1:Int)∧alnB (tl 1 i M.2.2.1)=true)∧(∀ i:Nat,i<12→M.2.1.2.getD i 0=(told 2 i M.2.2.1:Int)∧alnB (tl 2 i M.2.2.1)=true)
structure MV(n:Nat)(M:Me):Prop where
 p1:pgB n M.1=true
 p2:pgB n M.2.1=true
 l1:M.1.2.length=12
 l2:M.2.1.2.length=12
 l5:M.2.2.1.length=5
 h0:0≤M.2.2.2
 h1:M.2.2.2≤11
 sp:∀ w,w<5→SpV n (rw' M.2.2.1 w)
 cn:CnV M
theorem p53_L9_iff(n:Nat)(g4:Int→List ByteArray→List Int→List ByteArray→List Int→List Sp→Int→Option R53)(x7:Int)(x2:List ByteArray)(x3:List Int)(x4:List ByteArray)(x5:List Int)(S:List Sp)(w:Nat)(hw:w<S.length)(hw2:w≤1000)(hs:(rw' S w).2.2.length≤1000) :
  ∀ (d k m:Nat),k+d=(rw' S w).2.2.length→d<m→((zb3 g4 n m (w:Int) (k:Int) x2 x3 x4 x5 S x7=some ((false,()),())∧¬ ∀ i,k≤i→i<(rw' S w).2.2.length→AtOk (sl S w i))∨(zb3 g4 n m (w:Int) (k:Int) x2 x3 x4 x5 S x7=g4 ((w+1:Nat):Int) x2 x3 x4 x5 S x7∧∀ i,k≤i→i<(rw' S w).2.2.length→AtOk (sl S w i)))
 | _,k,0,_,h=>by omega
 | 0,k,m+1,hk,h=>by
  obtain rfl:k=(rw' S w).2.2.length:=by omega
  right
  constructor
  ·show zch n _ _ _ _ _ _ _ _ _ _=_
   simp only[zch,ge_t,lt_t hw,cond_true,zaa,lt_f,cond_false,wS (show w≤1000000 by omega)]
  ·intro i h1 h2;omega
 | d+1,k,m+1,hk,h=>by
  have hl:k<(rw' S w).2.2.length:=by omega
  have ih:=p53_L9_iff n g4 x7 x2 x3 x4 x5 S w hw hw2 hs d (k+1) m (by omega) (by omega)
  have nxt:AtOk (sl S w k)→((zb3 g4 n m (w:Int) ((k+1:Nat):Int) x2 x3 x4 x5 S x7=some ((false,()),())∧¬ ∀ i,k≤i→i<(rw' S w).2.2.length→AtOk (sl S w i))∨(zb3 g4 n m (w:Int) ((k+1:Nat):Int) x2 x3 x4 x5 S x7=g4 ((w+1:Nat):Int) x2 x3 x4 x5 S x7∧∀ i,k≤i→i<(rw' S w).2.2.length→AtOk (sl S w i))):=fun hx=>by
   rcases ih with ⟨e,hh⟩ | ⟨e,hh⟩
   ·exact .inl ⟨e,fun hq=>hh fun i h1 h2=>hq i (by omega) h2⟩
   ·refine .inr ⟨e,fun i h1 h2=>?_⟩
    by_cases hi:i=k
    ·subst hi;exact hx
    ·exact hh i (by omega) h2
  have e0:zb3 g4 n (m+1) (w:Int) (k:Int) x2 x3 x4 x5 S x7=zch n (zb3 g4 n m) g4 (w:Int) (k:Int) x2 x3 x4 x5 S x7:=rfl
  rw[e0,zch]
  simp only[ge_t,lt_t hw,cond_true,zaa,lt_t hl,zbm n (sl S w k).2.1 0 (IntKind.i64.wrap (12 - 1)),Option.bind_some,wS (show k≤1000000 by omega)]
  by_cases h0:(sl S w k).1=0
  ·simp only[h0,decide_true,Bool.not_true,cond_false]
   simp only[show decide ((0:Int)=2)=false from rfl,cond_false]
   exact nxt fun hx=>absurd h0 hx
  ·simp only[h0,decide_false,Bool.not_false,cond_true]
   cases hb:(decide ((0:Int)≤(sl S w k).2.1)&&decide ((sl S w k).2.1≤IntKind.i64.wrap (12 - 1))) with
   | false =>
    have hn:¬ ∀ i,k≤i→i<(rw' S w).2.2.length→AtOk (sl S w i):=fun hh=>by
     have:=hh k (Nat.le_refl _) hl h0
     have e1:decide ((0:Int)≤(sl S w k).2.1)=true:=decide_eq_true this.1
     have e2:decide ((sl S w k).2.1≤IntKind.i64.wrap (12 - 1))=true:=by rw[wr (by omega) (by omega)];exact decide_eq_true (by omega)
     rw[e1,e2]at hb
     cases hb
    cases decide ((sl S w k).1=2) <;> exact .inl ⟨rfl,hn⟩
   | true =>
    have:=atLt12 _ true hb
    cases decide ((sl S w k).1=2) <;> exact nxt fun _=>this
theorem zkq(n:Nat)(hn:2000≤n)(M:Me)(hM:MW M)(hl:M.2.1.2.length=12):∀ (d k m:Nat),k+d=12→d<m→∃ b,zkr n m (k:Int) M.1.1 M.1.2 M.2.1.1 M.2.1.2 M.2.2.1 M.2.2.2=some ((b,()),())∧(b=true↔∀ i:Nat,k≤i→i<12→M.2.1.2.getD i 0=(told 2 i M.2.2.1:Int)∧alnB (tl 2 i M.2.2.1)=true)
 | _,k,0,_,h=>by omega
 | 0,k,m+1,hk,h=>by
  obtain rfl:k=12:=by omega
  show ∃ b,zbo n _ _ _ _ _ _ _ _=_∧_
  simp only[zbo]
  exact⟨_,rfl,iff_of_true rfl fun i h1 h2=>by omega⟩
 | d+1,k,m+1,hk,h=>by
  obtain⟨b,e,ih⟩:=zkq n hn M hM hl d (k+1) m (by omega) (by omega)
  show ∃ b,zbo n _ _ _ _ _ _ _ _=_∧_
  simp only[zbo,show decide ((k:Int)<12)=true from decide_eq_true (by omega),cond_true]
  rw[q119_eq n hn ((M.1.1,M.1.2),(M.2.1.1,M.2.1.2),M.2.2.1,M.2.2.2) hM,q120_eq n hn ((M.1.1,M.1.2),(M.2.1.1,M.2.1.2),M.2.2.1,M.2.2.2) hM]
  simp only[Option.bind_some,ge_t,lt_t (show k<M.2.1.2.length by omega),cond_true,zaa]
  by_cases hc:((told 2 k M.2.2.1:Nat):Int)=M.2.1.2.getD k 0
  ·simp only[hc,decide_true,Bool.not_true,cond_false,wS (show k≤1000000 by omega)]
   cases hb2:alnB (tl 2 k M.2.2.1) with
   | false=>exact⟨_,rfl,iff_of_false (by simp) fun hh=>by have:=(hh k (Nat.le_refl _) (by omega)).2;rw[hb2]at this;cases this⟩
   | true =>
    refine⟨b,e,ih.trans ⟨fun hh i h1 h2=>?_,fun hh i h1 h2=>hh i (by omega) h2⟩⟩
    by_cases hi:i=k
    ·subst hi;exact⟨hc.symm,hb2⟩
    ·exact hh i (by omega) h2
  ·simp only[hc,decide_false,Bool.not_false,cond_true]
   exact⟨_,rfl,iff_of_false (by simp) fun hh=>hc (hh k (Nat.le_refl _) (by omega)).1.symm⟩
theorem zku(n:Nat)(hn:2000≤n)(M:Me)(hM:MW M)(hl1:M.1.2.length=12)(hl:M.2.1.2.length=12):∀ (d k m:Nat),k+d=12→d<m→∃ b,zkv n m (k:Int) M.1.1 M.1.2 M.2.1.1 M.2.1.2 M.2.2.1 M.2.2.2=some ((b,()),())∧(b=true↔(∀ i:Nat,k≤i→i<12→M.1.2.getD i 0=(told 1 i M.2.2.1:Int)∧alnB (tl 1 i M.2.2.1)=true)∧(∀ i:Nat,i<12→M.2.1.2.getD i 0=(told 2 i M.2.2.1:Int)∧alnB (tl 2 i M.2.2.1)=true))
 | _,k,0,_,h=>by omega
 | 0,k,m+1,hk,h=>by
  obtain rfl:k=12:=by omega
  obtain⟨b,e,ih⟩:=zkq n hn M hM hl 12 0 n (by omega) (by omega)
  show ∃ b,zbp n _ _ _ _ _ _ _ _ _=_∧_
  simp only[zbp]
  exact⟨b,e,ih.trans ⟨fun hh=>⟨fun i h1 h2=>by omega,fun i h2=>hh i (Nat.zero_le _) h2⟩,fun hh i _ h2=>hh.2 i h2⟩⟩
 | d+1,k,m+1,hk,h=>by
  obtain⟨b,e,ih⟩:=zku n hn M hM hl1 hl d (k+1) m (by omega) (by omega)
  show ∃ b,zbp n _ _ _ _ _ _ _ _ _=_∧_
  simp only[zbp,show decide ((k:Int)<12)=true from decide_eq_true (by omega),cond_true]
  rw[q119_eq n hn ((M.1.1,M.1.2),(M.2.1.1,M.2.1.2),M.2.2.1,M.2.2.2) hM,q120_eq n hn ((M.1.1,M.1.2),(M.2.1.1,M.2.1.2),M.2.2.1,M.2.2.2) hM]
  simp only[Option.bind_some,ge_t,lt_t (show k<M.1.2.length by omega),cond_true,zaa]
  by_cases hc:((told 1 k M.2.2.1:Nat):Int)=M.1.2.getD k 0
  ·simp only[hc,decide_true,Bool.not_true,cond_false,wS (show k≤1000000 by omega)]
   cases hb2:alnB (tl 1 k M.2.2.1) with
   | false=>exact⟨_,rfl,iff_of_false (by simp) fun hh=>by have:=(hh.1 k (Nat.le_refl _) (by omega)).2;rw[hb2]at this;cases this⟩
   | true =>
    refine⟨b,e,ih.trans ⟨fun hh=>⟨fun i h1 h2=>?_,hh.2⟩,fun hh=>⟨fun i h1 h2=>hh.1 i (by omega) h2,hh.2⟩⟩⟩
    by_cases hi:i=k
    ·subst hi;exact⟨hc.symm,hb2⟩
    ·exact hh.1 i (by omega) h2
  ·simp only[hc,decide_false,Bool.not_false,cond_true]
   exact⟨_,rfl,iff_of_false (by simp) fun hh=>hc (hh.1 k (Nat.le_refl _) (by omega)).1.symm⟩
theorem SpV.small{n:Nat}{s:Sp}(h:SpV n s)(ha:s.2.1.length<n)(ha2:s.2.1.length≤4000000):s.2.1.length≤6∧s.2.2.length≤16:=by
 cases hb:s.1 with
 | false=>have:=h.1 hb;rw[this.1,this.2];simp
 | true=>exact⟨(q127_eqB n s.2.1 ha ha2).2 (h.2 hb).1,by have:=(h.2 hb).2.1;omega⟩
theorem rw_mem{S:List Sp}{s:Sp}(h:s∈S):∃ i,i<S.length∧rw' S i=s:=by
 obtain⟨i,hi,rfl⟩:=List.getElem_of_mem h
 exact⟨i,hi,by rw[rw',List.getD_eq_getElem?_getD,List.getElem?_eq_getElem hi];rfl⟩
theorem p53_L4_iff(n:Nat)(hn:2000≤n)(M:Me)(ht1:M.1.1.length≤12)(ht2:M.2.1.1.length≤12)(hl1:M.1.2.length=12)(hl:M.2.1.2.length=12)(h5:M.2.2.1.length=5)(hA:∀ s∈M.2.2.1,s.2.1.length<n∧s.2.1.length≤4000000) :
  ∀ (d k m:Nat),k+d=5→d<m→(∀ w,w<k→SpV n (rw' M.2.2.1 w))→∃ b,zko n m (k:Int) M.1.1 M.1.2 M.2.1.1 M.2.1.2 M.2.2.1 M.2.2.2=some ((b,()),())∧(b=true↔(∀ w,w<5→SpV n (rw' M.2.2.1 w))∧CnV M)
 | _,k,0,_,h,_=>by omega
 | 0,k,m+1,hk,h,hpre=>by
  obtain rfl:k=5:=by omega
  have hM:MW M:=⟨by omega,by omega,by omega,by omega,by omega,fun s hs=>by
   obtain⟨i,hi,rfl⟩:=rw_mem hs
   have:=(hpre i (by omega)).small (hA _ hs).1 (hA _ hs).2
   omega⟩
  obtain⟨b,e,ih⟩:=zku n hn M hM hl1 hl 12 0 n (by omega) (by omega)
  show ∃ b,zci n _ _ _ _ _ _ _ _ _=_∧_
  simp only[zci]
  exact⟨b,e,ih.trans ⟨fun hh=>⟨hpre,fun i h2=>hh.1 i (Nat.zero_le _) h2,hh.2⟩,fun hh=>⟨fun i _ h2=>hh.2.1 i h2,hh.2.2⟩⟩⟩
 | d+1,k,m+1,hk,h,hpre=>by
  have hw:k<M.2.2.1.length:=by omega
  have hr:=hA _ (zam hw:rw' M.2.2.1 k∈M.2.2.1)
  obtain⟨b2,e2,f2⟩:=q118_iff n hn (rw' M.2.2.1 k) hr.1 hr.2
  show ∃ b,zci n _ _ _ _ _ _ _ _ _=_∧_
  simp only[zci,show decide ((k:Int)<5)=true from decide_eq_true (by omega),cond_true,ge_t,lt_t hw,zaa]
  rw[e2]
  simp only[Option.bind_some]
  have toW:SpV n (rw' M.2.2.1 k)→SpW n (rw' M.2.2.1 k):=fun hv=>⟨hv.1,fun hb=>⟨(hv.2 hb).1,(hv.2 hb).2.1,fun i hi=>((hv.2 hb).2.2 i hi).1⟩⟩
  cases b2 with
  | false=>exact⟨_,rfl,iff_of_false (by simp) fun hh=>by have:=f2.2 (toW (hh.1 k (by omega)));cases this⟩
  | true =>
   have hW:=f2.1 rfl
   simp only[Bool.not_true,cond_false]
   have hlen:(rw' M.2.2.1 k).2.2.length≤16:=by
    cases hb:(rw' M.2.2.1 k).1 with
    | false=>rw[(hW.1 hb).2];simp
    | true=>rw[(hW.2 hb).2.1];exact Nat.le_refl _
   rcases p53_L9_iff n (zko n m) M.2.2.2 M.1.1 M.1.2 M.2.1.1 M.2.1.2 M.2.2.1 k hw (by omega) (by omega) (rw' M.2.2.1 k).2.2.length 0 n (by omega) (by omega) with ⟨e3,e4⟩ | ⟨e3,e4⟩
   ·refine⟨_,e3,iff_of_false (by simp) fun hh=>e4 fun i _ hi=>?_⟩
    have hv:=hh.1 k (by omega)
    cases hb:(rw' M.2.2.1 k).1 with
    | false=>rw[(hW.1 hb).2]at hi;simp at hi
    | true=>exact((hv.2 hb).2.2 i (by have:=(hW.2 hb).2.1;omega)).2
   ·have hv:SpV n (rw' M.2.2.1 k):=⟨hW.1,fun hb=>⟨(hW.2 hb).1,(hW.2 hb).2.1,fun i hi=>⟨(hW.2 hb).2.2 i hi,e4 i (Nat.zero_le _) (by have:=(hW.2 hb).2.1;omega)⟩⟩⟩
    obtain⟨b,e,ih⟩:=p53_L4_iff n hn M ht1 ht2 hl1 hl h5 hA d (k+1) m (by omega) (by omega) (fun w hw'=>by
     by_cases hk':w=k
     ·subst hk';exact hv
     ·exact hpre w (by omega))
    exact⟨b,e3.trans e,ih⟩
structure BgM(n:Nat)(M:Me):Prop where
 r:∀ s∈M.2.2.1,s.2.1.length<n∧s.2.1.length≤4000000
theorem q53_iff(n:Nat)(hn:2000≤n)(M:Me)(hB:BgM n M):∃ b,q53 n (M,())=some ((b,()),())∧(b=true↔MV n M):=by
 show ∃ b,zdn n _ M=_∧_
 rw[zdn]
 obtain⟨e1,f1⟩:=zhz n hn M.1
 obtain⟨e2,f2⟩:=zhz n hn M.2.1
 rw[show ((M.1.1,M.1.2):Pg)=M.1 from rfl,e1]
 simp only[Option.bind_some]
 cases hc1:pgB n M.1 with
 | false=>exact⟨_,rfl,iff_of_false (by simp) fun hv=>by have:=hv.p1;rw[hc1]at this;cases this⟩
 | true =>
  simp only[Bool.not_true,cond_false]
  rw[show ((M.2.1.1,M.2.1.2):Pg)=M.2.1 from rfl,e2]
  simp only[Option.bind_some]
  cases hc2:pgB n M.2.1 with
  | false=>exact⟨_,rfl,iff_of_false (by simp) fun hv=>by have:=hv.p2;rw[hc2]at this;cases this⟩
  | true =>
   simp only[Bool.not_true,cond_false]
   by_cases h1:((M.1.2.length:Int)=12)
   ·by_cases h2:((M.2.1.2.length:Int)=12)
    ·by_cases h3:((M.2.2.1.length:Int)=5)
     ·simp only[h1,h2,h3,decide_true,Bool.not_true,cond_false]
      rw[zbm]
      simp only[Option.bind_some]
      cases hh:(decide ((0:Int)≤M.2.2.2)&&decide (M.2.2.2≤11)) with
      | false =>
       refine⟨_,rfl,iff_of_false (by simp) fun hv=>?_⟩
       rw[decide_eq_true hv.h0,decide_eq_true hv.h1]at hh
       cases hh
      | true =>
       simp only[Bool.not_true,cond_false]
       have g1:=f1 hc1
       have g2:=f2 hc2
       obtain⟨b,e,f⟩:=p53_L4_iff n hn M (by omega) (by omega) (by omega) (by omega) (by omega) hB.r 5 0 n (by omega) (by omega) (fun w hw=>by omega)
       have hh:=zbv.1 hh
       exact⟨b,e,f.trans ⟨fun hq=>⟨hc1,hc2,by omega,by omega,by omega,of_decide_eq_true hh.1,of_decide_eq_true hh.2,hq.1,hq.2⟩,fun hv=>⟨hv.sp,hv.cn⟩⟩⟩
     ·simp only[h1,h2,h3,decide_true,decide_false,Bool.not_true,Bool.not_false,cond_false,cond_true]
      exact⟨_,rfl,iff_of_false (by simp) fun hv=>h3 (by have:=hv.l5;omega)⟩
    ·simp only[h1,h2,decide_true,decide_false,Bool.not_true,Bool.not_false,cond_false,cond_true]
     exact⟨_,rfl,iff_of_false (by simp) fun hv=>h2 (by have:=hv.l2;omega)⟩
   ·simp only[h1,decide_true,decide_false,Bool.not_true,Bool.not_false,cond_false,cond_true]
    exact⟨_,rfl,iff_of_false (by simp) fun hv=>h1 (by have:=hv.l1;omega)⟩
abbrev Mp:=List ((Int×Int)×Option (List (Bool×Bool)))
def gk(x:(Int×Int)×Option (List (Bool×Bool)))(k a:Int):Bool:=decide (k=x.1.1)&&decide (a=x.1.2)
theorem zde{x:(Int×Int)×Option (List (Bool×Bool))}{k a:Int}:gk x k a=true↔x.1=(k,a):=by
 obtain⟨⟨p,q⟩,y⟩:=x
 simp only[gk,Bool.and_eq_true,decide_eq_true_eq,Prod.mk.injEq]
 exact⟨fun h=>⟨h.1.symm,h.2.symm⟩,fun h=>⟨h.1.symm,h.2.symm⟩⟩
theorem zer(x:(Int×Int)×Option (List (Bool×Bool)))(m:Mp)(k a:Int):gfi (x::m) k a=cond (gk x k a) 0 (gfi m k a+1):=by
 unfold gfi gk
 rw[List.findIdx_cons]
theorem zep(x:(Int×Int)×Option (List (Bool×Bool)))(m:Mp)(k a:Int):gvl (x::m) k a=cond (gk x k a) (x.2.getD []) (gvl m k a):=by
 unfold gvl
 rw[zer]
 cases gk x k a with
 | true=>obtain⟨p,y⟩:=x;cases y <;> rfl
 | false=>simp
theorem zeq(x:(Int×Int)×Option (List (Bool×Bool)))(m:Mp)(k a:Int):gok (x::m) k a=cond (gk x k a) x.2.isSome (gok m k a):=by
 unfold gok
 rw[zer]
 cases gk x k a with
 | true=>obtain⟨p,y⟩:=x;cases y <;> rfl
 | false=>simp
def putM(m:Mp)(k a:Int)(xs:List (Bool×Bool)):Mp:=gbk (gou m k a) (gfi m k a:Int) xs
theorem gou_cons(x:(Int×Int)×Option (List (Bool×Bool)))(m:Mp)(k a:Int):gou (x::m) k a=cond (gk x k a) (((k,a),none)::m) (x::gou m k a):=by
 unfold gou
 rw[zer]
 cases gk x k a with
 | true=>simp
 | false =>
  simp only[cond_false,List.length_cons,Nat.add_lt_add_iff_right]
  cases decide (gfi m k a<m.length) <;> simp
theorem gol_cons(x:(Int×Int)×Option (List (Bool×Bool)))(m:Mp)(k a:Int):gol (x::m) k a=cond (gk x k a) (((k,a),none)::m) (x::gol m k a):=by
 unfold gol
 rw[zer]
 cases gk x k a with
 | true=>simp
 | false =>
  simp only[cond_false,List.length_cons,Nat.add_lt_add_iff_right]
  cases decide (gfi m k a<m.length) <;> simp
theorem putM_nil(k a:Int)(xs:List (Bool×Bool)):putM [] k a xs=[((k,a),some xs)]:=rfl
theorem putM_cons(x:(Int×Int)×Option (List (Bool×Bool)))(m:Mp)(k a:Int)(xs:List (Bool×Bool)):putM (x::m) k a xs=cond (gk x k a) (((k,a),some xs)::m) (x::putM m k a xs):=by
 unfold putM gbk
 rw[gou_cons,zer]
 cases gk x k a with
 | true=>simp
 | false=>simp
theorem gvl_put(k a k' a':Int)(xs:List (Bool×Bool)):∀ m:Mp,gvl (putM m k a xs) k' a'=if k'=k∧a'=a then xs else gvl m k' a'
 | []=>by
  rw[putM_nil,zep]
  by_cases h:k'=k∧a'=a
  ·rw[if_pos h,h.1,h.2];simp[gk]
  ·rw[if_neg h]
   have:gk ((k,a),some xs) k' a'=false:=by rw[Bool.eq_false_iff];intro hh;have:=zde.1 hh;simp only[Prod.mk.injEq]at this;exact h ⟨this.1.symm,this.2.symm⟩
   rw[this];rfl
 | x::m=>by
  have ih:=gvl_put k a k' a' xs m
  rw[putM_cons,zep]
  cases hx:gk x k a with
  | true =>
   have hx':=zde.1 hx
   simp only[cond_true,zep]
   by_cases h:k'=k∧a'=a
   ·rw[if_pos h,h.1,h.2];simp[gk]
   ·rw[if_neg h]
    have h1:gk ((k,a),some xs) k' a'=false:=by rw[Bool.eq_false_iff];intro hh;have:=zde.1 hh;simp only[Prod.mk.injEq]at this;exact h ⟨this.1.symm,this.2.symm⟩
    have h2:gk x k' a'=false:=by rw[Bool.eq_false_iff];intro hh;have:=zde.1 hh;rw[hx']at this;simp only[Prod.mk.injEq]at this;exact h ⟨this.1.symm,this.2.symm⟩
    rw[h1,h2];rfl
  | false =>
   simp only[cond_false,zep,ih]
   cases hx2:gk x k' a' with
   | true =>
    have hx2':=zde.1 hx2
    have:¬ (k'=k∧a'=a):=by rintro ⟨rfl,rfl⟩;rw[hx]at hx2;cases hx2
    simp only[cond_true,if_neg this]
   | false=>rfl
theorem gok_put(k a k' a':Int)(xs:List (Bool×Bool)):∀ m:Mp,gok (putM m k a xs) k' a'=if k'=k∧a'=a then true else gok m k' a'
 | []=>by
  rw[putM_nil,zeq]
  by_cases h:k'=k∧a'=a
  ·rw[if_pos h];cases gk ((k,a),some xs) k' a' <;> rfl
  ·rw[if_neg h];cases gk ((k,a),some xs) k' a' <;> rfl
 | x::m=>by
  have ih:=gok_put k a k' a' xs m
  rw[putM_cons,zeq]
  cases hx:gk x k a with
  | true =>
   have hx':=zde.1 hx
   simp only[cond_true,zeq]
   by_cases h:k'=k∧a'=a
   ·rw[if_pos h,h.1,h.2];simp[gk]
   ·rw[if_neg h]
    have h1:gk ((k,a),some xs) k' a'=false:=by rw[Bool.eq_false_iff];intro hh;have:=zde.1 hh;simp only[Prod.mk.injEq]at this;exact h ⟨this.1.symm,this.2.symm⟩
    have h2:gk x k' a'=false:=by rw[Bool.eq_false_iff];intro hh;have:=zde.1 hh;rw[hx']at this;simp only[Prod.mk.injEq]at this;exact h ⟨this.1.symm,this.2.symm⟩
    rw[h1,h2];rfl
  | false =>
   simp only[cond_false,zeq,ih]
   cases hx2:gk x k' a' with
   | true =>
    have:¬ (k'=k∧a'=a):=by rintro ⟨rfl,rfl⟩;rw[hx]at hx2;cases hx2
    simp only[cond_true,if_neg this]
   | false=>rfl
theorem gol_out(k a k' a':Int)(h:¬ (k'=k∧a'=a)):∀ m:Mp,gvl (gol m k a) k' a'=gvl m k' a'∧gok (gol m k a) k' a'=gok m k' a'
 | []=>⟨rfl,rfl⟩
 | x::m=>by
  have ih:=gol_out k a k' a' h m
  rw[gol_cons]
  cases hx:gk x k a with
  | true =>
   have hx':=zde.1 hx
   have h1:gk ((k,a),none) k' a'=false:=by rw[Bool.eq_false_iff];intro hh;have:=zde.1 hh;simp only[Prod.mk.injEq]at this;exact h ⟨this.1.symm,this.2.symm⟩
   have h2:gk x k' a'=false:=by rw[Bool.eq_false_iff];intro hh;have:=zde.1 hh;rw[hx']at this;simp only[Prod.mk.injEq]at this;exact h ⟨this.1.symm,this.2.symm⟩
   simp only[cond_true,zep,zeq,h1,h2,cond_false,and_self]
  | false =>
   simp only[cond_false,zep,zeq,ih.1,ih.2,and_self]
theorem gou_rng(k a:Int):∀ m:Mp,gfi m k a<(gou m k a).length
 | []=>by simp[gfi,gou]
 | x::m=>by
  have ih:=gou_rng k a m
  rw[gou_cons,zer]
  cases gk x k a with
  | true=>simp
  | false=>simpa using ih
def Tells(m:Mp)(T:Int→Int→List (Bool×Bool)):Prop:=∀ k a,k≠0→gok m k a=true∧gvl m k a=T k a
theorem Tells.put{m:Mp}{T:Int→Int→List (Bool×Bool)}(h:Tells m T)(k a:Int)(x:Bool×Bool):Tells (putM m k a (gvl m k a++[x])) (fun k' a'=>T k' a'++cond (decide (k=k')&&decide (a=a')) [x] []):=by
 intro k' a' h0
 rw[gvl_put,gok_put]
 by_cases hk:k'=k∧a'=a
 ·obtain⟨rfl,rfl⟩:=hk
  simp[(h k' a' h0).2]
 ·rw[if_neg hk,if_neg hk]
  have:(decide (k=k')&&decide (a=a'))=false:=by
   rw[Bool.eq_false_iff];intro hh
   simp only[Bool.and_eq_true,decide_eq_true_eq]at hh
   exact hk ⟨hh.1.symm,hh.2.symm⟩
  show gok m k' a'=true∧gvl m k' a'=T k' a'++cond (decide (k=k')&&decide (a=a')) [x] []
  rw[this]
  simp[h k' a' h0]
theorem Tells.congr{m:Mp}{T T':Int→Int→List (Bool×Bool)}(h:Tells m T)(e:∀ k a,k≠0→T k a=T' k a):Tells m T':=fun k a h0=>by rw[← e k a h0];exact h k a h0
def hasB(l:List Int)(b:Int):Bool:=(decide (0≤b)&&decide (b≤(l.length:Int) - 1))&&decide (0<l.getD b.toNat 0)
theorem q64_eq(n:Nat)(P:Pg)(hl:P.2.length≤4000000)(b:Int):q64 n (P,b,())=some ((hasB P.2 b,()),()):=by
 show zix n P b=_
 unfold zix hasB
 rw[wr (by omega) (by omega),zid]
 simp only[Option.bind_some]
 by_cases h1:0≤b
 ·by_cases h2:b≤(P.2.length:Int) - 1
  ·have h3:decide (b<(P.2.length:Int))=true:=decide_eq_true (by omega)
   rw[decide_eq_true h1,decide_eq_true h2,h3]
   simp only[Bool.and_self,cond_true,Bool.true_and]
  ·rw[decide_eq_true h1,decide_eq_false h2]
   rfl
 ·rw[decide_eq_false h1]
  rfl
theorem q65_eq(n:Nat)(s:Sp)(b:Int)(hq:q60 n (s.2.1,b,())=some ((at2 s.2.1 b,()),())):q65 n (s,b,())=some ((shd s.2.1 b,()),()):=by
 have hr:=at2_rng s.2.1 b
 show ziw n s b=_
 unfold ziw shd
 rw[hq]
 simp only[Option.bind_some]
 by_cases h1:0≤at2 s.2.1 b
 ·rw[decide_eq_true h1,decide_eq_true hr.2]
  simp only[cond_true,Bool.true_and]
 ·rw[decide_eq_false h1]
  rfl
def CkV(R W:List Int)(ar:List Ar)(k:Nat)(x:Ar):Prop:=(x.1=0→x=z4)∧(x.1≠0→0≤at2 ar k∧(1≤x.1∧x.1≤2)∧(x.1=1→hasB R x.2.1=true)∧(x.1=2→hasB W x.2.1=true)∧(shd ar k=true→x.2.2.1=true))
abbrev GF17:=(List Sp)→Int→Int→(List ByteArray)→(List Int)→(List ByteArray)→(List Int)→(List Sp)→Int→Mp→Option R17
theorem zky(n:Nat)(g5:GF17)(S0 S1:List Sp)(x1:Int)(w:Nat)(hw:w≤1000)(t1 t2:List ByteArray)(R W:List Int)(hR:R.length≤4000000)(hW:W.length≤4000000)(h:Int)(lv:Bool)(ar l l':List Ar)(hl:l.length≤1000)
    (hq:∀ b,q60 n (ar,b,())=some ((at2 ar b,()),())):∀ (rest done:List Ar) (mf:Nat) (m:Mp) (T:Int→Int→List (Bool×Bool)),done++rest=l→rest.length<mf→Tells m T→(∀ k a,(T k a).length+rest.length≤100000) →
      ((zaz g5 n mf S0 x1 (w:Int) l (l.length:Int) (done.length:Int) t1 R t2 W S1 h m lv ar l'=some ((false,()),())∧¬ ∀ i,done.length≤i→i<l.length→CkV R W ar i (l.getD i z4)) ∨
       (∃ m',zaz g5 n mf S0 x1 (w:Int) l (l.length:Int) (done.length:Int) t1 R t2 W S1 h m lv ar l'=g5 S0 x1 ((w+1:Nat):Int) t1 R t2 W S1 h m'∧(∀ i,done.length≤i→i<l.length→CkV R W ar i (l.getD i z4))∧Tells m' (fun k a=>T k a++tlR k a ar done.length rest)))
  | _,_,0,_,_,_,hf,_,_=>by omega
  | [],done,mf+1,m,T,hd,_,hT,_=>by
    have hd:done=l:=by simpa using hd
    subst hd
    right
    refine⟨m,?_,fun i h1 h2=>by omega,hT.congr fun k a _=>by simp[tlR]⟩
    show zay n _ _ _ _ _ _ _ _ _ _ _ _ _ _ _ _ _ _=_
    simp only[zay,lt_f,cond_false,wS (show w≤1000000 by omega)]
  | x::rest,done,mf+1,m,T,hd,hf,hT,hb=>by
    have hlt:done.length<l.length:=by rw[← hd];simp
    have hg:l.getD done.length z4=x:=by rw[← hd];exact zbj _ _ _ _
    have ih:=fun m T hT hb=>zky n g5 S0 S1 x1 w hw t1 t2 R W hR hW h lv ar l l' hl hq rest (done++[x]) mf m T (by simpa using hd) (by simp at hf;omega) hT hb
    simp only[List.length_append,List.length_cons,List.length_nil,Nat.zero_add]at ih hb
    have e1:=zid n x.1 1 2
    have e2:=q64_eq n (t1,R) hR x.2.1
    have e3:=q64_eq n (t2,W) hW x.2.1
    have e4:=q65_eq n (lv,ar,l') done.length (hq _)
    have hx1:x.1≠0→gok m x.1 x.2.1=true:=fun h0=>(hT x.1 x.2.1 h0).1
    have hno:¬ CkV R W ar done.length x→¬ ∀ i,done.length≤i→i<l.length→CkV R W ar i (l.getD i z4):=fun hx hh=>hx (by have:=hh done.length (Nat.le_refl _) hlt;rw[hg]at this;exact this)
    have nxt:∀ m1 T1,Tells m1 T1→(∀ k a,(T1 k a).length+rest.length≤100000)→CkV R W ar done.length x→(∀ k a,k≠0→T1 k a++tlR k a ar (done.length+1) rest=T k a++tlR k a ar done.length (x::rest)) →
        ((zaz g5 n mf S0 x1 (w:Int) l (l.length:Int) ((done.length+1:Nat):Int) t1 R t2 W S1 h m1 lv ar l'=some ((false,()),())∧¬ ∀ i,done.length≤i→i<l.length→CkV R W ar i (l.getD i z4)) ∨
         (∃ m',zaz g5 n mf S0 x1 (w:Int) l (l.length:Int) ((done.length+1:Nat):Int) t1 R t2 W S1 h m1 lv ar l'=g5 S0 x1 ((w+1:Nat):Int) t1 R t2 W S1 h m'∧(∀ i,done.length≤i→i<l.length→CkV R W ar i (l.getD i z4))∧Tells m' (fun k a=>T k a++tlR k a ar done.length (x::rest)))):=fun m1 T1 hT1 hb1 hck heq=>by
      rcases ih m1 T1 hT1 hb1 with ⟨e,hh⟩ | ⟨m',e,hh,ht⟩
      · exact .inl ⟨e,fun hq=>hh fun i h1 h2=>hq i (by omega) h2⟩
      · refine .inr ⟨m',e,fun i h1 h2=>?_,ht.congr heq⟩
        by_cases hi:i=done.length
        · subst hi;rw[hg];exact hck
        · exact hh i (by omega) h2
    have ew:=wS (show done.length≤1000000 by omega)
    by_cases h0:x.1=0
    · have hz:=zero4 x h0
      have e0:zaz g5 n (mf+1) S0 x1 (w:Int) l (l.length:Int) (done.length:Int) t1 R t2 W S1 h m lv ar l'=cond (!(decide (x.1=0)&&(decide (x.2.1=0)&&(x.2.2.1 == false&&(x.2.2.2 == false&&true))))) (some ((false,()),())) (zaz g5 n mf S0 x1 (w:Int) l (l.length:Int) ((done.length+1:Nat):Int) t1 R t2 W S1 h m lv ar l'):=by
        show zay n _ _ _ _ _ _ _ _ _ _ _ _ _ _ _ _ _ _=_
        simp only[zay,lt_t hlt,ge_t,cond_true,zaa,hg,ew]
        rw[show decide (x.1=0)=true from decide_eq_true h0]
        rfl
      rw[e0]
      cases hc:(decide (x.1=0)&&(decide (x.2.1=0)&&(x.2.2.1 == false&&(x.2.2.2 == false&&true)))) with
      | false=>exact .inl ⟨rfl,hno fun hck=>by have:=hz.2 (hck.1 h0);rw[hc]at this;cases this⟩
      | true =>
        refine nxt m T hT (fun k a=>by have:=hb k a;omega) ⟨fun _=>hz.1 hc,fun hh=>absurd h0 hh⟩ fun k a hk=>?_
        have:isT k a x=false:=by rw[Bool.eq_false_iff];exact fun hh=>hk ((zav.1 hh).1.symm.trans h0)
        simp only[tlR,this,cond_false]
    · have hd0:decide (x.1=0)=false:=decide_eq_false h0
      by_cases hat:at2 ar done.length<0
      · left
        refine⟨?_,hno fun hck=>by have:=(hck.2 h0).1;omega⟩
        show zay n _ _ _ _ _ _ _ _ _ _ _ _ _ _ _ _ _ _=_
        simp only[zay,lt_t hlt,ge_t,cond_true,zaa,hg,ew,hd0,cond_false,hq done.length,Option.bind_some,decide_eq_true hat,Bool.false_and,Bool.not_false]
      · have hat':decide (at2 ar done.length<0)=false:=decide_eq_false hat
        have hlen:decide (((gvl m x.1 x.2.1).length+[(x.2.2.1,shd ar done.length)].length)*(2:Nat)≤(140737488355328:Nat))=true:=by
          have:=hb x.1 x.2.1
          rw[(hT x.1 x.2.1 h0).2]
          exact decide_eq_true (by simp;omega)
        have heqT:∀ k a,k≠0→(T k a++cond (decide (x.1=k)&&decide (x.2.1=a)) [(x.2.2.1,shd ar done.length)] [])++tlR k a ar (done.length+1) rest=T k a++tlR k a ar done.length (x::rest):=fun k a _=>by
          show _=T k a++cond (isT k a x) _ _
          unfold isT
          cases (decide (x.1=k)&&decide (x.2.1=a)) <;> simp
        have fin:=fun hck=>nxt (putM m x.1 x.2.1 (gvl m x.1 x.2.1++[(x.2.2.1,shd ar done.length)])) _ (hT.put x.1 x.2.1 (x.2.2.1,shd ar done.length)) (fun k a=>by
          have:=hb k a
          cases (decide (x.1=k)&&decide (x.2.1=a)) <;> simp <;> omega) hck heqT
        -- behind the checks of the place
        have tail:(1≤x.1∧x.1≤2)→(x.1=1→hasB R x.2.1=true)→(x.1=2→hasB W x.2.1=true) →
            ((cond (shd ar done.length) (cond (!x.2.2.1) (some ((false,()),())) (zaz g5 n mf S0 x1 (w:Int) l (l.length:Int) ((done.length+1:Nat):Int) t1 R t2 W S1 h (putM m x.1 x.2.1 (gvl m x.1 x.2.1++[(x.2.2.1,shd ar done.length)])) lv ar l')) (zaz g5 n mf S0 x1 (w:Int) l (l.length:Int) ((done.length+1:Nat):Int) t1 R t2 W S1 h (putM m x.1 x.2.1 (gvl m x.1 x.2.1++[(x.2.2.1,shd ar done.length)])) lv ar l')=some ((false,()),())∧¬ ∀ i,done.length≤i→i<l.length→CkV R W ar i (l.getD i z4)) ∨
             (∃ m',cond (shd ar done.length) (cond (!x.2.2.1) (some ((false,()),())) (zaz g5 n mf S0 x1 (w:Int) l (l.length:Int) ((done.length+1:Nat):Int) t1 R t2 W S1 h (putM m x.1 x.2.1 (gvl m x.1 x.2.1++[(x.2.2.1,shd ar done.length)])) lv ar l')) (zaz g5 n mf S0 x1 (w:Int) l (l.length:Int) ((done.length+1:Nat):Int) t1 R t2 W S1 h (putM m x.1 x.2.1 (gvl m x.1 x.2.1++[(x.2.2.1,shd ar done.length)])) lv ar l')=g5 S0 x1 ((w+1:Nat):Int) t1 R t2 W S1 h m'∧(∀ i,done.length≤i→i<l.length→CkV R W ar i (l.getD i z4))∧Tells m' (fun k a=>T k a++tlR k a ar done.length (x::rest)))):=fun h12 hh1 hh2=>by
          cases hs:shd ar done.length with
          | false =>
            rw[hs]at fin
            exact fin ⟨fun hh=>absurd hh h0,fun _=>⟨by omega,h12,hh1,hh2,fun hh=>by rw[hs]at hh;cases hh⟩⟩
          | true =>
            rw[hs]at fin
            simp only[cond_true]
            cases ho:x.2.2.1 with
            | false=>exact .inl ⟨rfl,hno fun hck=>by have:=(hck.2 h0).2.2.2.2 hs;rw[ho]at this;cases this⟩
            | true =>
              rw[ho]at fin
              exact fin ⟨fun hh=>absurd hh h0,fun _=>⟨by omega,h12,hh1,hh2,fun _=>ho⟩⟩
        have hgo:=hx1 h0
        have hrg:decide (((gfi m x.1 x.2.1:Nat):Int)<(((gou m x.1 x.2.1).length:Nat):Int))=true:=decide_eq_true (Int.ofNat_lt.2 (gou_rng x.1 x.2.1 m))
        by_cases k1:x.1=1
        · cases hh1:hasB R x.2.1 with
          | false =>
            left
            refine⟨?_,hno fun hck=>by have:=(hck.2 h0).2.2.1 k1;rw[hh1]at this;cases this⟩
            show zay n _ _ _ _ _ _ _ _ _ _ _ _ _ _ _ _ _ _=_
            simp only[zay,lt_t hlt,ge_t,cond_true,zaa,hg,ew,hd0,cond_false,hq done.length,Option.bind_some,hat',decide_eq_true k1,e2,hh1,Bool.not_false]
          | true =>
            have e0:zaz g5 n (mf+1) S0 x1 (w:Int) l (l.length:Int) (done.length:Int) t1 R t2 W S1 h m lv ar l'=cond (shd ar done.length) (cond (!x.2.2.1) (some ((false,()),())) (zaz g5 n mf S0 x1 (w:Int) l (l.length:Int) ((done.length+1:Nat):Int) t1 R t2 W S1 h (putM m x.1 x.2.1 (gvl m x.1 x.2.1++[(x.2.2.1,shd ar done.length)])) lv ar l')) (zaz g5 n mf S0 x1 (w:Int) l (l.length:Int) ((done.length+1:Nat):Int) t1 R t2 W S1 h (putM m x.1 x.2.1 (gvl m x.1 x.2.1++[(x.2.2.1,shd ar done.length)])) lv ar l'):=by
              show zay n _ _ _ _ _ _ _ _ _ _ _ _ _ _ _ _ _ _=_
              simp only[zay,lt_t hlt,ge_t,cond_true,zaa,hg,ew,hd0,cond_false,hq done.length,Option.bind_some,hat',decide_eq_true k1,e2,hh1,Bool.not_true,show decide (x.1=2)=false from decide_eq_false (by omega),e1,show decide (1≤x.1)=true from decide_eq_true (by omega),show decide (x.1≤2)=true from decide_eq_true (by omega),Bool.and_self,e4,hgo,hlen,hrg,Bool.true_and]
              rfl
            rw[e0]
            exact tail ⟨by omega,by omega⟩ (fun _=>hh1) (fun hh=>by omega)
        · have hd1:decide (x.1=1)=false:=decide_eq_false k1
          by_cases k2:x.1=2
          · cases hh2:hasB W x.2.1 with
            | false =>
              left
              refine⟨?_,hno fun hck=>by have:=(hck.2 h0).2.2.2.1 k2;rw[hh2]at this;cases this⟩
              show zay n _ _ _ _ _ _ _ _ _ _ _ _ _ _ _ _ _ _=_
              simp only[zay,lt_t hlt,ge_t,cond_true,zaa,hg,ew,hd0,cond_false,hq done.length,Option.bind_some,hat',hd1,decide_eq_true k2,e3,hh2,Bool.not_false]
            | true =>
              have e0:zaz g5 n (mf+1) S0 x1 (w:Int) l (l.length:Int) (done.length:Int) t1 R t2 W S1 h m lv ar l'=cond (shd ar done.length) (cond (!x.2.2.1) (some ((false,()),())) (zaz g5 n mf S0 x1 (w:Int) l (l.length:Int) ((done.length+1:Nat):Int) t1 R t2 W S1 h (putM m x.1 x.2.1 (gvl m x.1 x.2.1++[(x.2.2.1,shd ar done.length)])) lv ar l')) (zaz g5 n mf S0 x1 (w:Int) l (l.length:Int) ((done.length+1:Nat):Int) t1 R t2 W S1 h (putM m x.1 x.2.1 (gvl m x.1 x.2.1++[(x.2.2.1,shd ar done.length)])) lv ar l'):=by
                show zay n _ _ _ _ _ _ _ _ _ _ _ _ _ _ _ _ _ _=_
                simp only[zay,lt_t hlt,ge_t,cond_true,zaa,hg,ew,hd0,cond_false,hq done.length,Option.bind_some,hat',hd1,decide_eq_true k2,e3,hh2,Bool.not_true,e1,show decide (1≤x.1)=true from decide_eq_true (by omega),show decide (x.1≤2)=true from decide_eq_true (by omega),Bool.and_self,e4,hgo,hlen,hrg,Bool.true_and]
                rfl
              rw[e0]
              exact tail ⟨by omega,by omega⟩ (fun hh=>by omega) (fun _=>hh2)
          · left
            have hrng:(decide (1≤x.1)&&decide (x.1≤2))=false:=by
              rw[Bool.eq_false_iff];intro hh
              have:=zbv.1 hh
              have h3:=of_decide_eq_true this.1
              have h4:=of_decide_eq_true this.2
              omega
            refine⟨?_,hno fun hck=>by have:=(hck.2 h0).2.1;omega⟩
            show zay n _ _ _ _ _ _ _ _ _ _ _ _ _ _ _ _ _ _=_
            simp only[zay,lt_t hlt,ge_t,cond_true,zaa,hg,ew,hd0,cond_false,hq done.length,Option.bind_some,hat',hd1,decide_eq_false k2,e1,hrng,Bool.not_false]
abbrev Lf:=List (Int×List ByteArray×List Int)
abbrev GF29:=Mp→Lf→Lf→Option R17
abbrev GF32:=Int→(List Int)→Int→Int→Mp→Lf→Lf→Option R17
abbrev GF38:=Int→(List Int)→Int→Int→Int→Int→Mp→(List (Bool×Bool))→Lf→Lf→Option R17
abbrev b2:Bool×Bool:=(false,false)
def Pj(l:List (Bool×Bool))(i j:Nat):Prop:=i≠j→(l.getD i b2).1=true→(l.getD i b2).2=true∧(l.getD j b2).2=true
theorem zkw(n:Nat)(g29:GF29)(g32:GF32)(g38:GF38)(kd x3 at' x5:Int)(refs:List Int)(m:Mp)(cur left:Lf)(l:List (Bool×Bool))(hl:l.length≤100000)(i:Nat)(hi:i<l.length) :
    ∀ (d k mf:Nat),k+d=l.length→d<mf →
      ((zb4 g29 g32 g38 n mf kd (i:Int) refs x3 at' x5 (i:Int) (l.length:Int) (k:Int) m l (l.getD i b2).1 (l.getD i b2).2 cur left=some ((false,()),())∧¬ ∀ j,k≤j→j<l.length→Pj l i j) ∨
       (zb4 g29 g32 g38 n mf kd (i:Int) refs x3 at' x5 (i:Int) (l.length:Int) (k:Int) m l (l.getD i b2).1 (l.getD i b2).2 cur left=g38 kd refs x3 at' x5 ((i+1:Nat):Int) m l cur left∧∀ j,k≤j→j<l.length→Pj l i j))
  | _,k,0,_,h=>by omega
  | 0,k,mf+1,hk,h=>by
    obtain rfl:k=l.length:=by omega
    right
    refine⟨?_,fun j h1 h2=>by omega⟩
    show zdo n _ _ _ _ _ _ _ _ _ _ _ _ _ _ _ _ _=_
    simp only[zdo,lt_f,cond_false,wS (show i≤1000000 by omega)]
  | d+1,k,mf+1,hk,h=>by
    have hlt:k<l.length:=by omega
    have ih:=zkw n g29 g32 g38 kd x3 at' x5 refs m cur left l hl i hi d (k+1) mf (by omega) (by omega)
    have nxt:Pj l i k→((zb4 g29 g32 g38 n mf kd (i:Int) refs x3 at' x5 (i:Int) (l.length:Int) ((k+1:Nat):Int) m l (l.getD i b2).1 (l.getD i b2).2 cur left=some ((false,()),())∧¬ ∀ j,k≤j→j<l.length→Pj l i j) ∨
       (zb4 g29 g32 g38 n mf kd (i:Int) refs x3 at' x5 (i:Int) (l.length:Int) ((k+1:Nat):Int) m l (l.getD i b2).1 (l.getD i b2).2 cur left=g38 kd refs x3 at' x5 ((i+1:Nat):Int) m l cur left∧∀ j,k≤j→j<l.length→Pj l i j)):=fun hx=>by
      rcases ih with ⟨e,hh⟩ | ⟨e,hh⟩
      · exact .inl ⟨e,fun hq=>hh fun j h1 h2=>hq j (by omega) h2⟩
      · refine .inr ⟨e,fun j h1 h2=>?_⟩
        by_cases hj:j=k
        · subst hj;exact hx
        · exact hh j (by omega) h2
    have e0:zb4 g29 g32 g38 n (mf+1) kd (i:Int) refs x3 at' x5 (i:Int) (l.length:Int) (k:Int) m l (l.getD i b2).1 (l.getD i b2).2 cur left=zdo n (zb4 g29 g32 g38 n mf) g38 kd (i:Int) refs x3 at' x5 (i:Int) (l.length:Int) (k:Int) m l (l.getD i b2).1 (l.getD i b2).2 cur left:=rfl
    rw[e0,zdo]
    simp only[lt_t hlt,ge_t,cond_true,zaa,wS (show k≤1000000 by omega)]
    by_cases hik:i=k
    · have:decide ((i:Int)=(k:Int))=true:=decide_eq_true (by omega)
      simp only[this,Bool.not_true,cond_false]
      exact nxt fun h=>absurd hik h
    · have:decide ((i:Int)=(k:Int))=false:=decide_eq_false (by omega)
      simp only[this,Bool.not_false,cond_true]
      cases ho:(l.getD i b2).1 with
      | false=>rw[ho]at nxt;simp only[cond_false];exact nxt fun _ h=>by rw[ho]at h;cases h
      | true =>
        simp only[cond_true]
        cases hs:(l.getD i b2).2 with
        | false =>
          left
          exact⟨rfl,fun hh=>by have:=(hh k (Nat.le_refl _) hlt hik ho).1;rw[hs]at this;cases this⟩
        | true =>
          simp only[cond_true]
          rw[ho,hs]at nxt
          cases hy:(l.getD k b2).2 with
          | false =>
            left
            simp only[Bool.not_false,cond_true]
            exact⟨trivial,fun hh=>by have:=(hh k (Nat.le_refl _) hlt hik ho).2;rw[hy]at this;cases this⟩
          | true =>
            simp only[Bool.not_true,cond_false]
            exact nxt fun _ _=>⟨hs,hy⟩
theorem zkx(n:Nat)(g29:GF29)(g32:GF32)(kd x2 x4:Int)(at':Nat)(hat:at'≤1000000)(refs:List Int)(m:Mp)(cur left:Lf)(l:List (Bool×Bool))(hl:l.length≤100000)(hn:l.length<n)(hx4:x4=(l.length:Int)) :
    ∀ (d k mf:Nat),k+d=l.length→d<mf →
      ((zb5 g29 g32 n mf kd refs x2 (at':Int) x4 (k:Int) m l cur left=some ((false,()),())∧¬ ∀ i,k≤i→i<l.length→∀ j,j<l.length→Pj l i j) ∨
       (zb5 g29 g32 n mf kd refs x2 (at':Int) x4 (k:Int) m l cur left=g32 kd refs x2 ((at'+1:Nat):Int) m cur left∧∀ i,k≤i→i<l.length→∀ j,j<l.length→Pj l i j))
  | _,k,0,_,h=>by omega
  | 0,k,mf+1,hk,h=>by
    obtain rfl:k=l.length:=by omega
    right
    refine⟨?_,fun j h1 h2=>by omega⟩
    show zdp n _ _ _ _ _ _ _ _ _ _ _ _=_
    simp only[zdp,hx4,lt_f,cond_false,wS hat]
  | d+1,k,mf+1,hk,h=>by
    have hlt:k<l.length:=by omega
    have ih:=zkx n g29 g32 kd x2 x4 at' hat refs m cur left l hl hn hx4 d (k+1) mf (by omega) (by omega)
    have e0:zb5 g29 g32 n (mf+1) kd refs x2 (at':Int) x4 (k:Int) m l cur left=zdp n (zb4 g29 g32 (zb5 g29 g32 n mf) n n) g32 kd refs x2 (at':Int) x4 (k:Int) m l cur left:=rfl
    rw[e0,zdp]
    have hd:decide ((k:Int)<x4)=true:=by rw[hx4];exact lt_t hlt
    simp only[hd,lt_t hlt,ge_t,cond_true,zaa]
    rcases zkw n g29 g32 (zb5 g29 g32 n mf) kd x2 (at':Int) x4 refs m cur left l hl k hlt l.length 0 n (by omega) hn with ⟨e,hh⟩ | ⟨e,hh⟩
    · exact .inl ⟨e,fun hq=>hh fun j _ h2=>hq k (Nat.le_refl _) hlt j h2⟩
    · have e:=show zb4 g29 g32 (zb5 g29 g32 n mf) n n kd (k:Int) refs x2 (at':Int) x4 (k:Int) (l.length:Int) 0 m l (l.getD k b2).1 (l.getD k b2).2 cur left=_ from e
      rw[e]
      rcases ih with ⟨e2,hq⟩ | ⟨e2,hq⟩
      · exact .inl ⟨e2,fun hr=>hq fun i h1 h2=>hr i (by omega) h2⟩
      · refine .inr ⟨e2,fun i h1 h2 j h3=>?_⟩
        by_cases hi:i=k
        · subst hi;exact hh j (Nat.zero_le _) h3
        · exact hq i (by omega) h2 j h3
def CCv(T:Int→Int→List (Bool×Bool))(kd:Int)(refs:List Int)(a:Nat):Prop:=((T kd a).length:Int)=refs.getD a 0∧prB (T kd a)
theorem ze0(n:Nat)(g29:GF29)(T:Int→Int→List (Bool×Bool))(kd:Int)(refs:List Int)(cur left:Lf)(hr:refs.length≤100000)(hT:∀ a:Nat,(T kd a).length≤100000∧(T kd a).length<n) :
    ∀ (d k mf:Nat) (m:Mp),k+d=refs.length→d<mf→(∀ a:Nat,k≤a→a<refs.length→gok m kd a=true∧gvl m kd a=T kd a) →
      ((zcv g29 n mf kd refs (refs.length:Int) (k:Int) m cur left=some ((false,()),())∧¬ ∀ a,k≤a→a<refs.length→CCv T kd refs a) ∨
       (∃ m',zcv g29 n mf kd refs (refs.length:Int) (k:Int) m cur left=g29 m' cur left∧(∀ a,k≤a→a<refs.length→CCv T kd refs a)∧∀ k' a',k'≠kd→gvl m' k' a'=gvl m k' a'∧gok m' k' a'=gok m k' a'))
  | _,k,0,m,_,h,_=>by omega
  | 0,k,mf+1,m,hk,h,_=>by
    obtain rfl:k=refs.length:=by omega
    right
    refine⟨m,?_,(fun a h1 h2=>by omega),fun _ _ _=>⟨rfl,rfl⟩⟩
    show zdq n _ _ _ _ _ _ _ _ _=_
    simp only[zdq,lt_f,cond_false]
  | d+1,k,mf+1,m,hk,h,hm=>by
    have hlt:k<refs.length:=by omega
    obtain⟨hgo,hgv⟩:=hm k (Nat.le_refl _) hlt
    have hTk:=hT k
    have ih:=ze0 n g29 T kd refs cur left hr hT d (k+1) mf (gol m kd k) (by omega) (by omega) (fun a h1 h2=>by
      obtain⟨e1,e2⟩:=gol_out kd k kd a (fun hh=>by have:=hh.2;omega) m
      rw[e1,e2]
      exact hm a (by omega) h2)
    have e0:zcv g29 n (mf+1) kd refs (refs.length:Int) (k:Int) m cur left=zdq n (zb5 g29 (zcv g29 n mf) n n) g29 kd refs (refs.length:Int) (k:Int) m cur left:=rfl
    rw[e0,zdq]
    simp only[lt_t hlt,ge_t,cond_true,zaa,hgo,hgv]
    by_cases hc:((T kd k).length:Int)=refs.getD k 0
    · simp only[decide_eq_true hc,Bool.not_true,cond_false]
      rcases zkx n g29 (zcv g29 n mf) kd (refs.length:Int) ((T kd k).length:Int) k (by omega) refs (gol m kd k) cur left (T kd k) hTk.1 hTk.2 rfl (T kd k).length 0 n (by omega) hTk.2 with ⟨e,hh⟩ | ⟨e,hh⟩
      · refine .inl ⟨e,fun hq=>hh fun i _ hi j hj hne ho=>?_⟩
        exact(hq k (Nat.le_refl _) hlt).2 i j hi hj hne ho
      · have e:=show zb5 g29 (zcv g29 n mf) n n kd refs (refs.length:Int) (k:Int) ((T kd k).length:Int) 0 (gol m kd k) (T kd k) cur left=_ from e
        rw[e]
        have hcc:CCv T kd refs k:=⟨hc,fun i j hi hj hne ho=>hh i (Nat.zero_le _) hi j hj hne ho⟩
        rcases ih with ⟨e2,hq⟩ | ⟨m',e2,hq,hp⟩
        · exact .inl ⟨e2,fun hr=>hq fun a h1 h2=>hr a (by omega) h2⟩
        · refine .inr ⟨m',e2,fun a h1 h2=>?_,fun k' a' hne=>?_⟩
          · by_cases ha:a=k
            · subst ha;exact hcc
            · exact hq a (by omega) h2
          · obtain⟨e3,e4⟩:=hp k' a' hne
            obtain⟨e5,e6⟩:=gol_out kd k k' a' (fun hh=>hne hh.1) m
            exact⟨e3.trans e5,e4.trans e6⟩
    · simp only[decide_eq_false hc,Bool.not_false,cond_true]
      exact .inl ⟨trivial,fun hq=>hc (hq k (Nat.le_refl _) hlt).1⟩
theorem erase_ne{left:Lf}(hnd:(left.map (·.1)).Nodup){i:Nat}(hi:i<left.length){x:Int×List ByteArray×List Int}(hx:x∈left.eraseIdx i):x.1≠(left.getD i (0,[],[])).1:=fun e=>by
 obtain⟨j,hji,hj⟩:=List.mem_eraseIdx_iff_getElem?.1 hx
 obtain⟨hjl,hjx⟩:=(List.getElem?_eq_some_iff.1 hj)
 have ei:left.getD i (0,[],[])=left[i]:=by rw[List.getD_eq_getElem?_getD,List.getElem?_eq_getElem hi];rfl
 have hp:=List.pairwise_iff_getElem.1 hnd
 rw[ei,← hjx]at e
 rcases Nat.lt_or_gt_of_ne hji with hlt | hlt
 ·have:=hp j i (by simpa using hjl) (by simpa using hi) hlt
  simp only[List.getElem_map]at this
  exact this e
 ·have:=hp i j (by simpa using hi) (by simpa using hjl) hlt
  simp only[List.getElem_map]at this
  exact this e.symm
theorem ze1(n:Nat)(T:Int→Int→List (Bool×Bool))(hT:∀ kd (a:Nat),(T kd a).length≤100000∧(T kd a).length<n) :
  ∀ (c mf:Nat) (m:Mp) (cur left:Lf),left.length=c→c<mf→(left.map (·.1)).Nodup→(∀ x∈left,x.2.2.length≤100000∧x.2.2.length<n)→(∀ x∈left,∀ a:Nat,gok m x.1 a=true∧gvl m x.1 a=T x.1 a) →
   ∃ b,ze2 n mf m cur left=some ((b,()),())∧(b=true↔∀ x∈left,∀ a,a<x.2.2.length→CCv T x.1 x.2.2 a)
 | _,0,_,_,_,_,h,_,_,_=>by omega
 | 0,mf+1,m,cur,left,hc,_,_,_,_=>by
  have:left=[]:=List.length_eq_zero_iff.1 hc
  subst this
  exact⟨true,rfl,iff_of_true rfl fun x hx=>by cases hx⟩
 | c+1,mf+1,m,cur,left,hc,hf,hnd,hlen,hm=>by
  by_cases hall:∀ x∈left,∀ a,a<x.2.2.length→CCv T x.1 x.2.2 a
  ·refine⟨true,?_,iff_of_true rfl hall⟩
   show zdr n _ _ _ _=_
   rw[zdr,decide_eq_false (show ¬ left.length=0 by omega)]
   simp only[cond_false]
   refine allL_of (by omega) fun i hi=>?_
   have hx:left.getD i (0,[],[])∈left:=zam hi
   rcases ze0 n (ze2 n mf) T (left.getD i (0,[],[])).1 (left.getD i (0,[],[])).2.2 [left.getD i (0,[],[])] (left.eraseIdx i) (hlen _ hx).1 (hT _) (left.getD i (0,[],[])).2.2.length 0 n m (by omega) (hlen _ hx).2 (fun a _ _=>hm _ hx a) with ⟨e,hh⟩ | ⟨m',e,hh,hp⟩
   ·exact(hh fun a _ h2=>hall _ hx a h2).elim
   ·refine e.trans ?_
    obtain⟨b,e2,hb⟩:=ze1 n T hT c mf m' [left.getD i (0,[],[])] (left.eraseIdx i) (by rw[List.length_eraseIdx_of_lt hi];omega) (by omega) (hnd.sublist ((List.eraseIdx_sublist _ _).map _)) (fun x hx=>hlen x ((List.eraseIdx_sublist _ _).subset hx)) (fun x hx a=>by
     have hne:=erase_ne hnd hi hx
     obtain⟨e3,e4⟩:=hp x.1 a hne
     rw[e3,e4]
     exact hm x ((List.eraseIdx_sublist _ _).subset hx) a)
    rw[e2,hb.2 fun x hx=>hall x ((List.eraseIdx_sublist _ _).subset hx)]
  ·refine⟨false,?_,iff_of_false (by simp) hall⟩
   show zdr n _ _ _ _=_
   rw[zdr,decide_eq_false (show ¬ left.length=0 by omega)]
   simp only[cond_false]
   refine allL_of (by omega) fun i hi=>?_
   have hx:left.getD i (0,[],[])∈left:=zam hi
   rcases ze0 n (ze2 n mf) T (left.getD i (0,[],[])).1 (left.getD i (0,[],[])).2.2 [left.getD i (0,[],[])] (left.eraseIdx i) (hlen _ hx).1 (hT _) (left.getD i (0,[],[])).2.2.length 0 n m (by omega) (hlen _ hx).2 (fun a _ _=>hm _ hx a) with ⟨e,hh⟩ | ⟨m',e,hh,hp⟩
   ·exact e
   ·refine e.trans ?_
    obtain⟨b,e2,hb⟩:=ze1 n T hT c mf m' [left.getD i (0,[],[])] (left.eraseIdx i) (by rw[List.length_eraseIdx_of_lt hi];omega) (by omega) (hnd.sublist ((List.eraseIdx_sublist _ _).map _)) (fun x hx=>hlen x ((List.eraseIdx_sublist _ _).subset hx)) (fun x hx a=>by
     have hne:=erase_ne hnd hi hx
     obtain⟨e3,e4⟩:=hp x.1 a hne
     rw[e3,e4]
     exact hm x ((List.eraseIdx_sublist _ _).subset hx) a)
    rw[e2]
    cases hbb:b with
    | false=>rfl
    | true =>
     refine(hall fun x hxl=>?_).elim
     have:=hb.1 hbb
     obtain⟨j,hjl,rfl⟩:=List.getElem_of_mem hxl
     by_cases hji:j=i
     ·subst hji
      have ei:left.getD j (0,[],[])=left[j]:=by rw[List.getD_eq_getElem?_getD,List.getElem?_eq_getElem hjl];rfl
      rw[ei]at hh
      exact fun a ha=>hh a (Nat.zero_le _) ha
     ·exact this _ (List.mem_eraseIdx_iff_getElem?.2 ⟨j,hji,List.getElem?_eq_getElem hjl⟩)
def RwC(n:Nat)(R W:List Int)(s:Sp):Prop:=(s.1=false→s.2.1=[]∧s.2.2=[])∧(s.1=true→aok n s.2.1=true∧s.2.2.length=16∧∀ i,i<16→CkV R W s.2.1 i (s.2.2.getD i z4))
theorem told_rows{S:List Sp}(h:∀ s∈S,s.2.2.length≤16)(kd a:Int):told kd a S≤16*S.length:=by
 induction S with
 | nil=>exact Nat.zero_le _
 | cons s S ih =>
  rw[zbe]
  have h1:=ih (fun t ht=>h t (List.mem_cons_of_mem _ ht))
  have h2:=cnt_le kd a s.2.2
  have h3:=h s List.mem_cons_self
  simp only[List.length_cons]
  omega
theorem p17_L5_iff(n:Nat)(hn:2000≤n)(S S1:List Sp)(t1 t2:List ByteArray)(R W:List Int)(hR:R.length≤1000)(hW:W.length≤1000)(h:Int)(hS:S.length≤5)(hA:∀ s∈S,s.2.1.length<n∧s.2.1.length≤4000000) :
  ∀ (rest done:List Sp) (mf:Nat) (m:Mp),done++rest=S→rest.length<mf→Tells m (fun k a=>tl k a done)→(∀ s∈done,s.2.2.length≤16) →
   ∃ b,zc0 n mf S (S.length:Int) (done.length:Int) t1 R t2 W S1 h m=some ((b,()),())∧(b=true↔(∀ s∈rest,RwC n R W s)∧(∀ a,a<R.length→CCv (fun k a=>tl k a S) 1 R a)∧(∀ a,a<W.length→CCv (fun k a=>tl k a S) 2 W a))
 | _,_,0,_,_,h,_,_=>by omega
 | [],done,mf+1,m,hd,_,hT,hl=>by
  have hd:done=S:=by simpa using hd
  subst hd
  have hb:∀ kd (a:Nat),(tl kd a done).length≤100000∧(tl kd a done).length<n:=fun kd a=>by
   rw[tl_len]
   have:=told_rows hl kd a
   omega
  obtain⟨b,e,f⟩:=ze1 n (fun k a=>tl k a done) hb 2 n m [] ([((1:Int),t1,R)]++[((2:Int),t2,W)]) rfl (by omega) (by simp) (fun x hx=>by
   have hx:x=(1,t1,R)∨x=(2,t2,W):=by simpa using hx
   rcases hx with rfl | rfl
   ·exact⟨show R.length≤100000 by omega,show R.length<n by omega⟩
   ·exact⟨show W.length≤100000 by omega,show W.length<n by omega⟩) (fun x hx a=>by
   have hx:x=(1,t1,R)∨x=(2,t2,W):=by simpa using hx
   rcases hx with rfl | rfl
   ·exact hT 1 a (by decide)
   ·exact hT 2 a (by decide))
  refine⟨b,?_,f.trans ⟨fun hh=>⟨(fun s hs=>by cases hs),fun a ha=>hh (1,t1,R) (by simp) a ha,fun a ha=>hh (2,t2,W) (by simp) a ha⟩,fun hh x hx a ha=>?_⟩⟩
  ·show zhx n _ _ _ _ _ _ _ _ _ _ _ _ _=_
   rw[zhx,lt_f]
   simp only[cond_false]
   exact e
  ·have hx:x=(1,t1,R)∨x=(2,t2,W):=by simpa using hx
   rcases hx with rfl | rfl
   ·exact hh.2.1 a ha
   ·exact hh.2.2 a ha
 | s::rest,done,mf+1,m,hd,hf,hT,hl=>by
  have hlt:done.length<S.length:=by rw[← hd];simp
  have hg:S.getD done.length (false,[],[])=s:=by rw[← hd];exact zbj _ _ _ _
  have hsm:s∈S:=by rw[← hd];simp
  have ih:=fun m hT hl=>p17_L5_iff n hn S S1 t1 t2 R W hR hW h hS hA rest (done++[s]) mf m (by simpa using hd) (by simp at hf;omega) hT hl
  simp only[List.length_append,List.length_cons,List.length_nil,Nat.zero_add]at ih
  have e0:zc0 n (mf+1) S (S.length:Int) (done.length:Int) t1 R t2 W S1 h m=zhx n (zc0 n mf) (zaz (zc0 n mf) n n) (ze2 n n) S (S.length:Int) (done.length:Int) t1 R t2 W S1 h m:=rfl
  rw[e0,zhx]
  simp only[lt_t hlt,ge_t,cond_true,zaa,hg,wS (show done.length≤1000000 by omega)]
  have nxt:∀ m',RwC n R W s→Tells m' (fun k a=>tl k a (done++[s]))→s.2.2.length≤16→∃ b,zc0 n mf S (S.length:Int) ((done.length+1:Nat):Int) t1 R t2 W S1 h m'=some ((b,()),())∧(b=true↔(∀ t∈s::rest,RwC n R W t)∧(∀ a,a<R.length→CCv (fun k a=>tl k a S) 1 R a)∧(∀ a,a<W.length→CCv (fun k a=>tl k a S) 2 W a)):=fun m' hc hT' hl'=>by
   obtain⟨b,e,f⟩:=ih m' hT' (fun t ht=>by
    rcases List.mem_append.1 ht with ht | ht
    ·exact hl t ht
    ·rw[List.mem_singleton.1 ht];exact hl')
   exact⟨b,e,f.trans ⟨fun hh=>⟨fun t ht=>by
    rcases List.mem_cons.1 ht with rfl | ht
    ·exact hc
    ·exact hh.1 t ht,hh.2⟩,fun hh=>⟨fun t ht=>hh.1 t (List.mem_cons_of_mem _ ht),hh.2⟩⟩⟩
  have no:¬ RwC n R W s→∃ b,(some ((false,()),()):Option R17)=some ((b,()),())∧(b=true↔(∀ t∈s::rest,RwC n R W t)∧(∀ a,a<R.length→CCv (fun k a=>tl k a S) 1 R a)∧(∀ a,a<W.length→CCv (fun k a=>tl k a S) 2 W a)):=fun hc =>
   ⟨false,rfl,iff_of_false (by simp) fun hh=>hc (hh.1 s List.mem_cons_self)⟩
  cases hb:s.1 with
  | false =>
   simp only[Bool.not_false,cond_true]
   by_cases h1:s.2.1=[]
   ·have hd1:decide ((0:Int)<((List.length s.2.1:Nat):Int))=false:=by rw[h1];rfl
    rw[hd1]
    simp only[cond_false]
    by_cases h2:s.2.2=[]
    ·have hd2:decide ((0:Int)<((List.length s.2.2:Nat):Int))=false:=by rw[h2];rfl
     rw[hd2]
     simp only[cond_false]
     refine nxt m ⟨fun _=>⟨h1,h2⟩,fun h=>by rw[hb]at h;cases h⟩ (hT.congr fun k a _=>?_) (by rw[h2];simp)
     rw[tl_app,tl_cons,h2]
     simp[tlR,tl]
    ·have hd2:decide ((0:Int)<((List.length s.2.2:Nat):Int))=true:=decide_eq_true (by have:=List.length_pos_iff.2 h2;omega)
     rw[hd2]
     simp only[cond_true]
     exact no fun hc=>h2 (hc.1 hb).2
   ·have hd1:decide ((0:Int)<((List.length s.2.1:Nat):Int))=true:=decide_eq_true (by have:=List.length_pos_iff.2 h1;omega)
    rw[hd1]
    simp only[cond_true]
    exact no fun hc=>h1 (hc.1 hb).1
  | true =>
   simp only[Bool.not_true,cond_false]
   obtain⟨ha1,ha2⟩:=hA s hsm
   obtain⟨e1,f1⟩:=q127_eqB n s.2.1 ha1 ha2
   rw[q63_eq,e1]
   simp only[Option.bind_some]
   cases hk:aok n s.2.1 with
   | false=>exact no fun hc=>by have:=(hc.2 hb).1;rw[hk]at this;cases this
   | true =>
    simp only[Bool.not_true,cond_false]
    by_cases h16:((List.length s.2.2:Nat):Int)=16
    ·have h16':s.2.2.length=16:=by omega
     rw[decide_eq_true h16]
     simp only[Bool.not_true,cond_false]
     have hq:∀ b,q60 n (s.2.1,b,())=some ((at2 s.2.1 b,()),()):=fun b=>q60_eq n hn s.2.1 b (by have:=f1 hk;omega) (by rw[e1,hk])
     rcases zky n (zc0 n mf) S S1 (S.length:Int) done.length (by omega) t1 t2 R W (by omega) (by omega) h true s.2.1 s.2.2 s.2.2 (by omega) hq s.2.2 [] n m (fun k a=>tl k a done) rfl (by omega) hT (fun k a=>by
      rw[tl_len]
      have:=told_rows hl k a
      omega) with ⟨e,hh⟩ | ⟨m',e,hh,hT'⟩
     ·have e:=show zaz (zc0 n mf) n n S (S.length:Int) (done.length:Int) s.2.2 (s.2.2.length:Int) 0 t1 R t2 W S1 h m true s.2.1 s.2.2=_ from e
      rw[e]
      exact no fun hc=>hh fun i _ hi=>(hc.2 hb).2.2 i (by omega)
     ·have e:=show zaz (zc0 n mf) n n S (S.length:Int) (done.length:Int) s.2.2 (s.2.2.length:Int) 0 t1 R t2 W S1 h m true s.2.1 s.2.2=_ from e
      rw[e]
      refine nxt m' ⟨(fun h=>by rw[hb]at h;cases h),fun _=>⟨hk,h16',fun i hi=>hh i (Nat.zero_le _) (by omega)⟩⟩ (hT'.congr fun k a _=>?_) (by omega)
      rw[tl_app,tl_cons]
      simp[tl]
    ·rw[decide_eq_false h16]
     simp only[Bool.not_false,cond_true]
     exact no fun hc=>h16 (by have:=(hc.2 hb).2.1;omega)
theorem zjl{l:List Int}(hl:l.length=12){b:Int}:hasB l b=true↔(0≤b∧b<12)∧0<l.getD b.toNat 0:=by
 unfold hasB
 rw[hl]
 simp only[Bool.and_eq_true,decide_eq_true_eq]
 constructor
 ·rintro ⟨⟨h1,h2⟩,h3⟩;exact⟨⟨h1,by omega⟩,h3⟩
 ·rintro ⟨⟨h1,h2⟩,h3⟩;exact⟨⟨h1,by omega⟩,h3⟩
theorem kd12{a:Int}(h:1≤a∧a≤2)(k:¬ a=1):a=2:=by omega
theorem rows_iff(n:Nat)(M:Me)(l1:M.1.2.length=12)(l2:M.2.1.2.length=12)(l5:M.2.2.1.length=5) :
  ((∀ s∈M.2.2.1,RwC n M.1.2 M.2.1.2 s)∧(∀ a,a<M.1.2.length→CCv (fun k a=>tl k a M.2.2.1) 1 M.1.2 a)∧(∀ a,a<M.2.1.2.length→CCv (fun k a=>tl k a M.2.2.1) 2 M.2.1.2 a))↔((∀ w,w<5→SpV n (rw' M.2.2.1 w))∧CnV M):=by
 have cc:∀ (kd:Int) (R:List Int),R.length=12→((∀ a,a<R.length→CCv (fun k a=>tl k a M.2.2.1) kd R a)↔∀ i:Nat,i<12→R.getD i 0=(told kd i M.2.2.1:Int)∧alnB (tl kd i M.2.2.1)=true):=fun kd R hR=>by
  rw[hR]
  constructor
  ·intro h i hi
   obtain⟨h1,h2⟩:=h i hi
   exact⟨by rw[← h1];simp only[tl_len],(alnB_iff _).2 h2⟩
  ·intro h i hi
   obtain⟨h1,h2⟩:=h i hi
   exact⟨by rw[h1];simp only[tl_len],(alnB_iff _).1 h2⟩
 rw[cc 1 _ l1,cc 2 _ l2]
 have sh:∀ (ar:List Ar) (i:Nat),0≤at2 ar i→shd ar i=(ar.getD (at2 ar i).toNat z4).2.2.2:=fun ar i h=>by unfold shd;rw[decide_eq_true h];rfl
 constructor
 ·rintro ⟨hr,hc1,hc2⟩
  refine⟨fun w hw=>?_,hc1,hc2⟩
  have h:=hr _ (zam (show w<M.2.2.1.length by omega):rw' M.2.2.1 w∈M.2.2.1)
  refine⟨h.1,fun hb=>⟨(h.2 hb).1,(h.2 hb).2.1,fun i hi=>?_⟩⟩
  obtain⟨c1,c2⟩:=(h.2 hb).2.2 i hi
  refine⟨⟨c1,fun h0=>?_⟩,fun h0=>?_⟩
  ·obtain⟨d1,d2,_,_,d5⟩:=c2 h0
   exact⟨d1,d2,fun hs=>d5 ((sh _ _ d1).trans hs)⟩
  ·obtain⟨d1,d2,d3,d4,d5⟩:=c2 h0
   by_cases k1:((rw' M.2.2.1 w).2.2.getD i z4).1=1
   ·exact((zjl l1).1 (d3 k1)).1
   ·exact((zjl l2).1 (d4 (kd12 d2 k1))).1
 ·rintro ⟨hr,hc1,hc2⟩
  refine⟨fun s hs=>?_,hc1,hc2⟩
  obtain⟨w,hw,rfl⟩:=rw_mem hs
  have h:=hr w (by omega)
  refine⟨h.1,fun hb=>⟨(h.2 hb).1,(h.2 hb).2.1,fun i hi=>?_⟩⟩
  obtain⟨⟨c1,c2⟩,c3⟩:=(h.2 hb).2.2 i hi
  have hx:(rw' M.2.2.1 w).2.2.getD i z4∈(rw' M.2.2.1 w).2.2:=zam (by have:=(h.2 hb).2.1;omega)
  refine⟨c1,fun h0=>?_⟩
  obtain⟨d1,d2,d3⟩:=c2 h0
  obtain⟨a0,a1⟩:=c3 h0
  have pos:∀ (kd:Int) (R:List Int),(∀ i:Nat,i<12→R.getD i 0=(told kd i M.2.2.1:Int)∧alnB (tl kd i M.2.2.1)=true)→((rw' M.2.2.1 w).2.2.getD i z4).1=kd→0<R.getD ((rw' M.2.2.1 w).2.2.getD i z4).2.1.toNat 0:=fun kd R hc hk=>by
   obtain⟨j,hj⟩:=Int.eq_ofNat_of_zero_le a0
   rw[hj,zaa,(hc j (by omega)).1]
   have:=zb_ hs hx (zav.2 ⟨hk,hj⟩)
   omega
  refine⟨d1,d2,fun k1=>(zjl l1).2 ⟨⟨a0,a1⟩,pos 1 _ hc1 k1⟩,fun k2=>(zjl l2).2 ⟨⟨a0,a1⟩,pos 2 _ hc2 k2⟩,fun hs=>d3 ((sh _ _ d1).symm.trans hs)⟩
theorem q17_iff(n:Nat)(hn:2000≤n)(M:Me)(hB:BgM n M):∃ b,q17 n (M,())=some ((b,()),())∧(b=true↔MV n M):=by
 show ∃ b,zjd n _ M=_∧_
 rw[zjd]
 obtain⟨e1,f1⟩:=zhz n hn M.1
 obtain⟨e2,f2⟩:=zhz n hn M.2.1
 rw[show ((M.1.1,M.1.2):Pg)=M.1 from rfl,q62_eq,e1]
 simp only[Option.bind_some]
 cases hc1:pgB n M.1 with
 | false=>exact⟨_,rfl,iff_of_false (by simp) fun hv=>by have:=hv.p1;rw[hc1]at this;cases this⟩
 | true =>
  simp only[Bool.not_true,cond_false]
  by_cases h1:((M.1.2.length:Int)=12)
  ·rw[decide_eq_true h1]
   simp only[Bool.not_true,cond_false]
   rw[show ((M.2.1.1,M.2.1.2):Pg)=M.2.1 from rfl,q62_eq,e2]
   simp only[Option.bind_some]
   cases hc2:pgB n M.2.1 with
   | false=>exact⟨_,rfl,iff_of_false (by simp) fun hv=>by have:=hv.p2;rw[hc2]at this;cases this⟩
   | true =>
    simp only[Bool.not_true,cond_false]
    by_cases h2:((M.2.1.2.length:Int)=12)
    ·by_cases h3:((M.2.2.1.length:Int)=5)
     ·rw[decide_eq_true h2,decide_eq_true h3]
      simp only[Bool.not_true,cond_false]
      rw[zid]
      simp only[Option.bind_some]
      cases hh:(decide ((0:Int)≤M.2.2.2)&&decide (M.2.2.2≤11)) with
      | false =>
       refine⟨_,rfl,iff_of_false (by simp) fun hv=>?_⟩
       rw[decide_eq_true hv.h0,decide_eq_true hv.h1]at hh
       cases hh
      | true =>
       simp only[Bool.not_true,cond_false]
       obtain⟨b,e,f⟩:=p17_L5_iff n hn M.2.2.1 M.2.2.1 M.1.1 M.2.1.1 M.1.2 M.2.1.2 (by omega) (by omega) M.2.2.2 (by omega) hB.r M.2.2.1 [] n [] rfl (by omega) (fun k a _=>⟨rfl,rfl⟩) (fun s hs=>by cases hs)
       have hh:=zbv.1 hh
       refine⟨b,e,f.trans ((rows_iff n M (by omega) (by omega) (by omega)).trans ⟨fun hq=>⟨hc1,hc2,by omega,by omega,by omega,of_decide_eq_true hh.1,of_decide_eq_true hh.2,hq.1,hq.2⟩,fun hv=>⟨hv.sp,hv.cn⟩⟩)⟩
     ·rw[decide_eq_true h2,decide_eq_false h3]
      simp only[Bool.not_true,Bool.not_false,cond_false,cond_true]
      exact⟨_,rfl,iff_of_false (by simp) fun hv=>h3 (by have:=hv.l5;omega)⟩
    ·rw[decide_eq_false h2]
     simp only[Bool.not_false,cond_true]
     exact⟨_,rfl,iff_of_false (by simp) fun hv=>h2 (by have:=hv.l2;omega)⟩
  ·rw[decide_eq_false h1]
   simp only[Bool.not_false,cond_true]
   exact⟨_,rfl,iff_of_false (by simp) fun hv=>h1 (by have:=hv.l1;omega)⟩
noncomputable def okM(n:Nat)(M:Me):Bool:=match q53 n (M,()) with
 | some ((b,_),_)=>b
 | none=>false
theorem okM_eq(n:Nat)(hn:2000≤n)(M:Me)(hB:BgM n M):q53 n (M,())=some ((okM n M,()),())∧q17 n (M,())=some ((okM n M,()),())∧(okM n M=true↔MV n M):=by
 obtain⟨b,e,f⟩:=q53_iff n hn M hB
 obtain⟨c,g,k⟩:=q17_iff n hn M hB
 have hb:okM n M=b:=by unfold okM;rw[e]
 have hbc:b=c:=by
  cases b <;> cases c <;> simp_all
 rw[hb]
 exact⟨e,by rw[hbc];exact g,f⟩
theorem MV.mw{n:Nat}{M:Me}(h:MV n M)(hn:2000≤n)(hB:BgM n M):MW M:=by
 have g1:=(zhz n hn M.1).2 h.p1
 have g2:=(zhz n hn M.2.1).2 h.p2
 have:=h.l1
 have:=h.l2
 have:=h.l5
 refine⟨by omega,by omega,by omega,by omega,by omega,fun s hs=>?_⟩
 obtain⟨i,hi,rfl⟩:=rw_mem hs
 have:=(h.sp i (by omega)).small (hB.r _ hs).1 (hB.r _ hs).2
 omega
theorem MV.mi{n:Nat}{M:Me}(h:MV n M)(hn:2000≤n)(hB:BgM n M):MI M:=by
 obtain⟨b,e,f⟩:=q53_tot n hn M (h.mw hn hB)
 obtain⟨e2,_,f2⟩:=okM_eq n hn M hB
 rw[f2.2 h]at e2
 rw[e2]at e
 injection e with e
 injection e with e _
 injection e with e _
 exact f e.symm
theorem MW.bg{M:Me}(h:MW M){n:Nat}(hn:2000≤n):BgM n M:=⟨fun s hs=>by have:=h.r s hs;omega⟩
theorem p143_L2_eq(n:Nat)(S:List Sp)(hs:S.length≤1000):∀ (rest done:List Sp) (m:Nat),done++rest=S→rest.length<m→(∀ s∈done,(!s.1)=false)→p143_L2 n m S (S.length:Int) (done.length:Int)=some ((frf S,()),())
 | [],done,0,hd,h,_=>by simp at h
 | [],done,m+1,hd,h,hz=>by
  show zd0 n _ _ _ _=_
  have hd':done=S:=by simpa using hd
  subst hd'
  have hf:frf done = -1:=by
   unfold frf
   rw[if_neg]
   intro hh
   have h1:=List.findIdx_getElem (w:=hh)
   have h2:=hz _ (List.getElem_mem hh)
   rw[h1]at h2
   cases h2
  simp only[zd0,lt_f,cond_false,hf]
 | s::rest,done,0,hd,h,_=>by simp at h
 | s::rest,done,m+1,hd,h,hz=>by
  have hl:done.length<S.length:=by rw[← hd];simp
  have hg:S.getD done.length (false,[],[])=s:=by rw[← hd];simp
  show zd0 n _ _ _ _=_
  have e1:q144 n (s,())=some ((!s.1,()),()):=rfl
  simp only[zd0,lt_t hl,ge_t,cond_true,zaa,hg]
  rw[show ((s.1,s.2.1,s.2.2):Sp)=s from rfl,e1]
  simp only[Option.bind_some]
  cases hb:s.1 with
  | false =>
   have hf:S.findIdx (fun s=>!s.1)=done.length:=by
    rw[← hd,List.findIdx_append,List.findIdx_eq_length_of_false (by simpa using hz)]
    simp[List.findIdx_cons,hb]
   simp only[Bool.not_false,cond_true,frf,hf,if_pos hl]
  | true =>
   simp only[Bool.not_true,cond_false]
   have ih:=p143_L2_eq n S hs rest (done++[s]) m (by simpa using hd) (by simp at h;omega) (by
    intro y hy
    rcases List.mem_append.1 hy with hy | hy
    ·exact hz y hy
    ·rw[List.mem_singleton.1 hy,hb];rfl)
   simp only[List.length_append,List.length_cons,List.length_nil,Nat.zero_add]at ih
   rw[wS (by omega),ih]
theorem q96_eq(n:Nat)(M:Me)(hs:M.2.2.1.length≤1000)(hn:M.2.2.1.length<n):q96 n (M,())=some ((frf M.2.2.1,()),()):=by
 show ziq n M=_
 have e:q143 n (M.2.2.1,(),())=some ((frf M.2.2.1,()),()):=p143_L2_eq n M.2.2.1 hs M.2.2.1 [] n rfl hn (fun _ h=>by cases h)
 rw[ziq,e]
 rfl
theorem q112_eq(n:Nat)(P:Pg)(h1:P.1.length≤1000)(h2:P.2.length≤1000):q112 n (P,())=some ((P,()),()):=by
 show zge n P=_
 rw[zge,decide_eq_true (by omega),decide_eq_true (by omega)]
 rfl
theorem q87_eq(n:Nat)(l:List Ar)(h:l.length≤1000):q87 n (l,())=some ((l,()),()):=by
 show cond (decide ((0+l.length)*(24:Nat)≤(140737488355328:Nat))) _ _=_
 rw[decide_eq_true (by omega)]
 rfl
theorem q113_eq(n:Nat)(l:List Ar)(h:l.length≤1000):q113 n (l,())=some ((l,()),()):=by
 show cond (decide ((0+l.length)*(24:Nat)≤(140737488355328:Nat))) _ _=_
 rw[decide_eq_true (by omega)]
 rfl
theorem p50_L3_eq(n:Nat)(x3 x4:Int)(x5:List ByteArray)(x6:List Int)(x7:List ByteArray)(x8:List Int)(S:List Sp)(hs:S.length≤1000)(hr:∀ s∈S,s.2.1.length≤1000∧s.2.2.length≤1000):∀ (rest done:List Sp) (m:Nat),done++rest=S→rest.length<m →
  p50_L3 n m S (S.length:Int) (done.length:Int) x3 x4 x5 x6 x7 x8 done=some ((((x5,x6),((x7,x8),(S,x4))),()),())
 | [],done,0,hd,h=>by simp at h
 | [],done,m+1,hd,h=>by
  show zhv n _ _ _ _ _ _ _ _ _ _ _=_
  have hd':done=S:=by simpa using hd
  subst hd'
  simp only[zhv,lt_f,cond_false]
 | s::rest,done,0,hd,h=>by simp at h
 | s::rest,done,m+1,hd,h=>by
  have hl:done.length<S.length:=by rw[← hd];simp
  have hg:S.getD done.length (false,[],[])=s:=by rw[← hd];simp
  have hsm:s∈S:=by rw[← hd];simp
  show zhv n _ _ _ _ _ _ _ _ _ _ _=_
  simp only[zhv,lt_t hl,ge_t,cond_true,zaa,hg]
  rw[q87_eq n s.2.1 (hr s hsm).1]
  simp only[Option.bind_some]
  rw[q113_eq n s.2.2 (hr s hsm).2]
  simp only[Option.bind_some]
  have ih:=p50_L3_eq n x3 x4 x5 x6 x7 x8 S hs hr rest (done++[s]) m (by simpa using hd) (by simp at h;omega)
  simp only[List.length_append,List.length_cons,List.length_nil,Nat.zero_add]at ih
  rw[decide_eq_true (by simp;omega)]
  simp only[cond_true]
  rw[wS (by omega)]
  exact ih
theorem q50_eq(n:Nat)(hn:2000≤n)(M:Me)(hM:MW M):q50 n (M,())=some ((M,()),()):=by
 have h1:=hM.a1
 have h2:=hM.a2
 have h3:=hM.b1
 have h4:=hM.b2
 have h5:=hM.s
 show zi3 n (p50_L3 n n) M=_
 rw[zi3,show ((M.1.1,M.1.2):Pg)=M.1 from rfl,show ((M.2.1.1,M.2.1.2):Pg)=M.2.1 from rfl,q112_eq n M.1 (by omega) (by omega),q112_eq n M.2.1 (by omega) (by omega)]
 simp only[Option.bind_some]
 exact p50_L3_eq n 0 M.2.2.2 M.1.1 M.1.2 M.2.1.1 M.2.1.2 M.2.2.1 (by omega) (fun s hs=>by have:=hM.r s hs;omega) M.2.2.1 [] n rfl (by omega)
def Mz:Me:=(([],[]),([],[]),[],0)
def fillM(M:Me)(t:Nat):Me:=(M.1,M.2.1,M.2.2.1.set t (true,[],List.replicate (Int.toNat 16) (0,0,false,false)),M.2.2.2)
noncomputable def mkM(n:Nat)(M:Me):Me×Int×Bool:=cond (okM n M&&decide (0≤frf M.2.2.1)) (fillM M (frf M.2.2.1).toNat,frf M.2.2.1,true) (Mz,-1,false)
theorem frf_lt{S:List Sp}(h:0≤frf S):(frf S).toNat<S.length∧(rw' S (frf S).toNat).1=false:=by
 rcases frf_cases S with ⟨h1,h2⟩ | ⟨t,h1,h2,h3⟩
 ·omega
 ·rw[h1];exact⟨by simpa using h2,by simpa using h3⟩
theorem q28_eq(n:Nat)(hn:2000≤n)(M:Me)(hB:BgM n M):q28 n (M,())=some (((mkM n M).1,((mkM n M).2.1,((mkM n M).2.2,()))),()):=by
 have e0:q28 n (M,())=zjb n M:=rfl
 obtain⟨e1,_,f⟩:=okM_eq n hn M hB
 rw[e0,zjb]
 rw[show (((M.1.1,M.1.2),(M.2.1.1,M.2.1.2),M.2.2.1,M.2.2.2):Me)=M from rfl,e1]
 simp only[Option.bind_some]
 unfold mkM
 cases hk:okM n M with
 | false=>rfl
 | true =>
  simp only[Bool.not_true,cond_false,Bool.true_and]
  have hM:=(f.1 hk).mi hn hB
  have h5:=hM.sp.len
  rw[q93_eq n hn M (by omega)]
  simp only[Option.bind_some]
  by_cases h:0≤frf M.2.2.1
  ·obtain⟨h1,h2⟩:=frf_lt h
   rw[decide_eq_true h,decide_eq_false (show ¬ frf M.2.2.1<0 by omega)]
   simp only[cond_false,cond_true]
   rw[hM.copy n hn]
   simp only[Option.bind_some]
   rw[decide_eq_true (show frf M.2.2.1<(M.2.2.1.length:Int) by omega)]
   rfl
  ·rw[decide_eq_false h,decide_eq_true (show frf M.2.2.1<0 by omega)]
   rfl
theorem q30_eq(n:Nat)(hn:2000≤n)(M:Me)(hB:BgM n M):q30 n (M,())=some (((mkM n M).1,((mkM n M).2.1,((mkM n M).2.2,()))),()):=by
 have e0:q30 n (M,())=zi_ n M:=rfl
 obtain⟨_,e1,f⟩:=okM_eq n hn M hB
 rw[e0,zi_]
 rw[show (((M.1.1,M.1.2),(M.2.1.1,M.2.1.2),M.2.2.1,M.2.2.2):Me)=M from rfl,e1]
 simp only[Option.bind_some]
 unfold mkM
 cases hk:okM n M with
 | false=>rfl
 | true =>
  simp only[Bool.not_true,cond_false,Bool.true_and]
  have hv:=f.1 hk
  have hM:=hv.mi hn hB
  have h5:=hM.sp.len
  rw[q96_eq n M (by omega) (by omega)]
  simp only[Option.bind_some]
  by_cases h:0≤frf M.2.2.1
  ·obtain⟨h1,h2⟩:=frf_lt h
   rw[decide_eq_true h,decide_eq_false (show ¬ frf M.2.2.1<0 by omega)]
   simp only[cond_false,cond_true]
   rw[q50_eq n hn M (hv.mw hn hB)]
   simp only[Option.bind_some]
   rw[decide_eq_true (show frf M.2.2.1<(M.2.2.1.length:Int) by omega)]
   rfl
  ·rw[decide_eq_false h,decide_eq_true (show frf M.2.2.1<0 by omega)]
   rfl
def liv(M:Me)(w:Int):Bool:=(decide (0≤w)&&decide (w≤(M.2.2.1.length:Int) - 1))&&(rw' M.2.2.1 w.toNat).1
theorem liv_nat{M:Me}{w:Int}(h:liv M w=true):∃ k:Nat,w=(k:Int)∧k<M.2.2.1.length∧(rw' M.2.2.1 k).1=true:=by
 unfold liv at h
 simp only[Bool.and_eq_true,decide_eq_true_eq]at h
 obtain⟨⟨h1,h2⟩,h3⟩:=h
 obtain⟨k,rfl⟩:=Int.eq_ofNat_of_zero_le h1
 exact⟨k,rfl,by omega,by simpa using h3⟩
theorem q49_eq(n:Nat)(M:Me)(w:Int)(hs:M.2.2.1.length≤4000000):q49 n (M,w,())=some ((liv M w,()),()):=by
 show zi4 n M w=_
 rw[zi4,wr (by omega) (by omega),zid]
 simp only[Option.bind_some,liv]
 by_cases h1:0≤w
 ·by_cases h2:w≤(M.2.2.1.length:Int) - 1
  ·rw[decide_eq_true h1,decide_eq_true h2,decide_eq_true (show w<(M.2.2.1.length:Int) by omega)]
   rfl
  ·rw[decide_eq_true h1,decide_eq_false h2]
   rfl
 ·rw[decide_eq_false h1]
  rfl
theorem q54_eqI(n:Nat)(M:Me)(w:Int)(hs:M.2.2.1.length≤4000000):q54 n (M,w,())=some ((liv M w,()),()):=by
 show zi2 n M w=_
 rw[zi2,wr (by omega) (by omega),zbm]
 simp only[Option.bind_some,liv]
 by_cases h1:0≤w
 ·by_cases h2:w≤(M.2.2.1.length:Int) - 1
  ·rw[decide_eq_true h1,decide_eq_true h2,decide_eq_true (show w<(M.2.2.1.length:Int) by omega)]
   rfl
  ·rw[decide_eq_true h1,decide_eq_false h2]
   rfl
 ·rw[decide_eq_false h1]
  rfl
def loseTo(w:Nat):List Nat→Me→Me
 | [],M=>M
 | k::ks,M=>loseTo w ks (lose M w k)
def deadM(M:Me)(w:Nat):Me:=(M.1,M.2.1,M.2.2.1.set w (false,[],[]),M.2.2.2)
def rngL(k:Nat):Nat→List Nat
 | 0=>[]
 | d+1=>k::rngL (k+1) d
theorem p103_L2_eq(n:Nat)(w:Nat)(hw:w<5)(x3:Int):∀ (d k m:Nat) (M:Me),MI M→(rw' M.2.2.1 w).2.2.length=16→k+d=16→d<m→p103_L2 n m (w:Int) (k:Int) M.2.2.2 x3 M.1.1 M.1.2 M.2.1.1 M.2.1.2 M.2.2.1=some ((deadM (loseTo w (rngL k d) M) w,()),())
 | _,k,0,M,_,_,_,h=>by omega
 | 0,k,m+1,M,hM,hl,hk,h=>by
  obtain rfl:k=16:=by omega
  have hw':w<M.2.2.1.length:=by rw[hM.sp.len];exact hw
  show zec n _ _ _ _ _ _ _ _ _ _=_
  simp only[zec,ge_t,lt_t hw',cond_true,zaa]
  rfl
 | d+1,k,m+1,M,hM,hl,hk,h=>by
  have hw':w<M.2.2.1.length:=by rw[hM.sp.len];exact hw
  obtain⟨e1,e2,e3⟩:=q122_eq n M hM w k hw (by omega)
  have ih:=p103_L2_eq n w hw x3 d (k+1) m (lose M w k) e2 (by rw[(e3 w).2.2];exact hl) (by omega) (by omega)
  show zec n _ _ _ _ _ _ _ _ _ _=_
  simp only[zec,show decide ((k:Int)<16)=true from decide_eq_true (by omega),cond_true]
  have e1':q122 n (((M.1.1,M.1.2),(M.2.1.1,M.2.1.2),M.2.2.1,M.2.2.2),(w:Int),(k:Int),())=some ((lose M w k,()),()):=e1
  rw[e1']
  simp only[Option.bind_some,wS (show k≤1000000 by omega)]
  exact ih
theorem giveD_eq(P:Pg)(k:Nat)(h1:k<P.1.length)(h2:k<P.2.length)(hr:0≤P.2.getD k 0∧P.2.getD k 0<1000):giveD P.1 P.2 (k:Int)=some (giv P k):=by
 unfold giveD giv
 rw[ge_t,lt_t h2,lt_t h1,zaa,wr (by omega) (by omega)]
 simp only[cond_true]
 by_cases h:P.2.getD k 0 - 1=0
 ·rw[decide_eq_true h,if_pos h]
  rfl
 ·rw[decide_eq_false h,if_neg h]
  rfl
theorem zkd(n:Nat)(P:Pg)(k:Nat)(h1:k<P.1.length)(h2:k<P.2.length)(hr:0≤P.2.getD k 0∧P.2.getD k 0<1000):zjf n (P,(k:Int),())=some ((),(giv P k,())):=by
 show (giveD P.1 P.2 (k:Int)).map (fun r=>(((),(r,())):zjp))=_
 rw[giveD_eq P k h1 h2 hr]
 rfl
theorem p35_L5_eq(n:Nat)(w:Nat)(hw:w<5)(x3:Int):∀ (d k m:Nat) (M:Me),MI M→(rw' M.2.2.1 w).2.2.length=16→k+d=16→d<m→p35_L5 n m (w:Int) 16 (k:Int) x3 M.2.2.2 M.1.1 M.1.2 M.2.1.1 M.2.1.2 M.2.2.1=some ((deadM (loseTo w (rngL k d) M) w,(true,())),())
 | _,k,0,M,_,_,_,h=>by omega
 | 0,k,m+1,M,hM,hl,hk,h=>by
  obtain rfl:k=16:=by omega
  have hw':w<M.2.2.1.length:=by rw[hM.sp.len];exact hw
  show zhw n _ _ _ _ _ _ _ _ _ _ _=_
  simp only[zhw,ge_t,lt_t hw',cond_true,zaa]
  rfl
 | d+1,k,m+1,M,hM,hl,hk,h=>by
  have hw':w<M.2.2.1.length:=by rw[hM.sp.len];exact hw
  have hp:k<(rw' M.2.2.1 w).2.2.length:=by omega
  obtain⟨e1,e2,e3⟩:=q122_eq n M hM w k hw hp
  have ih:=p35_L5_eq n w hw x3 d (k+1) m (lose M w k) e2 (by rw[(e3 w).2.2];exact hl) (by omega) (by omega)
  have hsl:=hM.sp.slI hw hp
  have hr1:=hM.ram.l1
  have hr2:=hM.ram.l2
  have hs1:=hM.swp.l1
  have hs2:=hM.swp.l2
  show zhw n _ _ _ _ _ _ _ _ _ _ _=_
  simp only[zhw,show decide ((k:Int)<16)=true from decide_eq_true (by omega),cond_true,ge_t,lt_t hw',zaa,lt_t hp,wS (show k≤1000000 by omega)]
  show _=some ((deadM (loseTo w (rngL (k+1) d) (lose M w k)) w,(true,())),())
  rw[← ih]
  by_cases h1:(sl M.2.2.1 w k).1=1
  ·have hat:=hsl.2.2 (by rw[h1];decide)
   obtain⟨j,hj⟩:=Int.eq_ofNat_of_zero_le hat.1
   have hj2:j<12:=by omega
   have hc:=hM.ram.c j hj2
   have ht:=hM.sp.told 1 j
   have hq:=zkd n M.1 j (by omega) (by omega) (by omega)
   simp only[h1,decide_true,cond_true,hj,lose,if_true,zaa]
   rw[show ((M.1.1,M.1.2):Pg)=M.1 from rfl,hq]
   rfl
  ·by_cases h2:(sl M.2.2.1 w k).1=2
   ·have hat:=hsl.2.2 (by rw[h2];decide)
    obtain⟨j,hj⟩:=Int.eq_ofNat_of_zero_le hat.1
    have hj2:j<12:=by omega
    have hc:=hM.swp.c j hj2
    have ht:=hM.sp.told 2 j
    have hq:=zkd n M.2.1 j (by omega) (by omega) (by omega)
    simp only[h1,h2,decide_true,decide_false,cond_true,cond_false,hj,lose,if_true,if_false,zaa]
    rw[show ((M.2.1.1,M.2.1.2):Pg)=M.2.1 from rfl,hq]
    rfl
   ·simp only[h1,h2,decide_false,cond_false,lose,if_false]
noncomputable def drM(n:Nat)(M:Me)(w:Int):Me×Bool:=cond (okM n M&&liv M w) (deadM (loseTo w.toNat (rngL 0 16) M) w.toNat,true) (Mz,false)
theorem q36_eq(n:Nat)(hn:2000≤n)(M:Me)(w:Int)(hB:BgM n M):q36 n (M,w,())=some (((drM n M w).1,((drM n M w).2,())),()):=by
 obtain⟨e1,_,f⟩:=okM_eq n hn M hB
 show zi5 n M w=_
 rw[zi5,show (((M.1.1,M.1.2),(M.2.1.1,M.2.1.2),M.2.2.1,M.2.2.2):Me)=M from rfl,e1]
 simp only[Option.bind_some]
 unfold drM
 cases hk:okM n M with
 | false=>rfl
 | true =>
  simp only[Bool.not_true,cond_false,Bool.true_and]
  have hM:=(f.1 hk).mi hn hB
  have h5:=hM.sp.len
  rw[q54_eqI n M w (by omega)]
  simp only[Option.bind_some]
  cases hl:liv M w with
  | false=>rfl
  | true =>
   obtain⟨k,rfl,hk1,hk2⟩:=liv_nat hl
   simp only[Bool.not_true,cond_false,cond_true]
   rw[hM.copy n hn]
   simp only[Option.bind_some]
   have hlen:(rw' M.2.2.1 k).2.2.length=16:=(hM.sp.rw _ (zam hk1)).lv hk2
   have e3:q103 n (M,(k:Int),())=some ((deadM (loseTo k (rngL 0 16) M) k,()),()):=p103_L2_eq n k (by omega) 0 16 0 n M hM hlen (by omega) (by omega)
   rw[show (((M.1.1,M.1.2),(M.2.1.1,M.2.1.2),M.2.2.1,M.2.2.2):Me)=M from rfl,e3]
   simp only[Option.bind_some,zaa]
theorem q35_eq(n:Nat)(hn:2000≤n)(M:Me)(w:Int)(hB:BgM n M):q35 n (M,w,())=some (((drM n M w).1,((drM n M w).2,())),()):=by
 obtain⟨_,e1,f⟩:=okM_eq n hn M hB
 show zi6 n (p35_L5 n n) M w=_
 rw[zi6,show (((M.1.1,M.1.2),(M.2.1.1,M.2.1.2),M.2.2.1,M.2.2.2):Me)=M from rfl,e1]
 simp only[Option.bind_some]
 unfold drM
 cases hk:okM n M with
 | false=>rfl
 | true =>
  simp only[Bool.not_true,cond_false,Bool.true_and]
  have hv:=f.1 hk
  have hM:=hv.mi hn hB
  have h5:=hM.sp.len
  rw[q49_eq n M w (by omega)]
  simp only[Option.bind_some]
  cases hl:liv M w with
  | false=>rfl
  | true =>
   obtain⟨k,rfl,hk1,hk2⟩:=liv_nat hl
   simp only[Bool.not_true,cond_false,cond_true]
   rw[q50_eq n hn M (hv.mw hn hB)]
   simp only[Option.bind_some,ge_t,lt_t hk1,cond_true,zaa]
   have hlen:(rw' M.2.2.1 k).2.2.length=16:=(hM.sp.rw _ (zam hk1)).lv hk2
   have e3:=p35_L5_eq n k (by omega) 0 16 0 n M hM hlen (by omega) (by omega)
   rw[show ((List.length (rw' M.2.2.1 k).2.2:Nat):Int)=16 by rw[hlen];rfl]
   exact e3
end Go.Proofs.Ytdkaagpkeomhmaa.Rx.S
namespace Go.Proofs.Ytdkaagpkeomhmaa.Rx.Pu
open Go
theorem zdf{α β γ:Type}(F:Nat→List α→Int→List β→γ)(R:List β→γ)(g:α→β)(da:α)(xs:List α)
  (hF:∀ k (i:Nat) (acc:List β),i<xs.length→acc.length=xs.length→F (k+1) xs i acc=F k xs ((i+1:Nat):Int) (acc.set i (g (xs.getD i da))))
  (hE:∀ k acc,F (k+1) xs (xs.length:Int) acc=R acc):∀ (d k i:Nat) (acc:List β),acc.length=xs.length→i+d=xs.length→d<k→(∀ j,j<i→acc[j]? = (xs.map g)[j]?)→F k xs i acc=R (xs.map g):=by
 intro d
 induction d with
 | zero =>
  intro k i acc hl hd hk hj
  obtain⟨k,rfl⟩:∃ m,k=m+1:=⟨k - 1,by omega⟩
  have hi:i=xs.length:=by omega
  subst hi
  rw[hE]
  congr 1
  apply List.ext_getElem?
  intro j
  rcases Nat.lt_or_ge j xs.length with h | h
  ·exact hj j h
  ·rw[List.getElem?_eq_none (by omega),List.getElem?_eq_none (by simp;omega)]
 | succ d ih =>
  intro k i acc hl hd hk hj
  obtain⟨k,rfl⟩:∃ m,k=m+1:=⟨k - 1,by omega⟩
  rw[hF k i acc (by omega) hl]
  refine ih k (i+1) _ (by simp[hl]) (by omega) (by omega) (fun j hji=>?_)
  rcases Nat.lt_or_ge j i with h | h
  ·rw[List.getElem?_set_ne (by omega)]
   exact hj j h
  ·obtain rfl:j=i:=by omega
   rw[List.getElem?_set_self (by omega)]
   simp[List.getD_eq_getElem?_getD,List.getElem?_eq_getElem (show j<xs.length by omega)]
theorem zcn{γ:Type}(F:Nat→Int→γ)(r:γ)(n:Nat)(hF:∀ k (i:Nat),i<n→F (k+1) i=F k ((i+1:Nat):Int))(hE:∀ k,F (k+1) (n:Int)=r):∀ (d k i:Nat),i+d=n→d<k→F k i=r:=by
 intro d
 induction d with
 | zero =>
  intro k i hd hk
  obtain⟨k,rfl⟩:∃ m,k=m+1:=⟨k - 1,by omega⟩
  have hi:i=n:=by omega
  subst hi
  exact hE k
 | succ d ih =>
  intro k i hd hk
  obtain⟨k,rfl⟩:∃ m,k=m+1:=⟨k - 1,by omega⟩
  rw[hF k i (by omega)]
  exact ih k (i+1) (by omega) (by omega)
def marks{α:Type}(f:Int→α)(s m:Int)(n:Nat):List α:=(List.range n).map fun (j:Nat)=>f (m+s*j)
theorem za2{α:Type}(f:Int→α)(s m:Int)(n:Nat):(marks f s m n).length=n:=by simp[marks]
theorem zen{α:Type}(f:Int→α)(s m:Int)(n j:Nat)(h:j<n)(d:α):(marks f s m n).getD j d=f (m+s*j):=by
 simp[marks,List.getD_eq_getElem?_getD,h]
theorem zhf{α γ:Type}(F:Nat→Int→Int→List α→γ)(R:Int→List α→γ)(f:Int→α)(s m0:Int)(n:Nat)
  (hF:∀ k (i:Nat) (xs:List α),i<n→xs.length=n→F (k+1) (m0+s*i) i xs=F k (m0+s*((i+1:Nat):Int)) ((i+1:Nat):Int) (xs.set i (f (m0+s*i))))
  (hE:∀ k (xs:List α),xs.length=n→F (k+1) (m0+s*n) n xs=R (m0+s*n) xs):∀ (d k i:Nat) (xs:List α),xs.length=n→i+d=n→d<k→(∀ j,j<i→xs[j]? = (marks f s m0 n)[j]?) →
  F k (m0+s*i) i xs=R (m0+s*n) (marks f s m0 n):=by
 intro d
 induction d with
 | zero =>
  intro k i xs hl hd hk hj
  obtain⟨k,rfl⟩:∃ m,k=m+1:=⟨k - 1,by omega⟩
  have hin:i=n:=by omega
  subst hin
  rw[hE k xs hl]
  congr 1
  apply List.ext_getElem?
  intro j
  rcases Nat.lt_or_ge j i with h | h
  ·exact hj j h
  ·rw[List.getElem?_eq_none (by omega),List.getElem?_eq_none (by rw[za2];omega)]
 | succ d ih =>
  intro k i xs hl hd hk hj
  obtain⟨k,rfl⟩:∃ m,k=m+1:=⟨k - 1,by omega⟩
  rw[hF k i xs (by omega) hl]
  refine ih k (i+1) _ (by simp[hl]) (by omega) (by omega) (fun j hji=>?_)
  rcases Nat.lt_or_ge j i with h | h
  ·rw[List.getElem?_set_ne (by omega)]
   exact hj j h
  ·obtain rfl:j=i:=by omega
   rw[List.getElem?_set_self (by omega)]
   simp[marks,show j<n by omega]
theorem zhj{γ:Type}(F:Nat→Int→Int→γ)(R:Int→γ)(s m0:Int)(n:Nat)
  (hF:∀ k (i:Nat),i<n→F (k+1) (m0+s*i) i=F k (m0+s*((i+1:Nat):Int)) ((i+1:Nat):Int)) (hE:∀ k,F (k+1) (m0+s*n) n=R (m0+s*n)):∀ (d k i:Nat),i+d=n→d<k→F k (m0+s*i) i=R (m0+s*n):=by
 intro d
 induction d with
 | zero =>
  intro k i hd hk
  obtain⟨k,rfl⟩:∃ m,k=m+1:=⟨k - 1,by omega⟩
  have hin:i=n:=by omega
  subst hin
  exact hE k
 | succ d ih =>
  intro k i hd hk
  obtain⟨k,rfl⟩:∃ m,k=m+1:=⟨k - 1,by omega⟩
  rw[hF k i (by omega)]
  exact ih k (i+1) (by omega) (by omega)
end Go.Proofs.Ytdkaagpkeomhmaa.Rx.Pu
