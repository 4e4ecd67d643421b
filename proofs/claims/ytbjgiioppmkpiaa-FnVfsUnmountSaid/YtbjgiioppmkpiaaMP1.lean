/- Plain laws of those functions, no program in sight: the law answers true on all data. No condition. -/
import Derived.Test.YtbjgiioppmkpiaaMP0
set_option linter.unusedVariables false
set_option linter.unusedSimpArgs false
namespace Go.Proofs.Ytbjgiioppmkpiaa.Rx.S
open Go Go.Proofs.Ytbjgiioppmkpiaa.Rx.Pu Go.Proofs.Ytbjgiioppmkpiaa.Rx.Fs
noncomputable def zoc(f:List Nd)(i k:Nat)(s:ByteArray):List Nd×Int :=
 bif !decide ((f.getD i d0).1=1) then (f,4) else bif decide (40<(k:Int)) then (f,7) else bif decide (40<(k:Int)+(s.size:Int)) then (f,7) else bif decide (s.size=0) then (f,0) else
   (f.set i (ym0 (f.getD i d0) (wtx (padB (k - (f.getD i d0).2.2.2.2.2.2.2.1.size) (f.getD i d0).2.2.2.2.2.2.2.1) k s)),0)
theorem yir(n:Nat)(f:List Nd)(i k:Nat)(s:ByteArray)(h:OkW f)(hi10:i<10)(hs:s.size≤1048576)(hk:k≤2000000000)(hn:2000000<n):p144 n f (i:Int) (k:Int) s=some (((zoc f i k s).1,((zoc f i k s).2,())),()):=by
 have hi:i<f.length:=by rw[h.len];exact hi10
 unfold zoc;show zfp n (ze_ n n) f (i:Int) (k:Int) s=_;simp only[zfp,lt_t hi,ge_t,cond_true,zaa,zeb]
 by_cases hk1:(f.getD i d0).1=1
 ·have hk1':=hk1;simp only[d0]at hk1';simp only[hk1,hk1',decide_true,Bool.not_true,cond_false]
  by_cases hk40:(40:Int)<(k:Int)
  ·simp only[hk40,decide_true,cond_true]
  ·have w:IntKind.i64.wrap ((k:Int)+(s.size:Int))=(k:Int)+(s.size:Int):=wr (by omega) (by omega);simp only[hk40,decide_false,cond_false,w]
   by_cases hk2:(40:Int)<(k:Int)+(s.size:Int)
   ·simp only[hk2,decide_true,cond_true]
   ·simp only[hk2,decide_false,cond_false]
    by_cases hs0:s.size=0
    ·simp only[hs0,decide_true,cond_true]
    ·simp only[hs0,decide_false,cond_false];have htx:((f.getD i d0).2.2.2.2.2.2.2.1).size≤40:=((h.base i hi10 (by rw[kd,hk1];decide)).2.2.2.1 hk1).1;exact zmd n f i hi k s (by omega) (by omega) _ n _ (Nat.le_trans htx (by omega)) rfl (by omega)
 ·have hk1':=hk1;simp only[d0]at hk1';simp only[hk1,hk1',decide_false,Bool.not_false,cond_true]
theorem zzw(t:ByteArray)(k:Nat)(s:ByteArray)(hk:k+s.size≤40)(ht:t.size≤40):(wtx t k s).size≤40:=by
 unfold wtx endB;rw[ByteArray.size_append,ByteArray.size_append,ByteArray.size_extract]
 cases hd:decide (k+s.size<t.size) with
 |true =>
  have:=of_decide_eq_true hd;simp only[cond_true,ByteArray.size_extract];omega
 |false =>
  simp only[cond_false];have:(ByteArray.mk #[]).size=0:=rfl;omega
theorem zut{f:List Nd}(h:OkW f){i:Nat}(hi:i<10)(k:Nat)(s:ByteArray):OkW (zoc f i k s).1:=by
 unfold zoc
 by_cases hk1:(f.getD i d0).1=1
 ·rw[decide_eq_true hk1];simp only[Bool.not_true,cond_false]
  by_cases hk40:(40:Int)<(k:Int)
  ·rw[decide_eq_true hk40];exact h
  ·rw[decide_eq_false hk40]
   by_cases hk2:(40:Int)<(k:Int)+(s.size:Int)
   ·rw[decide_eq_true hk2];exact h
   ·rw[decide_eq_false hk2]
    by_cases hs0:s.size=0
    ·rw[decide_eq_true hs0];exact h
    ·rw[decide_eq_false hs0];simp only[cond_false];obtain⟨b1,b2,b3,b4,b5⟩:=h.base i hi (by rw[kd,hk1];decide);have htx:=(b4 hk1).1
     have hsz:(wtx (padB (k - (f.getD i d0).2.2.2.2.2.2.2.1.size) (f.getD i d0).2.2.2.2.2.2.2.1) k s).size≤40:=by
      refine zzw _ _ _ (by omega) ?_;rw[zoq];simp only[tx]at htx;omega
     refine h.same hi (by rw[kd,hk1];decide) rfl rfl rfl ⟨b1,b2,b3,fun _=>⟨hsz,(b4 hk1).2⟩,fun h2=>?_⟩ (fun _=>h.live i hi hk1);have:(f.getD i d0).1=2:=h2;omega
 ·rw[decide_eq_false hk1];exact h
theorem ycw{f:List Nd}(h:OkW f){i:Nat}(hi:i<10)(hk:kd (f.getD i d0)≠0)(more:Bool):OkW (zwo f i more).1:=by
 unfold zwo;obtain⟨b1,b2,b3,b4,b5⟩:=h.base i hi hk;have ho:=h.opens i hi;simp only[op]at ho b3
 cases more with
 |true =>
  simp only[cond_true]
  by_cases h9:99≤(f.getD i d0).2.2.2.2.2.1
  ·rw[decide_eq_true h9];exact h
  ·rw[decide_eq_false h9];simp only[cond_false];refine h.same hi hk rfl rfl rfl ⟨b1,b2,?_,b4,b5⟩ (fun hk1 hv=>?_)
   ·show 0≤(f.getD i d0).2.2.2.2.2.1+1∧(f.getD i d0).2.2.2.2.2.1+1≤99;omega
   ·have:(f.getD i d0).2.2.2.2.2.1+1=0:=hv.2;omega
 |false =>
  simp only[cond_false]
  by_cases h0:(f.getD i d0).2.2.2.2.2.1=0
  ·rw[decide_eq_true h0];exact h
  ·rw[decide_eq_false h0];simp only[cond_false];unfold zx1 yjp;have hif:i<f.length:=by rw[h.len];exact hi
   rw[zg0 hif];have e1:(zqc (f.getD i d0) ((f.getD i d0).2.2.2.2.2.1 - 1)).2.2.2.2.1=lk (f.getD i d0):=rfl;have e2:(zqc (f.getD i d0) ((f.getD i d0).2.2.2.2.2.1 - 1)).2.2.2.2.2.1=(f.getD i d0).2.2.2.2.2.1 - 1:=rfl;rw[e1,e2,List.set_set]
   cases hb:!decide (i=0)&&(decide (lk (f.getD i d0)=0)&&decide ((f.getD i d0).2.2.2.2.2.1 - 1=0)) with
   |true =>
    simp only[Bool.and_eq_true,Bool.not_eq_true',decide_eq_false_iff_not,decide_eq_true_eq]at hb;simp only[cond_true];refine h.gone hi ?_ hb.2.1
    by_cases hk2:kd (f.getD i d0)=2
    ·have:=h.tr.un i hi (decide_eq_true hk2) hb.1;have:=h.links i hi hk;omega
    ·omega
   |false =>
    simp only[cond_false];refine h.same hi hk rfl rfl rfl ⟨b1,b2,?_,b4,b5⟩ (fun hk1 hv=>?_)
    ·show 0≤(f.getD i d0).2.2.2.2.2.1 - 1∧(f.getD i d0).2.2.2.2.2.1 - 1≤99;omega
    ·have hv1:lk (f.getD i d0)=0:=hv.1;have hv2:(f.getD i d0).2.2.2.2.2.1 - 1=0:=hv.2
     have hi0:i≠0:=fun e=>by
      subst e;have:=h.root;have hk1':kd (f.getD 0 d0)=1:=hk1;omega
     rw[decide_eq_true hv1,decide_eq_true hv2,decide_eq_false hi0]at hb;cases hb
theorem OkW.szF {f:List Nd} (h:OkW f):SzF 2000000 f:=⟨by rw [h.len]; omega,fun a ha=>by
 obtain⟨i,hi,rfl⟩:=List.mem_iff_getElem.1 ha;rw[← zb8 hi d0];rw[h.len]at hi;refine⟨?_,by have:=h.nlen i hi;omega,fun e he=>?_⟩
 ·by_cases hk:kd (f.getD i d0)=0
  ·have:=(h.zero i hi hk).2.2.2.2.2.2.2.1;omega
  ·obtain⟨b1,_,_,b4,b5⟩:=h.base i hi hk;have:kd (f.getD i d0)=1∨kd (f.getD i d0)=2:=by omega
   rcases this with h1|h1
   ·have:=(b4 h1).1;omega
   ·have:=(b5 h1).1;omega
 ·have:=((h.entsOk hi).all e he).1;simp only[nmOk,Bool.and_eq_true,decide_eq_true_eq]at this
  omega⟩
def nl4:List ByteArray:=[ByteArray.mk #[(97:UInt8)],ByteArray.mk #[(98:UInt8)],ByteArray.mk #[(99:UInt8)],ByteArray.mk #[(97:UInt8),(98:UInt8)]]
theorem yga{v:Int}(h0:0≤v)(h1:v<4):nmOk (nl4.getD v.toNat ByteArray.empty)=true:=by
 have:v=0∨v=1∨v=2∨v=3:=by omega
 rcases this with h|h|h|h <;> subst h <;> decide
theorem md3{v:Int}(h0:0≤v)(h1:v<3):0≤[(493:Int),511,448].getD v.toNat 0∧[(493:Int),511,448].getD v.toNat 0≤511:=by
 have:v=0∨v=1∨v=2:=by omega
 rcases this with h|h|h <;> subst h <;> decide
theorem zqk(n:Nat)(hn:2000000<n){l:List Int}(hl:Bys l){pos:Int}(hp:0≤pos∧pos<700000)(i t:Nat)(hi:i<10)(ht:t<10){f:List Nd}(h:OkW f)(hki:kd (f.getD i d0)≠0)(u r:Int)(g:List Int)(hg:g.length≤4) :
  ∃ (f':List Nd) (pos':Int),zbl n (i:Int) (t:Int) l pos u r f g=some ((f',()),((l,pos'),()))∧(pos≤pos'∧pos'≤pos+20)∧OkW f':=by
 show ∃ (f':List Nd) (pos':Int),zda n (i:Int) (t:Int) l pos u r f g=_∧_;have hif:i<f.length:=by rw[h.len];exact hi
 obtain⟨v7,hv7,a0,a1⟩:=zav n hl (pos:=pos) (b:=4) (by omega) (by omega);obtain⟨v8,hv8,b0,b1⟩:=zav n hl (pos:=pos+1) (b:=4) (by omega) (by omega);obtain⟨v10,hv10,c0,c1⟩:=zav n hl (pos:=pos+1+1) (b:=10) (by omega) (by omega);obtain⟨w2,hw2,d1,d2⟩:=zav n hl (pos:=pos+1+1+1) (b:=2) (by omega) (by omega);obtain⟨w3,hw3,e1,e2⟩:=zav n hl (pos:=pos+1+1+1+1) (b:=3) (by omega) (by omega);obtain⟨w4,hw4,g1,g2⟩:=zav n hl (pos:=pos+1+1+1) (b:=3) (by omega) (by omega);obtain⟨w5,hw5,k1,k2⟩:=zav n hl (pos:=pos+1+1+1) (b:=20) (by omega) (by omega);obtain⟨s,ps,hs,hs1,hs2⟩:=yiq n (by omega) hl (pos:=pos+1+1+1+1) (by omega) 9 (by omega);have hcp:=yf5 n f (OkW.szF h) hn;have hB:=OkW.szB h;have hlen4:∀ v:Int,v<4→decide (v<((nl4.length:Nat):Int))=true:=fun v hv=>decide_eq_true (by have:nl4.length=4:=rfl;omega);have q7:=hlen4 v7 a1;have q8:=hlen4 v8 b1;have n7:=yga a0 a1;have n8:=yga b0 b1;have m3:=md3 e1 e2;have kw:IntKind.i64.wrap (1+w2)=1+w2:=wr (by omega) (by omega)
 let c:Cr:=(u,r,g)
 obtain⟨k5,hk5⟩:=Int.eq_ofNat_of_zero_le k1;have r67:=yi2 n f c i (nl4.getD v7.toNat ByteArray.empty) (1+w2) ([(493:Int),511,448].getD w3.toNat 0) hif hB (by show g.length≤_;omega) hn;have hlk:=h.links
 have hlt:∀ y,y<10→0≤lk (f.getD y d0)∧lk (f.getD y d0)≤1000:=fun y hy=>by
  by_cases hk:kd (f.getD y d0)=0
  ·have:=(h.zero y hy hk).2.2.2.2.1;omega
  ·have:=h.links y hy hk;have:=zqs (f:=f) (fun j hj=>h.nlen j hj) y;omega
 have r113:=yi0 n f c t i (nl4.getD v7.toNat ByteArray.empty) hif (by rw[h.len];exact ht) hB (by show g.length≤_;omega) (hlt t ht) hn;have r114:=ynv n f c i (nl4.getD v7.toNat ByteArray.empty) h hi (by show g.length≤_;omega) hn;have r115:=yi1 n f c i (nl4.getD v7.toNat ByteArray.empty) t (nl4.getD v8.toNat ByteArray.empty) h hi ht (by show g.length≤_;omega) hn;have ho:=h.opens i hi;have r83:=yis n f i hif ho.1 ho.2 (decide (0<w4));have r81:=yir n f i k5 s h hi (by omega) (by omega) hn;have l3:∀ v:Int,v<3→decide (v<(([(493:Int),511,448].length:Nat):Int))=true:=fun v hv=>decide_eq_true (by simp;omega);have l33:=l3 w3 e2;have o67:=yc3 h (c:=c) hi (name:=nl4.getD v7.toNat ByteArray.empty) n7 (kind:=1+w2) (mode:=[(493:Int),511,448].getD w3.toNat 0) (by omega) m3;have o113:=ydf h (c:=c) hi ht (name:=nl4.getD v7.toNat ByteArray.empty) n7;have o114:=yev h (c:=c) hi (nl4.getD v7.toNat ByteArray.empty);have o115:=yc1 h (c:=c) hi ht (nl4.getD v7.toNat ByteArray.empty) (other:=nl4.getD v8.toNat ByteArray.empty) n8;have o83:=ycw h hi hki (decide (0<w4));have o81:=zut h hi k5 s;unfold nl4 at q7 q8 r67 r113 r114 r115;simp only[c]at r67 r113 r114 r115;have hs':p145 n (l,pos+1+1+1+1) 9=some ((s,()),((l,ps),())):=hs;simp only[zda,q102,hv7,hv8,hv10,hw2,hw3,hw4,hw5,Option.bind_some,a0,b0,e1,decide_true,cond_true,q7,q8,q67,hcp,l33,kw,q106,r67,q111,r113,q77,r114,q110,r115,q132,r83,q145,hs',q144,hk5,r81,ge_t,lt_t hif,zaa]
 cases decide (v10=0) with
 |true=>exact⟨_,_,rfl,by omega,o67⟩
 |false =>
 cases decide (v10=1) with
 |true=>exact⟨_,_,rfl,by omega,o67⟩
 |false =>
 cases decide (v10=2) with
 |true=>exact⟨_,_,rfl,by omega,o67⟩
 |false =>
 cases decide (v10=3) with
 |true=>exact⟨_,_,rfl,by omega,o113⟩
 |false =>
 cases decide (v10=4) with
 |true=>exact⟨_,_,rfl,by omega,o114⟩
 |false =>
 cases decide (v10=5) with
 |true=>exact⟨_,_,rfl,by omega,o115⟩
 |false =>
 cases decide (v10=6) with
 |true=>exact⟨_,_,rfl,by omega,o83⟩
 |false =>
 cases decide (v10=7) with
 |true =>
  by_cases hk1:kd (f.getD i d0)=1
  ·have hk1':=hk1;simp only[kd,d0]at hk1';simp only[cond_false,cond_true,hk1',decide_true];refine⟨_,_,rfl,by omega,?_⟩;obtain⟨b1,b2,b3,b4,b5⟩:=h.base i hi hki;refine h.same (a:=(1,(f.getD i d0).2.1,(f.getD i d0).2.2.1,(f.getD i d0).2.2.2.1,(f.getD i d0).2.2.2.2.1,(f.getD i d0).2.2.2.2.2.1,decide (w2=0),(f.getD i d0).2.2.2.2.2.2.2)) hi hki hk1.symm rfl rfl ⟨by show (1:Int)≤1∧(1:Int)≤2;omega,b2,b3,fun _=>b4 hk1,fun h2=>?_⟩ (fun _=>h.live i hi hk1);exact absurd (show (1:Int)=2 from h2) (by decide)
  ·have hk1':=hk1;simp only[kd,d0]at hk1';simp only[cond_false,cond_true,hk1',decide_false];exact⟨_,_,rfl,by omega,h⟩
 |false=>exact⟨_,_,rfl,by omega,o81⟩
theorem zq3{f:List Nd}{v:Int}(h:hasB f v=true):∃ i:Nat,v=(i:Int)∧i<10∧kd (f.getD i d0)≠0:=by
 unfold hasB at h;simp only[Bool.and_eq_true,decide_eq_true_eq,Bool.not_eq_true',decide_eq_false_iff_not]at h;exact⟨v.toNat,by omega,by omega,h.2⟩
theorem yiy(n:Nat)(hn:2000000<n){l:List Int}(hl:Bys l){pos:Int}(hp:0≤pos∧pos<600000){f:List Nd}(h:OkW f) :
  ∃ (f':List Nd) (pos':Int),p113 n (l,pos) f=some ((f',()),((l,pos'),()))∧(pos≤pos'∧pos'≤pos+40)∧OkW f':=by
 show ∃ (f':List Nd) (pos':Int),zf4 n (zbl n) (l,pos) f=_∧_;obtain⟨c,p1,hc,hp1,hg⟩:=yf9 n (by omega) hl (pos:=pos) (by omega);obtain⟨v1,hv1,_,_⟩:=zav n hl (pos:=p1) (b:=2) (by omega) (by omega);obtain⟨v2,hv2,_,_⟩:=zav n hl (pos:=p1+1) (b:=6) (by omega) (by omega);obtain⟨v3,hv3,_,_⟩:=zav n hl (pos:=p1+1+1) (b:=6) (by omega) (by omega);have e2:=yf6 n f h.len v2;have e3:=yf6 n f h.len v3;have hr:=h.root
 have key:∀ (u:Int),∃ (f':List Nd) (pos':Int),(bif !hasB f v2 then (bif !hasB f v3 then zbl n 0 0 l (p1 + 1 + 1 + 1) u c.2.1 f c.2.2 else zbl n 0 v3 l (p1 + 1 + 1 + 1) u c.2.1 f c.2.2)
   else (bif !hasB f v3 then zbl n v2 0 l (p1+1+1+1) u c.2.1 f c.2.2 else zbl n v2 v3 l (p1+1+1+1) u c.2.1 f c.2.2))=some ((f',()),((l,pos'),()))∧(pos≤pos'∧pos'≤pos+40)∧OkW f':=fun u=>by
  have go:∀ i t:Nat,i<10→t<10→kd (f.getD i d0)≠0→∃ (f':List Nd) (pos':Int),zbl n (i:Int) (t:Int) l (p1+1+1+1) u c.2.1 f c.2.2=some ((f',()),((l,pos'),()))∧(pos≤pos'∧pos'≤pos+40)∧OkW f':=fun i t hi ht hk=>by
   obtain⟨f',pos',a1,a2,a3⟩:=zqk n hn hl (pos:=p1+1+1+1) (by omega) i t hi ht h hk u c.2.1 c.2.2 hg;exact⟨f',pos',a1,by omega,a3⟩
  cases h2:hasB f v2 with
  |true =>
   obtain⟨i,rfl,hi,hk⟩:=zq3 h2
   cases h3:hasB f v3 with
   |true =>
    obtain⟨t,rfl,ht,_⟩:=zq3 h3;exact go i t hi ht hk
   |false=>exact go i 0 hi (by omega) hk
  |false =>
   cases h3:hasB f v3 with
   |true =>
    obtain⟨t,rfl,ht,_⟩:=zq3 h3;exact go 0 t (by omega) ht (by omega)
   |false=>exact go 0 0 (by omega) (by omega) (by omega)
 simp only[zf4,q57,hc,q102,hv1,hv2,hv3,Option.bind_some,q65,e2,e3]
 cases decide (v1=0) with
 |true=>exact key 0
 |false=>exact key c.1
theorem OkW.pw{f:List Nd}(h:OkW f){i:Nat}(hi:i<10):(nm (f.getD i d0)).Pairwise ltE:=(zjv _).1 (fun k hk=>(h.ents i k hi hk).2.2.2)
theorem yn_(o m:Int)(hm:0≤m∧m≤511):OkW ((List.replicate 10 d0).set 0 (2,m,o,o,0,0,false,ByteArray.empty,[])):=by
 generalize hf:(List.replicate 10 d0).set 0 (2,m,o,o,0,0,false,ByteArray.empty,[])=f
 have hg:∀ j,f.getD j d0=if j=0 then (2,m,o,o,0,0,false,ByteArray.empty,[]) else d0:=fun j=>by
  rw[← hf,zba (by simp)];split
  ·rfl
  ·rw[List.getD_eq_getElem?_getD,List.getElem?_replicate];split <;> rfl
 have hn:∀ j,nm (f.getD j d0)=[]:=fun j=>by rw[hg];split <;> rfl
 have hids:∀ j,ids f j=[]:=fun j=>by simp only[ids,hn];rfl
 have hm0:∀ x,Gr.many (ids f) 10 x=0:=fun x=>by
  rw[Gr.many_congr (e:=fun _=>[]) (e':=ids f) (fun j _=>by rw[hids])];rfl
 refine OkW.of (by rw[← hf];simp) (by rw[hg];rfl) (fun j hj hk=>?_) (fun j hj hk=>?_) (fun j hj=>?_) (fun j hj hk=>?_) (fun j hj hk=>?_) (fun x hx hf' hx0=>?_) (fun x hx hf'=>?_)
 ·rw[hg]at hk ⊢;split
  ·exact⟨by show (1:Int)≤2∧(2:Int)≤2;omega,hm,by show (0:Int)≤0∧(0:Int)≤99;omega,fun _=>⟨Nat.zero_le _,rfl⟩,fun _=>⟨rfl,rfl,Nat.zero_le _⟩⟩
  ·rename_i e;rw[if_neg e]at hk;exact absurd rfl hk
 ·rw[hg]at hk ⊢;split
  ·rename_i e;rw[if_pos e]at hk;cases hk
  ·exact ygl
 ·rw[hn];exact⟨fun e he=>(List.not_mem_nil he).elim,List.Pairwise.nil⟩
 ·rw[hm0,hg];split <;> rfl
 ·rw[hg]at hk;split at hk <;> cases hk
 ·simp only[fold,hg,if_neg hx0]at hf';cases hf'
 ·by_cases e:x=0
  ·subst e;exact⟨0,.root⟩
  ·simp only[fold,hg,if_neg e]at hf';cases hf'
theorem ynx(n:Nat){l:List Int}(hl:Bys l){pos:Int}(hp:0≤pos∧pos<900000):∃ (s:ByteArray) (pos':Int),p71 n (l,pos)=some ((s,()),((l,pos'),()))∧(pos≤pos'∧pos'≤pos+2)∧s.size≤10:=by
 show ∃ (s:ByteArray) (pos':Int),zil n (l,pos)=_∧_;obtain⟨v0,hv0,g0,g1⟩:=zav n hl (pos:=pos) (b:=24) (by omega) (by omega);obtain⟨v1,hv1,g2,g3⟩:=zav n hl (pos:=pos+1) (b:=5) (by omega) (by omega);obtain⟨v2,hv2,g4,g5⟩:=zav n hl (pos:=pos+1) (b:=4) (by omega) (by omega);have e5:∀ (a b c d e:ByteArray),decide (v1<(([a,b,c,d,e].length:Nat):Int))=true:=fun _ _ _ _ _=>decide_eq_true (by simp;omega);have e4:∀ (a b c d:ByteArray),decide (v2<(([a,b,c,d].length:Nat):Int))=true:=fun _ _ _ _=>decide_eq_true (by simp;omega);simp only[zil,q102,hv0,hv1,hv2,Option.bind_some,g2,g4,decide_true,cond_true,e5,e4]
 cases decide (v0=0) with
 |true =>
  refine⟨_,_,rfl,by omega,?_⟩;have:v1=0∨v1=1∨v1=2∨v1=3∨v1=4:=by omega
  rcases this with h|h|h|h|h <;> subst h <;> decide
 |false =>
  refine⟨_,_,rfl,by omega,?_⟩;have:v2=0∨v2=1∨v2=2∨v2=3:=by omega
  rcases this with h|h|h|h <;> subst h <;> decide
theorem bb(b:Bool):(!(b == b))=false:=by cases b <;> rfl
theorem bb2(b:Bool):(!b == b)=false:=by cases b <;> rfl
theorem ycr(n:Nat)(a:Nd)(hl:(nm a).length≤2000000)(hn:(nm a).length<n):p68 n a a=some ((true,()),()):=by
 show zio n (zkk n n) a a=_;simp only[zio,decide_true,Bool.not_true,cond_false,beq_self_eq_true,bb2]
 exact zcx (F:=fun k i=>zkk n k i a.1 a.2.1 a.2.2.1 a.2.2.2.1 a.2.2.2.2.1 a.2.2.2.2.2.1 a.2.2.2.2.2.2.1 a.2.2.2.2.2.2.2.1 (nm a) a.1 a.2.1 a.2.2.1 a.2.2.2.1 a.2.2.2.2.1 a.2.2.2.2.2.1 a.2.2.2.2.2.2.1 a.2.2.2.2.2.2.2.1 (nm a)) (r:=some ((true,()),())) (nm a).length (fun k i hi=>by
  show zg_ n (zkk n k) i a.1 a.2.1 a.2.2.1 a.2.2.2.1 a.2.2.2.2.1 a.2.2.2.2.2.1 a.2.2.2.2.2.2.1 a.2.2.2.2.2.2.2.1 (nm a) a.1 a.2.1 a.2.2.1 a.2.2.2.1 a.2.2.2.2.1 a.2.2.2.2.2.1 a.2.2.2.2.2.2.1 a.2.2.2.2.2.2.2.1 (nm a)=_;simp only[zg_,lt_t hi,ge_t,cond_true,zaa,beq_self_eq_true,decide_true,Bool.and_true,Bool.not_true,cond_false]
  rw[za4 (by omega)]) (fun k=>by
  show zg_ n (zkk n k) ((nm a).length:Int) a.1 a.2.1 a.2.2.1 a.2.2.2.1 a.2.2.2.2.1 a.2.2.2.2.2.1 a.2.2.2.2.2.2.1 a.2.2.2.2.2.2.2.1 (nm a) a.1 a.2.1 a.2.2.1 a.2.2.2.1 a.2.2.2.2.1 a.2.2.2.2.2.1 a.2.2.2.2.2.2.1 a.2.2.2.2.2.2.2.1 (nm a)=_
  simp only[zg_,lt_f,cond_false]) (nm a).length n 0 (by omega) hn
theorem ycs(n:Nat)(l:List Nd)(h:SzF 2000000 l)(hn:2000000<n):p18 n l l=some ((true,()),()):=by
 have hlen:=h.len;show zi3 n (zkq n n) l l=_;simp only[zi3,decide_true,Bool.not_true,cond_false]
 exact zcx (F:=fun k i=>zkq n k i l l) (r:=some ((true,()),())) l.length (fun k i hi=>by
  show zhg n (zkq n k) i l l=_;have hc:=ycr n (l.getD i d0) (h.nd _ (zbj hi d0)).nm (by have:=(h.nd _ (zbj hi d0)).nm;omega);simp only[d0]at hc;simp only[zhg,lt_t hi,ge_t,cond_true,zaa,q68,hc,Option.bind_some,Bool.not_true,cond_false]
  rw[za4 (by omega)]) (fun k=>by
  show zhg n (zkq n k) l.length l l=_
  simp only[zhg,lt_f,cond_false]) l.length n 0 (by omega) (by omega)
theorem u8_wf{x:Int}(h:(Lit.int .u8 x).wf=true):0≤x∧x<256:=by
 simp only[Lit.wf,Bool.and_eq_true,decide_eq_true_eq,IntKind.min,IntKind.max,IntKind.signed,IntKind.bits,Bool.false_eq_true,if_false]at h;omega
theorem ye4{xs:List Int}(h:WfT (.row 5 (.int .u8)) xs):∀ x∈xs,0≤x∧x<256:=fun x hx=>u8_wf (h.2 x hx)
end Go.Proofs.Ytbjgiioppmkpiaa.Rx.S
namespace Go.Proofs.Ytbjgiioppmkpiaa.Rx.S
open Go Go.Proofs.Ytbjgiioppmkpiaa.Rx Go.Proofs.Ytbjgiioppmkpiaa.Rx.Pu Go.Proofs.Ytbjgiioppmkpiaa.Rx.Fs
abbrev Vf:=List (List Nd)×Int
structure SzV(v:Vf):Prop where
 len:v.1.length≤1048576
 fs:∀ f∈v.1,SzF 1048576 f
theorem SzF.up{f:List Nd}(h:SzF 1048576 f):SzF 2000000 f :=
 ⟨by have:=h.len;omega,fun a ha=>⟨by have:=(h.nd a ha).tx;omega,by have:=(h.nd a ha).nm;omega,fun x hx=>by have:=(h.nd a ha).en x hx;omega⟩⟩
structure WfV(v:Vf):Prop where
 len:v.1.length≤9223372036854775807
 fs:∀ f∈v.1,WfF f
theorem memF{l:List (List Nd)}{i:Nat}{d:List Nd}(h:i<l.length):l.getD i d∈l:=by
 rw[List.getD_eq_getElem?_getD,List.getElem?_eq_getElem h];exact List.getElem_mem h
theorem yf3(n:Nat)(v:Vf)(h:SzV v)(hn:2000000<n):p80 n v=some ((v,()),()):=by
 obtain⟨l,mt⟩:=v;have hl:l.length≤1048576:=h.len;have hf:∀ f∈l,SzF 1048576 f:=h.fs
 have key:∀ (rest:List (List Nd)) (k:Nat) (done:List (List Nd)) (x:Int),done++rest=l→rest.length<k→zsb n k l (l.length:Int) (done.length:Int) x mt done=some (((l,mt),()),()):=by
  intro rest
  induction rest with
  |nil =>
   intro k done x he hk;obtain⟨k,rfl⟩:∃ m,k=m+1:=⟨k - 1,by omega⟩;rw[List.append_nil]at he;subst he;show zg8 n _ done (done.length:Int) (done.length:Int) x mt done=_;simp only[zg8,lt_f,cond_false]
  |cons f rest ih =>
   intro k done x he hk;simp only[List.length_cons]at hk;obtain⟨k,rfl⟩:∃ m,k=m+1:=⟨k - 1,by omega⟩;have hlt:done.length<l.length:=by rw[← he];simp
   have hg:l.getD done.length []=f:=by rw[← he];exact znu done f rest []
   have hc:=yn1 n f (hf f (by rw[← he];simp)).up hn;have h2:(done.length+[f].length)*24≤140737488355328:=by simp;omega
   show zg8 n _ l (l.length:Int) (done.length:Int) x mt done=_;simp only[zg8,lt_t hlt,ge_t,cond_true,zaa,hg,q62,hc,Option.bind_some,h2,decide_true];rw[za4 (by omega)];have:=ih k (done++[f]) x (by rw[← he];simp) (by omega);simpa using this
 exact key l n [] 0 rfl (by omega)
theorem yf1(n:Nat)(v:Vf)(h:SzV v)(hn:2000000<n):p85 n v=some ((v,()),()):=by
 obtain⟨l,mt⟩:=v;have hl:l.length≤1048576:=h.len;have hf:∀ f∈l,SzF 1048576 f:=h.fs
 have key:∀ (rest:List (List Nd)) (k:Nat) (done:List (List Nd)) (x y:Int),done++rest=l→rest.length<k→zsa n k (done.length:Int) l x y mt done=some (((l,mt),()),()):=by
  intro rest
  induction rest with
  |nil =>
   intro k done x y he hk;obtain⟨k,rfl⟩:∃ m,k=m+1:=⟨k - 1,by omega⟩;rw[List.append_nil]at he;subst he;show zg7 n _ (done.length:Int) done x y mt done=_;simp only[zg7,lt_f,cond_false]
  |cons f rest ih =>
   intro k done x y he hk;simp only[List.length_cons]at hk;obtain⟨k,rfl⟩:∃ m,k=m+1:=⟨k - 1,by omega⟩;have hlt:done.length<l.length:=by rw[← he];simp
   have hg:l.getD done.length []=f:=by rw[← he];exact znu done f rest []
   have hc:=yf5 n f (hf f (by rw[← he];simp)).up hn;have h2:(done.length+[f].length)*24≤140737488355328:=by simp;omega
   show zg7 n _ (done.length:Int) l x y mt done=_;simp only[zg7,lt_t hlt,ge_t,cond_true,zaa,hg,q67,hc,Option.bind_some,h2,decide_true];rw[za4 (by omega)];have:=ih k (done++[f]) x y (by rw[← he];simp) (by omega);simpa using this
 exact key l n [] mt 0 rfl (by omega)
def opI:List Nd→Nat→Int
 | [],_=>-1
 |a::r,k=>bif decide (0<op a) then (k:Int) else opI r (k+1)
def ze2(f:List Nd):Bool:=decide (0≤opI f 0)
theorem zqn:∀ (f:List Nd) (k:Nat),decide (0≤opI f k)=f.any (fun a=>decide (0<op a))
 | [],k=>rfl
 |a::r,k=>by
  by_cases h:0<op a
  ·have e:opI (a::r) k=k:=by simp only[opI];rw[decide_eq_true h];rfl
   rw[e,List.any_cons,decide_eq_true h];simp
  ·have e:opI (a::r) k=opI r (k+1):=by simp only[opI];rw[decide_eq_false h];rfl
   rw[e,List.any_cons,decide_eq_false h,Bool.false_or];exact zqn r (k+1)
theorem zkj(n:Nat)(f:List Nd)(hf:f.length≤2000000):∀ (d m k:Nat),k+d=f.length→d<m→zet n m f (f.length:Int) (k:Int)=some ((opI (f.drop k) k,()),())
 |_,0,_,_,h=>by omega
 |0,m+1,k,hk,hm=>by
  obtain rfl:k=f.length:=by omega
  show zct n (zet n m) f (f.length:Int) (f.length:Int)=_;simp only[zct,lt_f,cond_false,List.drop_length,opI]
 |d+1,m+1,k,hk,hm=>by
  have hkl:k<f.length:=by omega
  show zct n (zet n m) f (f.length:Int) (k:Int)=_;have ih:=zkj n f hf d m (k+1) (by omega) (by omega);rw[zb1 (d:=d0) hkl];have h130:∀ a:Nd,p130 n a=some ((decide (0<op a),()),()):=fun a=>rfl;simp only[zct,lt_t hkl,ge_t,cond_true,zaa,q130,h130,Option.bind_some];rw[za4 (by omega),ih];simp only[opI,op];cases decide (0<(f.getD k d0).2.2.2.2.2.1) <;> rfl
theorem yf2(n:Nat)(f:List Nd)(hf:f.length≤2000000)(hn:2000000<n):p81 n f=some ((ze2 f,()),()):=by
 have h:=zkj n f hf f.length n 0 (by omega) (by omega);have h1:ynr n f ()=some ((opI f 0,()),()):=h
 have h2:p129 n f ()=some ((ze2 f,()),()):=by
  show zfu n f ()=_;simp only[zfu,yij,h1,Option.bind_some,ze2]
 show zij n f=_;simp only[zij,q129,h2,Option.bind_some]
def sumO:List Nd→Int
 | []=>0
 |a::r=>op a+sumO r
theorem zp7:∀ (f:List Nd),(∀ a∈f,0≤op a∧op a≤99)→0≤sumO f∧sumO f≤99*f.length
 | [],_=>by simp[sumO]
 |a::r,h=>by
  have h1:=h a List.mem_cons_self;have h2:=zp7 r (fun b hb=>h b (List.mem_cons_of_mem _ hb));simp only[sumO,List.length_cons];omega
theorem zm1:∀ (f:List Nd),(∀ a∈f,0≤op a∧op a≤99)→(0<sumO f↔f.any (fun a=>decide (0<op a))=true)
 | [],_=>by simp[sumO]
 |a::r,h=>by
  have h1:=h a List.mem_cons_self;have h2:=zp7 r (fun b hb=>h b (List.mem_cons_of_mem _ hb));have ih:=zm1 r (fun b hb=>h b (List.mem_cons_of_mem _ hb));simp only[sumO,List.any_cons,Bool.or_eq_true,decide_eq_true_eq];constructor
  ·intro h3
   by_cases h4:0<op a
   ·exact .inl h4
   ·exact .inr (ih.1 (by omega))
  ·rintro (h3|h3)
   ·omega
   ·have:=ih.2 h3;omega
theorem zwj(n:Nat)(hn:2000000<n)(f:List Nd)(hl:f.length=10)(ho:∀ a∈f,0≤op a∧op a≤99):p131 n f=some ((sumO f,()),()):=by
 have key:∀ (rest:List Nd) (k:Nat) (done:List Nd) (s:Int),done++rest=f→rest.length<k→0≤s→s≤99*done.length→zne n k s (done.length:Int) f=some ((s+sumO rest,()),()):=by
  intro rest
  induction rest with
  |nil =>
   intro k done s he hk h0 h1;obtain⟨k,rfl⟩:∃ m,k=m+1:=⟨k - 1,by omega⟩;rw[List.append_nil]at he;subst he;show zem n _ s (done.length:Int) done=_;simp only[zem,lt_f,cond_false,sumO,Int.add_zero]
  |cons a rest ih =>
   intro k done s he hk h0 h1;simp only[List.length_cons]at hk;obtain⟨k,rfl⟩:∃ m,k=m+1:=⟨k - 1,by omega⟩;have hlt:done.length<f.length:=by rw[← he];simp
   have hg:f.getD done.length d0=a:=by rw[← he];exact znu done a rest d0
   have hoa:=ho a (by rw[← he];simp);have w1:IntKind.i64.wrap (s+op a)=s+op a:=wr (by omega) (by omega);simp only[op]at w1;show zem n _ s (done.length:Int) f=_;simp only[d0]at hg;simp only[zem,lt_t hlt,ge_t,cond_true,zaa,hg,w1];rw[za4 (by omega)];have:=ih k (done++[a]) (s+op a) (by rw[← he];simp) (by omega) (by omega) (by simp;omega);simp only[List.length_append,List.length_cons,List.length_nil,op,Nat.zero_add]at this;rw[this];simp only[sumO,op];congr 3;omega
 have:=key f n [] 0 rfl (by omega) (by omega) (by simp);rw[Int.zero_add]at this;exact this
theorem zku{f:List Nd}(h:okS f=true):∀ a∈f,0≤op a∧op a≤99:=by
 intro a ha;have hF:=(zkv f).1 h;obtain⟨i,hi,rfl⟩:=List.getElem_of_mem ha;have hi10:i<10:=by rw[← hF.len];exact hi
 have e:f.getD i d0=f[i]:=by rw[List.getD_eq_getElem?_getD,List.getElem?_eq_getElem hi];rfl
 rw[← e]
 by_cases hk:kd (f.getD i d0)=0
 ·have:=(hF.zero i hi10 hk).2.2.2.2.2.1;omega
 ·exact(hF.toW.base i hi10 hk).2.2.1
theorem zpe{f:List Nd}(h:okS f=true){i:Nat}(hi:i<10)(h0:0<i)(hk:kd (f.getD i d0)=2):lk (f.getD i d0)=1:=by
 rw[← yn9]at h;unfold okI at h;simp only[Bool.and_eq_true]at h;obtain⟨_,_,_,hc⟩:=h;have:=(zg2 f _ _ 10 0).1 hc i (by omega) (by omega);rcases okIv.1 this with h1|h1
 ·omega
 ·exact h1.2.2.1 hk (by omega)
noncomputable def zdn (v:Vf):Bool:=decide (((v.1.length:Nat):Int)=2)&&(okS (v.1.getD 0 [])&&(okS (v.1.getD 1 []) &&
 bif decide (v.2 = -1) then !ze2 (v.1.getD 1 []) else decide (1≤v.2∧v.2≤9)&&(decide (kd ((v.1.getD 0 []).getD v.2.toNat d0)=2)&&decide (0<op ((v.1.getD 0 []).getD v.2.toNat d0)))))
theorem zwa(n:Nat)(v:Vf)(h:SzV v)(hn:2000000<n):p29 n v=some ((zdn v,()),()):=by
 obtain⟨l,mt⟩:=v;have hfs:∀ f∈l,SzF 1048576 f:=h.fs;show zfh n (l,mt)=_;unfold zdn
 by_cases h2':((l.length:Nat):Int)=2
 ·have hlt1:1<l.length:=by omega
  have hlt0:0<l.length:=by omega
  have hl0:(0:Int)<((l.length:Nat):Int):=by omega
  have hl1:(1:Int)<((l.length:Nat):Int):=by omega
  have a0:=zwb n (by omega) (l.getD 0 []);have a1:=zwb n (by omega) (l.getD 1 []);have s1:=(hfs _ (memF (i:=1) (d:=[]) hlt1)).len;have b1:=yf2 n (l.getD 1 []) (by omega) hn;have t0:(0:Int).toNat=0:=rfl;have t1:(1:Int).toNat=1:=rfl;simp only[zfh,decide_eq_true h2',hl0,hl1,decide_true,Bool.not_true,cond_false,cond_true,t0,t1,q19,a0,a1,q81,b1,Option.bind_some,Bool.true_and,q61,zkn]
  cases ho0:okS (l.getD 0 []) with
  |false=>rfl
  |true =>
   cases ho1:okS (l.getD 1 []) with
   |false=>rfl
   |true =>
    have hlen:=zhp ho0;simp only[Bool.not_true,cond_false,Bool.true_and]
    by_cases hm:mt = -1
    ·simp only[hm,decide_true,cond_true]
    ·simp only[hm,decide_false,cond_false]
     by_cases hm2:1≤mt∧mt≤9
     ·have c0:(0:Int)≤mt:=by omega
      have c1:mt<(((l.getD 0 []).length:Nat):Int):=by rw[hlen];omega
      simp only[hm2,and_self,decide_true,cond_true,c0,c1,Bool.true_and,kd,op];cases decide (((l.getD 0 []).getD mt.toNat d0).1=2) <;> rfl
     ·simp only[hm2,decide_false,cond_false,Bool.false_and]
 ·simp only[zfh,h2',decide_false,Bool.not_false,cond_true,Bool.false_and]
theorem ynt(n:Nat)(v:Vf)(h:SzV v)(hn:2000000<n)(hn2:n<4611686018427387904):p83 n v=some ((zdn v,()),()):=by
 obtain⟨l,mt⟩:=v;have hfs:∀ f∈l,SzF 1048576 f:=h.fs;show zff n (l,mt)=_;unfold zdn
 by_cases h2':((l.length:Nat):Int)=2
 ·have hlt1:1<l.length:=by omega
  have hlt0:0<l.length:=by omega
  have hl0:(0:Int)<((l.length:Nat):Int):=by omega
  have hl1:(1:Int)<((l.length:Nat):Int):=by omega
  have a0:=yf7 n (l.getD 0 []) ((hfs _ (memF (i:=0) (d:=[]) hlt0)).sm (by omega) (by omega) hn2);have a1:=yf7 n (l.getD 1 []) ((hfs _ (memF (i:=1) (d:=[]) hlt1)).sm (by omega) (by omega) hn2);have t0:(0:Int).toNat=0:=rfl;have t1:(1:Int).toNat=1:=rfl;simp only[zff,decide_eq_true h2',hl0,hl1,decide_true,Bool.not_true,cond_false,cond_true,t0,t1,q63,a0,a1,Option.bind_some,Bool.true_and,q66,zkl]
  cases ho0:okS (l.getD 0 []) with
  |false=>rfl
  |true =>
   cases ho1:okS (l.getD 1 []) with
   |false=>rfl
   |true =>
    have hlen:=zhp ho0;have b1:=zwj n hn (l.getD 1 []) (zhp ho1) (zku ho1);have hsa:=zm1 _ (zku ho1);have hsl:=zp7 _ (zku ho1)
    have hany:ze2 (l.getD 1 []) = !decide (sumO (l.getD 1 [])=0):=by
     unfold ze2;rw[zqn]
     by_cases hz:sumO (l.getD 1 [])=0
     ·rw[decide_eq_true hz]
      cases hq:(l.getD 1 []).any (fun a=>decide (0<op a)) with
      |false=>rfl
      |true=>have:=hsa.2 hq;omega
     ·rw[decide_eq_false hz];exact hsa.1 (by omega)
    simp only[Bool.not_true,cond_false,Bool.true_and,q131,b1,Option.bind_some]
    by_cases hm:mt = -1
    ·subst hm;have c2:(-1:Int)≤-1∧(-1:Int)≤9:=by decide
     have c3:¬ (-1:Int)=0:=by decide
     have c4:(-1:Int)<0:=by decide
     simp only[c2,c3,c4,and_self,decide_true,decide_false,Bool.not_true,cond_true,cond_false,hany,Bool.not_not]
    ·simp only[hm,decide_false,cond_false]
     by_cases hm2:1≤mt∧mt≤9
     ·have c0:(0:Int)≤mt:=by omega
      have c1:mt<(((l.getD 0 []).length:Nat):Int):=by rw[hlen];omega
      have c2:-1≤mt∧mt≤9:=by omega
      have c3:¬ mt=0:=by omega
      have c4:¬ mt<0:=by omega
      simp only[hm2,c2,c3,c4,and_self,decide_true,decide_false,Bool.not_true,cond_true,cond_false,c0,c1,Bool.true_and,kd,op];cases decide (((l.getD 0 []).getD mt.toNat d0).1=2) <;> rfl
     ·simp only[hm2,decide_false,cond_false,Bool.false_and]
      by_cases c2:-1≤mt∧mt≤9
      ·have c3:mt=0:=by omega
       simp only[c2,c3,and_self,decide_true,Bool.not_true,cond_false,cond_true];simp
      ·simp only[c2,decide_false,Bool.not_false,cond_true]
 ·simp only[zff,h2',decide_false,Bool.not_false,cond_true,Bool.false_and]
structure VOk(v:Vf):Prop where
 len:v.1.length=2
 o0:okS (v.1.getD 0 [])=true
 o1:okS (v.1.getD 1 [])=true
 mt:¬ v.2<0→∃ i:Nat,v.2=(i:Int)∧1≤i∧i≤9∧kd ((v.1.getD 0 []).getD i d0)=2∧0<op ((v.1.getD 0 []).getD i d0)
 nm:v.2<0→v.2 = -1∧ze2 (v.1.getD 1 [])=false
theorem zjj{v:Vf}(h:zdn v=true):VOk v:=by
 unfold zdn at h;simp only[Bool.and_eq_true,decide_eq_true_eq]at h;obtain⟨h1,h2,h3,h4⟩:=h
 by_cases hm:v.2 = -1
 ·rw[decide_eq_true hm,cond_true]at h4;exact⟨by omega,h2,h3,fun h=>by omega,fun _=>⟨hm,by simpa using h4⟩⟩
 ·rw[decide_eq_false hm,cond_false]at h4;simp only[Bool.and_eq_true,decide_eq_true_eq]at h4;obtain⟨h5,h6,h7⟩:=h4;exact⟨by omega,h2,h3,fun _=>⟨v.2.toNat,by omega,by omega,by omega,h6,h7⟩,fun h=>by omega⟩
noncomputable def zcz(f:List Nd)(i:Nat)(n:Int):List Nd:=f.set i (opsA (f.getD i d0) n)
noncomputable def umR (v:Vf) (c:Cr):Vf × Int:=bif zdn v&&zec c then (bif !decide (c.1=0) then (v,5) else bif decide (v.2 < 0) then (v,2) else bif ze2 (v.1.getD 1 []) then (v,6) else
 ((v.1.set 0 (zcz (v.1.getD 0 []) v.2.toNat (op ((v.1.getD 0 []).getD v.2.toNat d0) - 1)),-1),0)) else (([],0),1)
noncomputable def moR (v:Vf) (c:Cr) (id:Int):Vf × Int:=bif zdn v&&(zec c&&hasB (v.1.getD 0 []) id) then (bif !decide (c.1=0) then (v,5) else bif decide (0≤v.2) then (v,6) else bif decide (id=0) then (v,6) else
 bif !decide (kd ((v.1.getD 0 []).getD id.toNat d0)=2) then (v,4) else bif decide (op ((v.1.getD 0 []).getD id.toNat d0)=99) then (v,6) else
 ((v.1.set 0 (zcz (v.1.getD 0 []) id.toNat (op ((v.1.getD 0 []).getD id.toNat d0)+1)),id),0)) else (([],0),1)
theorem ycu{f:List Nd}{i:Nat}(hi:i<f.length)(h:0≤op (f.getD i d0)∧op (f.getD i d0)≤99):zqm f (i:Int) true=some (zcz f i (op (f.getD i d0)+1)):=by
 have c2:(i:Int)<((f.length:Nat):Int):=by omega
 have w:IntKind.i64.wrap (op (f.getD i d0)+1)=op (f.getD i d0)+1:=wr (by omega) (by omega);unfold zqm;rw[ge_t,lt_t hi];simp only[cond_true,zaa];show some (f.set i (opsA (f.getD i d0) (IntKind.i64.wrap (op (f.getD i d0)+1))))=_;rw[w];rfl
theorem ycv{f:List Nd}{i:Nat}(hi:i<f.length)(h:0≤op (f.getD i d0)∧op (f.getD i d0)≤99)(hl:lk (f.getD i d0)=1):zqm f (i:Int) false=some (zcz f i (op (f.getD i d0) - 1)):=by
 have w:IntKind.i64.wrap (op (f.getD i d0) - 1)=op (f.getD i d0) - 1:=wr (by omega) (by omega)
 have hl':decide ((List.getD (α:=NdT) f ((i:Nat):Int).toNat NdZ).2.2.2.2.1=0)=false:=decide_eq_false (by
  have:lk (f.getD i d0)≠0:=by rw[hl];decide
  exact this)
 unfold zqm;rw[ge_t,lt_t hi,hl'];simp only[cond_true,cond_false,Bool.not_false,zaa];show some (f.set i (opsA (f.getD i d0) (IntKind.i64.wrap (op (f.getD i d0) - 1))))=_;rw[w];rfl
theorem zxe{f:List Nd}{i:Nat}(hi:i<f.length)(h:0<op (f.getD i d0)∧op (f.getD i d0)≤99)(hl:lk (f.getD i d0)=1):zml f (i:Int) false=some (0,zcz f i (op (f.getD i d0) - 1)):=by
 have w:IntKind.i64.wrap (op (f.getD i d0) - 1)=op (f.getD i d0) - 1:=wr (by omega) (by omega)
 have hl':decide ((List.getD (α:=NdT) f ((i:Nat):Int).toNat NdZ).2.2.2.2.1=0)=false:=decide_eq_false (by
  have:lk (f.getD i d0)≠0:=by rw[hl];decide
  exact this)
 have h0':decide ((List.getD (α:=NdT) f ((i:Nat):Int).toNat NdZ).2.2.2.2.2.1=0)=false:=decide_eq_false (by
  have:op (f.getD i d0)≠0:=by omega
  exact this)
 unfold zml;rw[ge_t,lt_t hi,hl',h0'];simp only[cond_true,cond_false,Bool.not_false,zaa];show some ((0:Int),f.set i (opsA (f.getD i d0) (IntKind.i64.wrap (op (f.getD i d0) - 1))))=_;rw[w];rfl
theorem VOk.op{v:Vf}(h:VOk v){i:Nat}(hi:i<10):i<(v.1.getD 0 []).length∧(0≤op ((v.1.getD 0 []).getD i d0)∧op ((v.1.getD 0 []).getD i d0)≤99):=by
 have hl:=zhp h.o0;have hi2:i<(v.1.getD 0 []).length:=by rw[hl];exact hi
 exact⟨hi2,zku h.o0 _ (zbj hi2 d0)⟩
theorem yn5(n:Nat)(v:Vf)(c:Cr)(h:SzV v)(hc:c.2.2.length≤2000000)(hn:2000000<n):p25 n v c=some (((umR v c).1,((umR v c).2,())),()):=by
 have a1:=zwa n v h hn;have a2:=yf4 n c hc hn;have a3:=yf3 n v h hn;have e1:(c.1,c.2.1,c.2.2)=c:=rfl;have e2:(v.1,v.2)=v:=rfl;have t0:(0:Int).toNat=0:=rfl;have t1:(1:Int).toNat=1:=rfl;show zi0 n v c=_;unfold umR;simp only[zi0,q29,e2,a1,Option.bind_some,q79,e1,a2]
 cases hv:zdn v with
 |false=>rfl
 |true =>
  cases zec c with
  |false=>rfl
  |true =>
   have hV:=zjj hv;have hl0:(0:Int)<((v.1.length:Nat):Int):=by rw[hV.len];decide
   have hl1:(1:Int)<((v.1.length:Nat):Int):=by rw[hV.len];decide
   have hlt1:1<v.1.length:=by rw[hV.len];decide
   have b1:=yf2 n (v.1.getD 1 []) (h.fs _ (memF hlt1)).up.len hn;simp only[Bool.not_true,cond_false,q80,a3,Option.bind_some,Bool.and_true,cond_true]
   cases decide (c.1=0) with
   |false=>rfl
   |true =>
    simp only[Bool.not_true,cond_false]
    by_cases hm:v.2<0
    ·rw[decide_eq_true hm];rfl
    ·rw[decide_eq_false hm];simp only[cond_false,hl0,hl1,decide_true,cond_true,t0,t1,q81,b1,Option.bind_some]
     cases ze2 (v.1.getD 1 []) with
     |true=>rfl
     |false =>
      obtain⟨i,hi,hi1,hi9,hk,ho⟩:=hV.mt hm;obtain⟨hil,hio⟩:=hV.op (i:=i) (by omega);have hlk:=zpe hV.o0 (i:=i) (by omega) (by omega) hk
      have d1:zgu n (v.1.getD 0 []) v.2 false=some ((),(zcz (v.1.getD 0 []) i (op ((v.1.getD 0 []).getD i d0) - 1),())):=by
       unfold zgu;rw[hi,ycv hil hio hlk];rfl
      have hit:v.2.toNat=i:=by rw[hi];rfl
      simp only[cond_false,zgq,d1,Option.bind_some,hit]
theorem yn4(n:Nat)(v:Vf)(c:Cr)(h:SzV v)(hc:c.2.2.length≤2000000)(hn:2000000<n)(hn2:n<4611686018427387904):p26 n v c=some (((umR v c).1,((umR v c).2,())),()):=by
 have a1:=ynt n v h hn hn2;have a2:=yn0 n c hc hn;have a3:=yf1 n v h hn;have e1:(c.1,c.2.1,c.2.2)=c:=rfl;have e2:(v.1,v.2)=v:=rfl;have t0:(0:Int).toNat=0:=rfl;have t1:(1:Int).toNat=1:=rfl;show ziz n v c=_;unfold umR;simp only[ziz,q83,e2,a1,Option.bind_some,q64,e1,a2]
 cases hv:zdn v with
 |false=>rfl
 |true =>
  cases zec c with
  |false=>rfl
  |true =>
   have hV:=zjj hv;have hl0:(0:Int)<((v.1.length:Nat):Int):=by rw[hV.len];decide
   have hl1:(1:Int)<((v.1.length:Nat):Int):=by rw[hV.len];decide
   have b1:=zwj n hn (v.1.getD 1 []) (zhp hV.o1) (zku hV.o1)
   have hany:decide (0<sumO (v.1.getD 1 []))=ze2 (v.1.getD 1 []):=by
    unfold ze2;rw[zqn];have hsa:=zm1 _ (zku hV.o1)
    by_cases hz:0<sumO (v.1.getD 1 [])
    ·rw[decide_eq_true hz,hsa.1 hz]
    ·rw[decide_eq_false hz]
     cases hq:(v.1.getD 1 []).any (fun a=>decide (0<op a)) with
     |false=>rfl
     |true=>exact absurd (hsa.2 hq) hz
   have key:p84 n v c=some (((bif !decide (c.1=0) then (v,(5:Int)) else bif decide (v.2 < 0) then (v,2) else bif ze2 (v.1.getD 1 []) then (v,6) else
     ((v.1.set 0 (zcz (v.1.getD 0 []) v.2.toNat (op ((v.1.getD 0 []).getD v.2.toNat d0) - 1)),-1),0)).1,((bif !decide (c.1=0) then (v,(5:Int)) else bif decide (v.2<0) then (v,2) else bif ze2 (v.1.getD 1 []) then (v,6) else
     ((v.1.set 0 (zcz (v.1.getD 0 []) v.2.toNat (op ((v.1.getD 0 []).getD v.2.toNat d0) - 1)),-1),0)).2,())),()):=by
    show zii n v c=_;simp only[zii]
    cases decide (c.1=0) with
    |false=>rfl
    |true =>
     simp only[Bool.not_true,cond_false]
     by_cases hm:v.2<0
     ·rw[decide_eq_true hm];rfl
     ·rw[decide_eq_false hm];simp only[cond_false,hl0,hl1,decide_true,cond_true,t0,t1,q131,b1,Option.bind_some,hany]
      cases ze2 (v.1.getD 1 []) with
      |true=>rfl
      |false =>
       obtain⟨i,hi,hi1,hi9,hk,ho⟩:=hV.mt hm;obtain⟨hil,hio⟩:=hV.op (i:=i) (by omega);have hlk:=zpe hV.o0 (i:=i) (by omega) (by omega) hk
       have d1:zgt n (v.1.getD 0 []) v.2 false=some ((0,()),(zcz (v.1.getD 0 []) i (op ((v.1.getD 0 []).getD i d0) - 1),())):=by
        unfold zgt;rw[hi,zxe hil ⟨ho,hio.2⟩ hlk];rfl
       have hit:v.2.toNat=i:=by rw[hi];rfl
       have hs:∀ g:List Nd,(0:Int)<(((v.1.set 0 g).length:Nat):Int):=fun g=>by rw[List.length_set];exact hl0
       simp only[cond_false,zgp,d1,Option.bind_some,hit,hs,decide_true,cond_true]
   simp only[Bool.not_true,cond_false,q85,a3,q84,e1,key,Option.bind_some,Bool.and_true,cond_true]
theorem set0(l:List (List Nd))(h:0<l.length):l.set 0 (l.getD 0 [])=l:=by
 cases l with
 |nil=>cases h
 |cons a r=>rfl
theorem yon{f:List Nd}{v:Int}(h:hasB f v=true):∃ i:Nat,v=(i:Int)∧i<10:=by
 unfold hasB at h;simp only[Bool.and_eq_true,decide_eq_true_eq,Bool.not_eq_true',decide_eq_false_iff_not]at h;exact⟨v.toNat,by omega,by omega⟩
theorem yn3(n:Nat)(v:Vf)(c:Cr)(id:Int)(h:SzV v)(hc:c.2.2.length≤2000000)(hn:2000000<n):p28 n v c id=some (((moR v c id).1,((moR v c id).2,())),()):=by
 have a1:=zwa n v h hn;have a2:=yf4 n c hc hn;have a3:=yf3 n v h hn;have e1:(c.1,c.2.1,c.2.2)=c:=rfl;have e2:(v.1,v.2)=v:=rfl;have t0:(0:Int).toNat=0:=rfl;show zix n v c id=_;unfold moR;simp only[zix,q29,e2,a1,Option.bind_some,q79,e1,a2]
 cases hv:zdn v with
 |false=>rfl
 |true =>
  cases zec c with
  |false=>rfl
  |true =>
   have hV:=zjj hv;have hl0:(0:Int)<((v.1.length:Nat):Int):=by rw[hV.len];decide
   have b1:=yns n (v.1.getD 0 []) (zhp hV.o0) id;simp only[Bool.not_true,cond_false,Bool.and_true,Bool.true_and,hl0,decide_true,cond_true,t0,q86,b1,Option.bind_some]
   cases hh:hasB (v.1.getD 0 []) id with
   |false=>rfl
   |true =>
    obtain⟨i,rfl,hi⟩:=yon hh;obtain⟨hil,hio⟩:=hV.op hi
    have d1:zgu n (v.1.getD 0 []) (i:Int) true=some ((),(zcz (v.1.getD 0 []) i (op ((v.1.getD 0 []).getD i d0)+1),())):=by
     unfold zgu;rw[ycu hil hio];rfl
    simp only[Bool.not_true,cond_false,q80,a3,Option.bind_some,cond_true,ge_t,lt_t hil,zaa,hl0,decide_true,zgq,d1,kd,op]
    cases decide (c.1=0) with
    |false=>rfl
    |true =>
    cases decide (0≤v.2) with
    |true=>rfl
    |false =>
    cases decide ((i:Int)=0) with
    |true=>rfl
    |false =>
    cases decide (((v.1.getD 0 []).getD i d0).1=2) with
    |false=>rfl
    |true=>cases decide (((v.1.getD 0 []).getD i d0).2.2.2.2.2.1=99) <;> rfl
theorem ycx{B:Nat}{f:List Nd}(h:SzF B f)(i:Nat)(n:Int):SzF B (zcz f i n):=by
 by_cases hi:i<f.length
 ·refine⟨by unfold zcz;rw[List.length_set];exact h.len,fun a ha=>?_⟩;rcases List.mem_or_eq_of_mem_set ha with ha|rfl
  ·exact h.nd a ha
  ·have hx:=h.nd _ (zbj hi d0);exact⟨hx.tx,hx.nm,hx.en⟩
 ·unfold zcz;rw[List.set_eq_of_length_le (by omega)];exact h
theorem yho{v:Vf}(h:SzV v)(h0:0<v.1.length)(i:Nat)(n m:Int):SzV (v.1.set 0 (zcz (v.1.getD 0 []) i n),m) :=
 ⟨by rw [List.length_set]; exact h.len,fun f hf=>by
  rcases List.mem_or_eq_of_mem_set hf with hf|rfl
  ·exact h.fs f hf
  ·exact ycx (h.fs _ (memF h0)) i n⟩
theorem zw1:SzV (([]:List (List Nd)),(0:Int)):=⟨by simp,fun f hf=>by cases hf⟩
theorem ymi{v:Vf}(h:SzV v)(c:Cr):SzV (umR v c).1:=by
 unfold umR
 cases hv:zdn v with
 |false=>exact zw1
 |true =>
 have hV:=zjj hv
 cases zec c with
 |false=>exact zw1
 |true =>
 cases decide (c.1=0) with
 |false=>exact h
 |true =>
 cases decide (v.2<0) with
 |true=>exact h
 |false =>
 cases ze2 (v.1.getD 1 []) with
 |true=>exact h
 |false=>exact yho h (by rw[hV.len];decide) _ _ _
end Go.Proofs.Ytbjgiioppmkpiaa.Rx.S
namespace Go.Proofs.Ytbjgiioppmkpiaa.Rx.Fs
open Go Go.Proofs.Ytbjgiioppmkpiaa.Rx Go.Proofs.Ytbjgiioppmkpiaa.Rx.Pu
def opTo(a:Nd)(n:Int):Nd:=(a.1,a.2.1,a.2.2.1,a.2.2.2.1,a.2.2.2.2.1,n,a.2.2.2.2.2.2.1,a.2.2.2.2.2.2.2.1,a.2.2.2.2.2.2.2.2)
theorem zng{f:List Nd}{i:Nat}(hi:i<f.length)(n:Int)(j:Nat):(f.set i (opTo (f.getD i d0) n)).getD j d0=if j=i then opTo (f.getD j d0) n else f.getD j d0:=by
 rw[List.getD_eq_getElem?_getD,List.getElem?_set]
 by_cases e:j=i
 ·subst e;rw[if_pos rfl,if_pos hi,if_pos rfl];rfl
 ·rw[if_neg (fun c=>e c.symm),if_neg e,← List.getD_eq_getElem?_getD]
theorem OkF.opTo{f:List Nd}(h:OkF f){i:Nat}(hi:i<10)(hk:kd (f.getD i d0)=2){n:Int}(hn:0≤n∧n≤99):OkF (f.set i (opTo (f.getD i d0) n)):=by
 have hi':i<f.length:=by rw[h.len];exact hi
 have g:=zng hi' n;have ek:∀ j,kd ((f.set i (Fs.opTo (f.getD i d0) n)).getD j d0)=kd (f.getD j d0):=fun j=>by rw[g];split <;> rfl
 have en:∀ j,nm ((f.set i (Fs.opTo (f.getD i d0) n)).getD j d0)=nm (f.getD j d0):=fun j=>by rw[g];split <;> rfl
 have el:∀ j,lk ((f.set i (Fs.opTo (f.getD i d0) n)).getD j d0)=lk (f.getD j d0):=fun j=>by rw[g];split <;> rfl
 have ei:ids (f.set i (Fs.opTo (f.getD i d0) n))=ids f:=funext fun j=>by unfold ids;rw[en]
 have ef:fold (f.set i (Fs.opTo (f.getD i d0) n))=fold f:=funext fun j=>by unfold fold;rw[ek]
 refine⟨by rw[List.length_set];exact h.len,by rw[ek];exact h.root,fun j hj hkj=>?_,fun j hj hkj=>?_,fun j k hj hkk=>?_,fun j hj hkj=>?_,fun j hj hkj=>?_,by rw[ei,ef];exact h.tree⟩
 ·rw[ek]at hkj;have hb:=h.base j hj hkj;rw[g];split
  ·rename_i e;rw[zpr]at hb ⊢;obtain⟨b1,b2,b3,b4,b5,b6,b7⟩:=hb;exact⟨b1,b2,b3,b4,hn,b6,b7⟩
  ·exact hb
 ·have hkj':=hkj;rw[ek]at hkj';have hz:=h.zero j hj hkj';rw[g];split
  ·rename_i e;subst e;rw[hk]at hkj';exact absurd hkj' (by decide)
  ·exact hz
 ·rw[en]at hkk ⊢;rw[ek];exact h.ents j k hj hkk
 ·rw[ek]at hkj;rw[el,ei];exact h.links j hj hkj
 ·rw[ek]at hkj;have hl:=h.live j hj hkj;rw[g];split
  ·rename_i e;subst e;rw[hk]at hkj;exact absurd hkj (by decide)
  ·exact hl
theorem zws{f:List Nd}{i:Nat}(hi:i<f.length)(n m:Int):(f.set i (opTo (f.getD i d0) n)).set i (opTo ((f.set i (opTo (f.getD i d0) n)).getD i d0) m)=f.set i (opTo (f.getD i d0) m):=by
 rw[List.set_set,zng hi,if_pos rfl];rfl
theorem zwr{f:List Nd}{i:Nat}(hi:i<f.length):f.set i (opTo (f.getD i d0) (op (f.getD i d0)))=f:=by
 apply List.ext_getElem?;intro j;rw[List.getElem?_set]
 by_cases e:i=j
 ·subst e;rw[if_pos rfl,if_pos hi,List.getElem?_eq_getElem hi,List.getD_eq_getElem?_getD,List.getElem?_eq_getElem hi];rfl
 ·rw[if_neg e]
end Go.Proofs.Ytbjgiioppmkpiaa.Rx.Fs
namespace Go.Proofs.Ytbjgiioppmkpiaa.Rx.S
open Go Go.Proofs.Ytbjgiioppmkpiaa.Rx Go.Proofs.Ytbjgiioppmkpiaa.Rx.Pu Go.Proofs.Ytbjgiioppmkpiaa.Rx.Fs
theorem zz0{v:Vf}{c:Cr}(hv:zdn v=true)(hc:zec c=true)(h:(umR v c).2=0):zdn (umR v c).1=true∧(umR v c).1.2 = -1∧moR (umR v c).1 c v.2=(v,0)∧c.1=0:=by
 have hV:=zjj hv;unfold umR at h ⊢;rw[hv,hc]at h ⊢;simp only[Bool.and_self,cond_true]at h ⊢
 cases h1:decide (c.1=0) with
 |false=>rw[h1]at h;simp at h
 |true =>
  rw[h1]at h;simp only[Bool.not_true,cond_false]at h ⊢
  cases h2:decide (v.2<0) with
  |true=>rw[h2]at h;simp at h
  |false =>
   rw[h2]at h;simp only[cond_false]at h ⊢
   cases h3:ze2 (v.1.getD 1 []) with
   |true=>rw[h3]at h;simp at h
   |false =>
    simp only[cond_false];have h1':=of_decide_eq_true h1;obtain⟨i,hi,hi1,hi9,hk,ho⟩:=hV.mt (of_decide_eq_false h2);obtain⟨l,mt⟩:=v;simp only at hi hk ho h3 ⊢;subst hi;have hlen:l.length=2:=hV.len;have hO:=(zkv (l.getD 0 [])).1 hV.o0;have hil:i<(l.getD 0 []).length:=by rw[hO.len];omega
    have ho2:0≤op ((l.getD 0 []).getD i d0)∧op ((l.getD 0 []).getD i d0)≤99:=zku hV.o0 _ (zbj hil d0)
    have e0:∀ g:List Nd,(l.set 0 g).getD 0 []=g:=fun g=>by
     rw[List.getD_eq_getElem?_getD,List.getElem?_set_self (by omega)];rfl
    have e1:∀ g:List Nd,(l.set 0 g).getD 1 []=l.getD 1 []:=fun g=>by
     rw[List.getD_eq_getElem?_getD,List.getElem?_set_ne (by omega),← List.getD_eq_getElem?_getD]
    have hok:okS (zcz (l.getD 0 []) i (op ((l.getD 0 []).getD i d0) - 1))=true:=(zkv _).2 (OkF.opTo hO (by omega) hk (by omega))
    have hg:(zcz (l.getD 0 []) i (op ((l.getD 0 []).getD i d0) - 1)).getD i d0=opTo ((l.getD 0 []).getD i d0) (op ((l.getD 0 []).getD i d0) - 1):=by
     have:=zng hil (op ((l.getD 0 []).getD i d0) - 1) i;rw[if_pos rfl]at this;exact this
    have hx:zdn (l.set 0 (zcz (l.getD 0 []) i (op ((l.getD 0 []).getD i d0) - 1)),-1)=true:=by
     unfold zdn;simp only[e0,e1,hok,hV.o1,List.length_set,hlen,h3];rfl
    have ti:((i:Nat):Int).toNat=i:=rfl;refine⟨hx,(by first|exact trivial|rfl),?_,h1'⟩
    have hb:hasB (zcz (l.getD 0 []) i (op ((l.getD 0 []).getD i d0) - 1)) (i:Int)=true:=by
     unfold hasB;rw[ti,hg,decide_eq_true (show (0:Int)≤(i:Int)∧(i:Int)≤9 by omega)]
     have:decide ((opTo ((l.getD 0 []).getD i d0) (op ((l.getD 0 []).getD i d0) - 1)).1=0)=false:=decide_eq_false (by
      show ¬ kd ((l.getD 0 []).getD i d0)=0
      rw[hk];decide)
     rw[this];rfl
    have k2:kd (opTo ((l.getD 0 []).getD i d0) (op ((l.getD 0 []).getD i d0) - 1))=2:=hk;have k3:op (opTo ((l.getD 0 []).getD i d0) (op ((l.getD 0 []).getD i d0) - 1))=op ((l.getD 0 []).getD i d0) - 1:=rfl;unfold moR;simp only[ti];rw[hx,hc];simp only[e0,hb,Bool.and_self,cond_true,h1,Bool.not_true,cond_false,hg,k2,k3,decide_true];rw[decide_eq_false (show ¬ (0:Int)≤-1 by decide),decide_eq_false (show ¬ (i:Int)=0 by omega),decide_eq_false (show ¬ op ((l.getD 0 []).getD i d0) - 1=99 by omega)];simp only[cond_false];rw[show op ((l.getD 0 []).getD i d0) - 1+1=op ((l.getD 0 []).getD i d0) by omega];have hb2:=zws hil (op ((l.getD 0 []).getD i d0) - 1) (op ((l.getD 0 []).getD i d0));rw[zwr hil]at hb2;have hb3:zcz (zcz (l.getD 0 []) i (op ((l.getD 0 []).getD i d0) - 1)) i (op ((l.getD 0 []).getD i d0))=l.getD 0 []:=hb2;rw[List.set_set,hb3];have hs:l.set 0 (l.getD 0 [])=l:=set0 l (by omega);rw[hs]
end Go.Proofs.Ytbjgiioppmkpiaa.Rx.S
namespace Go.Proofs.Ytbjgiioppmkpiaa.Rx.S
open Go Go.Proofs.Ytbjgiioppmkpiaa.Rx.Pu Go.Proofs.Ytbjgiioppmkpiaa.Rx.Fs
def ownAll(f:List Nd):Prop:=∀ j,j<10→kd (f.getD j d0)≠0→ownW (f.getD j d0)
theorem ownAll.set{f:List Nd}(h:ownAll f){i:Nat}{a:Nd}(ha:kd a≠0→ownW a):ownAll (f.set i a):=fun j hj hk=>by
 rw[zbh]at hk ⊢;split
 ·rename_i e;rw[if_pos e]at hk;exact ha hk
 ·rename_i e;rw[if_neg e]at hk;exact h j hj hk
theorem OkW.szS {f:List Nd} (h:OkW f):SzF 1048576 f:=⟨by rw [h.len]; omega,fun a ha=>by
 obtain⟨i,hi,rfl⟩:=List.mem_iff_getElem.1 ha;rw[← zb8 hi d0];rw[h.len]at hi;refine⟨?_,by have:=h.nlen i hi;omega,fun e he=>?_⟩
 ·by_cases hk:kd (f.getD i d0)=0
  ·have:=(h.zero i hi hk).2.2.2.2.2.2.2.1;omega
  ·obtain⟨b1,_,_,b4,b5⟩:=h.base i hi hk;have:kd (f.getD i d0)=1∨kd (f.getD i d0)=2:=by omega
   rcases this with h1|h1
   ·have:=(b4 h1).1;omega
   ·have:=(b5 h1).1;omega
 ·have:=((h.entsOk hi).all e he).1;simp only[nmOk,Bool.and_eq_true,decide_eq_true_eq]at this
  omega⟩
structure S10(f:List Nd):Prop where
 sz:SzF 1048576 f
 ln:f.length≤10
theorem zow(n:Nat)(hn:2000000<n){l:List Int}(hl:Bys l):∀ (m k:Nat) (pos:Int) (f:List Nd),k≤100→k<m→0≤pos∧pos+50*k<500000→OkW f →
  ∃ (f':List Nd) (pos':Int),zl7 n m (k:Int) l pos f=some ((f',()),((l,pos'),()))∧(pos≤pos'∧pos'≤pos+50*k+10)∧S10 f'
 |0,k,pos,f,_,h,_,_=>by omega
 |m+1,k,pos,f,hk,hm,hp,h=>by
  show ∃ (f':List Nd) (pos':Int),zjs n (zl7 n m) (k:Int) l pos f=_∧_
  cases k with
  |succ k =>
   obtain⟨f1,p1,h1,h2,h3⟩:=yiy n hn hl (pos:=pos) (by omega) h;have h0:decide ((0:Int)<((k+1:Nat):Int))=true:=decide_eq_true (by omega);have e1:IntKind.i64.wrap (((k+1:Nat):Int) - 1)=(k:Int):=(wr (by omega) (by omega)).trans (by omega);simp only[zjs,h0,cond_true,q113,h1,Option.bind_some,e1];obtain⟨f',pos',a1,a2,a3⟩:=zow n hn hl m k p1 f1 (by omega) (by omega) (by omega) h3;exact⟨f',pos',a1,by omega,a3⟩
  |zero =>
   have h0:decide ((0:Int)<((0:Nat):Int))=false:=rfl;obtain⟨v6,hv6,_,_⟩:=zav n hl (pos:=pos) (b:=24) (by omega) (by omega);obtain⟨a,ha,a0,a1⟩:=zav n hl (pos:=pos+1) (b:=5) (by omega) (by omega);obtain⟨b3,hb3,_,_⟩:=zav n hl (pos:=pos+1+1) (b:=3) (by omega) (by omega);obtain⟨b5,hb5,c0,c1⟩:=zav n hl (pos:=pos+1+1) (b:=5) (by omega) (by omega);obtain⟨b4,hb4,d0',d1⟩:=zav n hl (pos:=pos+1+1) (b:=4) (by omega) (by omega);obtain⟨s,ps,hs,hs1,hs2⟩:=ynx n hl (pos:=pos+1+1+1) (by omega);obtain⟨w,hw,_,_⟩:=zav n hl (pos:=ps) (b:=11) (by omega) (by omega);have hz:=OkW.szS h;have hlen:=h.len;obtain⟨ia,rfl⟩:=Int.eq_ofNat_of_zero_le a0;obtain⟨ib,rfl⟩:=Int.eq_ofNat_of_zero_le c0;have la:ia<f.length:=by omega
   have lb:ib<f.length:=by omega
   have hnb:=h.nlen ib (by omega);have e24:decide (((nm (f.getD ib d0)).length+[(s,w)].length)*(24:Nat)≤(140737488355328:Nat))=true:=decide_eq_true (by simp only[List.length_cons,List.length_nil];omega);have e4:decide (b4<(([(99:Int),100,-1,0].length:Nat):Int))=true:=decide_eq_true (by simp;omega);have e1:decide ((1:Int)≤(f.length:Int))=true:=decide_eq_true (by omega);have hga:=hz.getD la;have hgb:=hz.getD lb;simp only[nm,d0]at e24;simp only[zjs,h0,cond_false,q102,hv6,ha,hb3,hb5,hb4,hw,q71,hs,Option.bind_some,ge_t,lt_t la,lt_t lb,cond_true,zaa,e24,d0',decide_true,e4,e1]
   cases decide (v6=0) with
   |true=>exact⟨_,_,rfl,by omega,hz.set ⟨hga.tx,hga.nm,hga.en⟩,by rw[List.length_set];omega⟩
   |false =>
   cases decide (v6=1) with
   |true =>
    refine⟨_,_,rfl,by omega,hz.set ⟨hga.tx,?_,fun e he=>?_⟩,by rw[List.length_set];omega⟩
    ·show ((nm (f.getD ib d0))++[(s,w)]).length≤_;rw[List.length_append,List.length_singleton];omega
    ·have he':e∈(nm (f.getD ib d0))++[(s,w)]:=he;rcases List.mem_append.1 he' with he'|he'
     ·exact hgb.en e he'
     ·rw[List.mem_singleton.1 he'];show s.size≤_;omega
   |false =>
   cases decide (v6=2) with
   |true=>exact⟨_,_,rfl,by omega,hz.set ⟨hga.tx,hga.nm,hga.en⟩,by rw[List.length_set];omega⟩
   |false =>
   cases decide (v6=3) with
   |true =>
    refine⟨_,_,rfl,by omega,⟨?_,fun x hx=>hz.nd x (List.mem_of_mem_drop (List.mem_of_mem_take hx))⟩,?_⟩
    ·simp only[List.length_take,List.length_drop];omega
    ·simp only[List.length_take,List.length_drop];omega
   |false =>
   cases decide (v6=4) with
   |true=>exact⟨_,_,rfl,by omega,hz.set ⟨hga.tx,hga.nm,hga.en⟩,by rw[List.length_set];omega⟩
   |false=>exact⟨_,_,rfl,by omega,hz,by omega⟩
theorem yf_(n:Nat)(hn:2000000<n){l:List Int}(hl:Bys l){pos:Int}(hp:0≤pos∧pos<100000) :
  ∃ (f:List Nd) (pos':Int),p56 n (l,pos)=some ((f,()),((l,pos'),()))∧(pos≤pos'∧pos'≤pos+1000)∧S10 f:=by
 show ∃ (f:List Nd) (pos':Int),ziv n (zl7 n n) (l,pos)=_∧_;obtain⟨v0,hv0,g0,g1⟩:=zav n hl (pos:=pos) (b:=3) (by omega) (by omega);obtain⟨v1,hv1,g2,g3⟩:=zav n hl (pos:=pos+1) (b:=3) (by omega) (by omega);obtain⟨v2,hv2,g4,g5⟩:=zav n hl (pos:=pos+1+1) (b:=16) (by omega) (by omega);have e3:decide (v1<(([(493:Int),511,448].length:Nat):Int))=true:=decide_eq_true (by simp;omega);have hm:=md3 g2 g3;have h88:=yiz n v0 ([(493:Int),511,448].getD v1.toNat 0) (by omega) hm;obtain⟨k,rfl⟩:=Int.eq_ofNat_of_zero_le g4;simp only[ziv,q102,hv0,hv1,hv2,Option.bind_some,g2,decide_true,cond_true,e3,q112,h88];obtain⟨f,pos',a1,a2,a3⟩:=zow n hn hl n k (pos+1+1+1) _ (by omega) (by omega) (by omega) (yn_ v0 _ hm);exact⟨f,pos',a1,by omega,a3⟩
end Go.Proofs.Ytbjgiioppmkpiaa.Rx.S
namespace Go.Proofs.Ytbjgiioppmkpiaa.Rx.S
open Go Go.Proofs.Ytbjgiioppmkpiaa.Rx Go.Proofs.Ytbjgiioppmkpiaa.Rx.Pu Go.Proofs.Ytbjgiioppmkpiaa.Rx.Fs
theorem ymd{x:Nd}(h:SzN 1048576 x)(i:Nat):SzN 1048576 (zNd (opsA x 0) i):=by
 unfold zNd;split
 ·exact⟨by show (0:Nat)≤_;omega,by show (0:Nat)≤_;omega,fun e he=>by cases he⟩
 ·exact⟨h.tx,h.nm,h.en⟩
theorem S10.set{f:List Nd}(h:S10 f){i:Nat}{a:Nd}(ha:SzN 1048576 a):S10 (f.set i a):=⟨h.sz.set ha,by rw[List.length_set];exact h.ln⟩
theorem ygd(n:Nat){l:List Int}(hl:Bys l):∀ (m i:Nat) (pos:Int) (B:List Nd),S10 B→i≤10→11 - i≤m→0≤pos∧pos+(11 - (i:Int))<900000 →
  ∃ (B':List Nd) (pos':Int),lpA n m i (l,pos) B=some ((l,pos'),B')∧(pos≤pos'∧pos'≤pos+(11 - i))∧S10 B'
 |0,i,pos,B,_,h1,h2,_=>by omega
 |m+1,i,pos,B,h,h1,h2,hp=>by
  simp only[lpA];have hln:=h.ln
  by_cases hi:i<B.length
  ·rw[if_pos hi];obtain⟨v,hv,_,_⟩:=zav n hl (pos:=pos) (b:=6) (by omega) (by omega);have hv':q102 n ((l,pos),6,())=some ((v,()),((l,pos+1),())):=hv;rw[hv',Option.bind_some];simp only
   by_cases h0:0<v
   ·rw[if_pos h0];obtain⟨B',pos',e1,e2,e3⟩:=ygd n hl m (i+1) (pos+1) (B.set i (zNd (opsA (B.getD i NdZ) 0) i)) (h.set (ymd (h.sz.nd _ (zbj hi d0)) i)) (by omega) (by omega) (by omega);exact⟨B',pos',e1,by omega,e3⟩
   ·rw[if_neg h0];exact⟨B,pos+1,rfl,by omega,h⟩
  ·rw[if_neg hi];exact⟨B,pos,rfl,by omega,h⟩
structure V10(f:List (List Nd)):Prop where
 len:f.length=2
 fs:∀ x∈f,S10 x
theorem V10.sz{f:List (List Nd)}(h:V10 f)(mt:Int):SzV (f,mt):=⟨by show f.length≤_;rw[h.len];omega,fun x hx=>(h.fs x hx).sz⟩
theorem yi3(n:Nat)(f:List (List Nd))(mt:Int)(i:Nat)(h:V10 f)(hi:i<(f.getD 0 []).length)(hmt:mt<0)(hk:((f.getD 0 []).getD i NdZ).1=2) :
  ∃ (f':List (List Nd)) (mt' code:Int),p101 n (f,mt) (0,0,[]) (i:Int)=some (((f',mt'),(code,())),())∧V10 f':=by
 have hl0:(0:Int)<((f.length:Nat):Int):=by rw[h.len];decide
 have hlt0:0<f.length:=by rw[h.len];decide
 have hm0:=memF (d:=[]) hlt0;have t0:(0:Int).toNat=0:=rfl;have hs:∀ g:List Nd,(0:Int)<(((f.set 0 g).length:Nat):Int):=fun g=>by rw[List.length_set];exact hl0
 have hV:∀ g:List Nd,S10 g→V10 (f.set 0 g):=fun g hg=>⟨by rw [List.length_set]; exact h.len,fun x hx=>by
  rcases List.mem_or_eq_of_mem_set hx with hx|rfl
  ·exact h.fs x hx
  ·exact hg⟩
 have hd:∃ (c:Int) (g:List Nd),zgt n (f.getD 0 []) (i:Int) true=some ((c,()),(g,()))∧S10 g:=by
  unfold zgt zml;rw[ge_t,lt_t hi];simp only[cond_true,zaa]
  cases decide (99≤(List.getD (α:=NdT) (f.getD 0 []) i NdZ).2.2.2.2.2.1) with
  |true=>exact⟨_,_,rfl,h.fs _ hm0⟩
  |false =>
   have hx:=(h.fs _ hm0).sz.nd _ (zbj hi d0);exact⟨_,_,rfl,(h.fs _ hm0).set ⟨hx.tx,hx.nm,hx.en⟩⟩
 obtain⟨c,g,hd,hg⟩:=hd;have e0:decide ((0:Int)=0)=true:=rfl;have e1:decide ((0:Int)≤mt)=false:=decide_eq_false (by omega);have e2:decide (((f.getD 0 []).getD i ZN).1=2)=true:=decide_eq_true hk;show ∃ (f':List (List Nd)) (mt' code:Int),zf_ n (f,mt) (0,0,[]) (i:Int)=_∧_;simp only[zf_,e0,e1,ge_t,lt_t hi,zaa,hl0,decide_true,cond_true,cond_false,t0,Bool.not_true,e2,zgp,hd,Option.bind_some,hs]
 cases decide ((i:Int)=0) with
 |true=>exact⟨_,_,_,rfl,h⟩
 |false =>
  cases decide (c=0) with
  |true=>exact⟨_,_,_,rfl,hV g hg⟩
  |false=>exact⟨_,_,_,rfl,hV g hg⟩
theorem ygc(n:Nat)(hn:2000000<n){l:List Int}(hl:Bys l):∀ (m i:Nat) (pos:Int) (f:List (List Nd)) (mt:Int),V10 f→i≤10→11 - i≤m→0≤pos∧pos+(11 - (i:Int))<900000 →
  ∃ (f':List (List Nd)) (mt':Int) (pos':Int),lpB n m i (l,pos) f mt=some ((l,pos'),f',mt')∧(pos≤pos'∧pos'≤pos+(11 - i))∧V10 f'
 |0,i,pos,f,mt,_,h1,h2,_=>by omega
 |m+1,i,pos,f,mt,h,h1,h2,hp=>by
  have hln:(f.getD 0 []).length≤10:=(h.fs _ (memF (by rw[h.len];decide))).ln;simp only[lpB];rw[if_neg (by rw[h.len];decide)]
  by_cases hi:i<(f.getD 0 []).length
  ·rw[if_pos hi]
   have next:∀ (pos1:Int) (f1:List (List Nd)) (mt1:Int),V10 f1→(pos≤pos1∧pos1≤pos+1)→∃ (f':List (List Nd)) (mt':Int) (pos':Int),lpB n m (i+1) (l,pos1) f1 mt1=some ((l,pos'),f',mt')∧(pos≤pos'∧pos'≤pos+(11 - i))∧V10 f':=fun pos1 f1 mt1 h3 h4=>by
    obtain⟨f',mt',pos',e1,e2,e3⟩:=ygc n hn hl m (i+1) pos1 f1 mt1 h3 (by omega) (by omega) (by omega);exact⟨f',mt',pos',e1,by omega,e3⟩
   by_cases hk:mt<0∧((f.getD 0 []).getD i NdZ).1=2
   ·rw[if_pos hk];obtain⟨v,hv,_,_⟩:=zav n hl (pos:=pos) (b:=3) (by omega) (by omega);have hv':q102 n ((l,pos),3,())=some ((v,()),((l,pos+1),())):=hv;rw[hv',Option.bind_some];simp only
    by_cases h0:0<v
    ·rw[if_pos h0];have h85:q85 n ((f,mt),())=some (((f,mt),()),()):=yf1 n (f,mt) (h.sz mt) hn;rw[h85,Option.bind_some];simp only;obtain⟨f1,mt1,code,h101,hV1⟩:=yi3 n f mt i h hi hk.1 hk.2;have h101':q101 n ((f,mt),(0,0,[]),(i:Int),())=some (((f1,mt1),(code,())),()):=h101;rw[h101',Option.bind_some];simp only
     by_cases hc:code=0
     ·rw[if_pos hc];exact next _ _ _ hV1 (by omega)
     ·rw[if_neg hc];exact next _ _ _ h (by omega)
    ·rw[if_neg h0];exact next _ _ _ h (by omega)
   ·rw[if_neg hk];exact next _ _ _ h (by omega)
  ·rw[if_neg hi];exact⟨f,mt,pos,rfl,by omega,h⟩
theorem ynu(n:Nat)(hn:2000000<n){l:List Int}(hl:Bys l):∃ (v:Vf) (pos':Int),q78 n ((l,0),())=some ((v,()),((l,pos'),()))∧(0≤pos'∧pos'≤10000)∧SzV v:=by
 obtain⟨A,p1,h1,h2,hA⟩:=yf_ n hn hl (pos:=0) (by omega);obtain⟨B,p2,h3,h4,hB⟩:=yf_ n hn hl (pos:=p1) (by omega);have h1':q56 n ((l,0),())=some ((A,()),((l,p1),())):=h1;have h3':q56 n ((l,p1),())=some ((B,()),((l,p2),())):=h3;obtain⟨B',p3,h5,h6,hB'⟩:=ygd n hl n 0 p2 B hB (by omega) (by omega) (by omega)
 obtain ⟨f,mt,p4,h7,h8,hf⟩:=ygc n hn hl n 1 p3 [A,B'] (-1) ⟨rfl,fun x hx=>by
  simp only[List.mem_cons,List.not_mem_nil,or_false]at hx;rcases hx with rfl|rfl
  ·exact hA
  ·exact hB'⟩ (by omega) (by omega) (by omega)
 obtain⟨v,hv,_,_⟩:=zav n hl (pos:=p4) (b:=20) (by omega) (by omega);have hv':q102 n ((l,p4),20,())=some ((v,()),((l,p4+1),())):=hv;obtain⟨t,ht,t1,t2⟩:=zav n hl (pos:=p4+1) (b:=5) (by omega) (by omega);have ht':q102 n ((l,p4+1),5,())=some ((t,()),((l,p4+1+1),())):=ht;show ∃ (v:Vf) (pos':Int),(p78 n (l,0)).map (fun r=>(((r.1,()),(r.2,())):R78))=some ((v,()),((l,pos'),()))∧_;unfold p78;rw[h1',Option.bind_some];simp only;rw[h3',Option.bind_some];simp only;rw[h5,Option.bind_some];simp only;rw[h7,Option.bind_some];simp only;rw[hv',Option.bind_some];simp only
 by_cases h0:v=0
 ·rw[if_pos h0,ht',Option.bind_some];simp only;rw[if_pos ⟨t1,t2⟩];exact⟨_,_,rfl,by omega,hf.sz _⟩
 ·rw[if_neg h0];exact⟨_,_,rfl,by omega,hf.sz _⟩
theorem yn6(n:Nat)(hn:2000000<n){l:List Int}(hl:∀ x∈l,0≤x∧x<256):∃ (v:Vf) (c:Cr),p24 n l=some ((v,(c,())),())∧SzV v∧c.2.2.length≤4:=by
 show ∃ (v:Vf) (c:Cr),zi1 n l=_∧_;obtain⟨l',h1,hb⟩:=yn2 n hl;obtain⟨v,p1,h2,h3,h4⟩:=ynu n hn hb;obtain⟨c,p2,h5,h6,h7⟩:=yf9 n (by omega) hb (pos:=p1) (by omega);simp only[zi1,q55,h1,h2,q57,h5,Option.bind_some];exact⟨v,c,rfl,h4,h7⟩
theorem zsc(n:Nat)(v:Vf)(h:SzV v)(hn:2000000<n):p27 n v v=some ((true,()),()):=by
 obtain⟨l,mt⟩:=v;have hl:l.length≤1048576:=h.len;have hf:∀ f∈l,SzF 1048576 f:=h.fs;show ziy n (zkp n n) (l,mt) (l,mt)=_;simp only[ziy,decide_true,Bool.not_true,cond_false]
 exact zcx (F:=fun k i=>zkp n k i l mt l mt) (r:=some ((true,()),())) l.length (fun k i hi=>by
  show zhe n (zkp n k) i l mt l mt=_;have hc:=ycs n (l.getD i []) (hf _ (memF hi)).up hn;simp only[zhe,lt_t hi,ge_t,cond_true,zaa,q18,hc,Option.bind_some,Bool.not_true,cond_false]
  rw[za4 (by omega)]) (fun k=>by
  show zhe n (zkp n k) l.length l mt l mt=_
  simp only[zhe,lt_f,cond_false]) l.length n 0 (by omega) (by omega)
theorem zzz{v:Vf}{c:Cr}(h:(umR v c).2=0):zdn v=true∧zec c=true:=by
 unfold umR at h
 cases hv:zdn v with
 |false=>rw[hv]at h;simp at h
 |true =>
  cases hc:zec c with
  |false=>rw[hv,hc]at h;simp at h
  |true=>exact⟨rfl,rfl⟩
theorem law5(l:List Int)(hl:∀ x∈l,0≤x∧x<256):p5 3000000 l=some ((true,()),()):=by
 obtain⟨v,c,h0,hf,hc⟩:=yn6 3000000 (by omega) hl;have hR:SzV (umR v c).1:=ymi hf c;have t1:=yn5 3000000 v c hf (by omega) (by omega);have t2:=yn4 3000000 v c hf (by omega) (by omega) (by omega);have t3:=zsc 3000000 _ hR (by omega);have t4:=zsc 3000000 v hf (by omega);have t5:=yn3 3000000 (umR v c).1 c v.2 hR (by omega) (by omega);have t6:=zwa 3000000 (umR v c).1 hR (by omega);have ev:∀ v:Vf,(v.1,v.2)=v:=fun _=>rfl;have ec:(c.1,c.2.1,c.2.2)=c:=rfl;show zjr 3000000 l=_
 by_cases hlen:(1048576:Int)<(l.length:Int)
 ·simp only[zjr,hlen,decide_true,cond_true]
 simp only[zjr,hlen,decide_false,cond_false,q24,h0,Option.bind_some,q25,ev,ec,t1,q26,t2,q27,t3,decide_true,Bool.not_true,cond_true]
 cases hz:decide ((umR v c).2=0) with
 |false=>simp only[Bool.not_false,cond_true]
 |true =>
  have hz':=of_decide_eq_true hz;obtain⟨hv,hcr⟩:=zzz hz';obtain⟨r1,r2,r3,r4⟩:=zz0 hv hcr hz';rw[r3]at t5;simp only[Bool.not_true,cond_false,q28,t5,q29,t6,r1,r2,Option.bind_some,decide_true,cond_true,t4,r4,ev]
theorem pure5(l:List Int)(h:WfT (.row 5 (.int .u8)) l):∃ n o,q5 n (l,())=some ((true,()),o):=⟨3000000,(),law5 l (ye4 h)⟩
end Go.Proofs.Ytbjgiioppmkpiaa.Rx.S
