/- Plain laws of those functions, no program in sight: the law answers true on all data. No condition. -/
import Derived.Test.YtbjgiioppmkpiaaCP0
set_option linter.unusedVariables false
set_option linter.unusedSimpArgs false
namespace Go.Proofs.Ytbjgiioppmkpiaa.Rx.S
open Go Go.Proofs.Ytbjgiioppmkpiaa.Rx.Pu Go.Proofs.Ytbjgiioppmkpiaa.Rx.Fs
set_option linter.unusedVariables false
set_option linter.unusedSimpArgs false
theorem foldl_size:∀ (l:List Int) (r:ByteArray),(l.foldl (fun (r:ByteArray) (n:Int)=>r.push (UInt8.ofNat n.toNat)) r).size=r.size + l.length
 | [],r=>rfl
 | x :: l,r=>by
  rw [List.foldl_cons,foldl_size l,ByteArray.size_push,List.length_cons]; omega
theorem p112_eq (n:Nat) (o m:Int) (ho:0≤o∧o≤9) (hm:0≤m∧m≤511):p112 n o m=some ((((List.replicate 10 d0).set 0 (2,m,o,o,0,0,false,ByteArray.empty,[])),(true,())),()):=by
 show st112_top n o m=_
 simp only [st112_top,q118,p118_eq,q66,p66_eq,Option.bind_some,ho,hm,and_self,decide_true,Bool.not_true,cond_false]
 rfl
def abc:ByteArray:=ByteArray.mk #[(97:UInt8),(98:UInt8),(99:UInt8),(100:UInt8),(101:UInt8),(102:UInt8),(103:UInt8),(104:UInt8),(48:UInt8),(49:UInt8),(32:UInt8),(46:UInt8)]
theorem p145_L3_eq (n:Nat) {l:List Int} (hl:Bys l):∀ (m k:Nat) (pos:Int) (o:List Int),k≤1000→k < m→0≤pos∧pos + k < 900000→o.length≤1000 - k →
  ∃ (s:ByteArray) (pos':Int),p145_L3 n m (k:Int) l pos o=some ((s,()),((l,pos'),()))∧(pos≤pos'∧pos'≤pos + k)∧s.size≤o.length + k
 | 0,k,pos,o,_,h,_,_=>by omega
 | m + 1,k,pos,o,hk,hm,hp,ho=>by
  show ∃ (s:ByteArray) (pos':Int),st145_L3 n (p145_L3 n m) (k:Int) l pos o=_∧_
  cases k with
  | zero =>
   have h0:decide ((0:Int) < ((0:Nat):Int))=false:=rfl
   simp only [st145_L3,h0,cond_false]
   exact ⟨_,_,rfl,by omega,by rw [foldl_size]; show 0 + _≤_; omega⟩
  | succ k =>
   obtain ⟨v0,hv0,g0,g1⟩:=p102_eq n hl (pos:=pos) (b:=12) (by omega) (by omega)
   have h0:decide ((0:Int) < ((k + 1:Nat):Int))=true:=decide_eq_true (by omega)
   have e1:IntKind.i64.wrap (((k + 1:Nat):Int) - 1)=(k:Int):=(wr (by omega) (by omega)).trans (by omega)
   have e2:decide (v0 < ((abc.size:Nat):Int))=true:=decide_eq_true (by have:abc.size=12:=rfl; omega)
   have e3:∀ x:Int,decide ((o.length + [x].length) * (1:Nat)≤(140737488355328:Nat))=true:=fun x=>decide_eq_true (by simp; omega)
   unfold abc at e2
   simp only [st145_L3,h0,cond_true,q102,hv0,Option.bind_some,g0,decide_true,e2,e3,e1]
   obtain ⟨s,pos',h1,h2,h3⟩:=p145_L3_eq n hl m k (pos + 1) (o ++ [(((ByteArray.mk #[(97:UInt8),(98:UInt8),(99:UInt8),(100:UInt8),(101:UInt8),(102:UInt8),(103:UInt8),(104:UInt8),(48:UInt8),(49:UInt8),(32:UInt8),(46:UInt8)]).data.toList.getD (Int.toNat v0) (0:UInt8)).toNat:Int)]) (by omega) (by omega) (by omega) (by simp; omega)
   exact ⟨s,pos',h1,by omega,by simp at h3; omega⟩
theorem p145_eq (n:Nat) (hn:2000 < n) {l:List Int} (hl:Bys l) {pos:Int} (hp:0≤pos∧pos < 800000) (b:Nat) (hb:b≤900):∃ (s:ByteArray) (pos':Int),p145 n (l,pos) (b:Int)=some ((s,()),((l,pos'),()))∧(pos≤pos'∧pos'≤pos + b + 1)∧s.size≤b:=by
 show ∃ (s:ByteArray) (pos':Int),st145_top n (p145_L3 n n) (l,pos) (b:Int)=_∧_
 obtain ⟨v0,hv0,g0,g1⟩:=p102_eq n hl (pos:=pos) (b:=((b + 1:Nat):Int)) (by omega) (by omega)
 obtain ⟨k,rfl⟩:=Int.eq_ofNat_of_zero_le g0
 simp only [st145_top,q102,succ_wr (show b < 4611686018427387904 by omega),hv0,Option.bind_some]
 obtain ⟨s,pos',h1,h2,h3⟩:=p145_L3_eq n hl n k (pos + 1) [] (by omega) (by omega) (by omega) (by simp)
 exact ⟨s,pos',h1,by omega,by simp at h3; omega⟩
end Go.Proofs.Ytbjgiioppmkpiaa.Rx.S

namespace Go.Proofs.Ytbjgiioppmkpiaa.Rx.S
open Go Go.Proofs.Ytbjgiioppmkpiaa.Rx.Pu Go.Proofs.Ytbjgiioppmkpiaa.Rx.Fs
set_option linter.unusedVariables false
set_option linter.unusedSimpArgs false
noncomputable def writeD (f:List Nd) (i k:Nat) (s:ByteArray):List Nd × Int :=
 bif !decide ((f.getD i d0).1=1) then (f,4) else bif decide (40 < (k:Int)) then (f,7) else bif decide (40 < (k:Int) + (s.size:Int)) then (f,7) else bif decide (s.size=0) then (f,0) else
   (f.set i (setTx (f.getD i d0) (wtx (padB (k - (f.getD i d0).2.2.2.2.2.2.2.1.size) (f.getD i d0).2.2.2.2.2.2.2.1) k s)),0)
theorem p144_eq (n:Nat) (f:List Nd) (i k:Nat) (s:ByteArray) (h:OkW f) (hi10:i < 10) (hs:s.size≤1048576) (hk:k≤2000000000) (hn:2000000 < n):p144 n f (i:Int) (k:Int) s=some (((writeD f i k s).1,((writeD f i k s).2,())),()):=by
 have hi:i < f.length:=by rw [h.len]; exact hi10
 unfold writeD
 show st144_top n (p144_L8 n n) f (i:Int) (k:Int) s=_
 simp only [st144_top,lt_t hi,ge_t,cond_true,toNat_cast,empty_iff]
 by_cases hk1:(f.getD i d0).1=1
 ·have hk1':=hk1
  simp only [d0] at hk1'
  simp only [hk1,hk1',decide_true,Bool.not_true,cond_false]
  by_cases hk40:(40:Int) < (k:Int)
  ·simp only [hk40,decide_true,cond_true]
  ·have w:IntKind.i64.wrap ((k:Int) + (s.size:Int))=(k:Int) + (s.size:Int):=wr (by omega) (by omega)
   simp only [hk40,decide_false,cond_false,w]
   by_cases hk2:(40:Int) < (k:Int) + (s.size:Int)
   ·simp only [hk2,decide_true,cond_true]
   ·simp only [hk2,decide_false,cond_false]
    by_cases hs0:s.size=0
    ·simp only [hs0,decide_true,cond_true]
    ·simp only [hs0,decide_false,cond_false]
     have htx:((f.getD i d0).2.2.2.2.2.2.2.1).size≤40:=((h.base i hi10 (by rw [kd,hk1]; decide)).2.2.2.1 hk1).1
     exact p144_L8_eq n f i hi k s (by omega) (by omega) _ n _ (Nat.le_trans htx (by omega)) rfl (by omega)
 ·have hk1':=hk1
  simp only [d0] at hk1'
  simp only [hk1,hk1',decide_false,Bool.not_false,cond_true]
theorem wtx_size (t:ByteArray) (k:Nat) (s:ByteArray) (hk:k + s.size≤40) (ht:t.size≤40):(wtx t k s).size≤40:=by
 unfold wtx endB
 rw [ByteArray.size_append,ByteArray.size_append,ByteArray.size_extract]
 cases hd:decide (k + s.size < t.size) with
 | true =>
  have:=of_decide_eq_true hd
  simp only [cond_true,ByteArray.size_extract]
  omega
 | false =>
  simp only [cond_false]
  have:(ByteArray.mk #[]).size=0:=rfl
  omega
theorem writeD_ok {f:List Nd} (h:OkW f) {i:Nat} (hi:i < 10) (k:Nat) (s:ByteArray):OkW (writeD f i k s).1:=by
 unfold writeD
 by_cases hk1:(f.getD i d0).1=1
 ·rw [decide_eq_true hk1]
  simp only [Bool.not_true,cond_false]
  by_cases hk40:(40:Int) < (k:Int)
  ·rw [decide_eq_true hk40]; exact h
  ·rw [decide_eq_false hk40]
   by_cases hk2:(40:Int) < (k:Int) + (s.size:Int)
   ·rw [decide_eq_true hk2]; exact h
   ·rw [decide_eq_false hk2]
    by_cases hs0:s.size=0
    ·rw [decide_eq_true hs0]; exact h
    ·rw [decide_eq_false hs0]
     simp only [cond_false]
     obtain ⟨b1,b2,b3,b4,b5⟩:=h.base i hi (by rw [kd,hk1]; decide)
     have htx:=(b4 hk1).1
     have hsz:(wtx (padB (k - (f.getD i d0).2.2.2.2.2.2.2.1.size) (f.getD i d0).2.2.2.2.2.2.2.1) k s).size≤40:=by
      refine wtx_size _ _ _ (by omega) ?_
      rw [padB_size]
      simp only [tx] at htx
      omega
     refine h.same hi (by rw [kd,hk1]; decide) rfl rfl rfl ⟨b1,b2,b3,fun _=>⟨hsz,(b4 hk1).2⟩,fun h2=>?_⟩ (fun _=>h.live i hi hk1)
     have:(f.getD i d0).1=2:=h2
     omega
 ·rw [decide_eq_false hk1]; exact h
theorem openD_ok {f:List Nd} (h:OkW f) {i:Nat} (hi:i < 10) (hk:kd (f.getD i d0) ≠ 0) (more:Bool):OkW (openD f i more).1:=by
 unfold openD
 obtain ⟨b1,b2,b3,b4,b5⟩:=h.base i hi hk
 have ho:=h.opens i hi
 simp only [op] at ho b3
 cases more with
 | true =>
  simp only [cond_true]
  by_cases h9:99≤(f.getD i d0).2.2.2.2.2.1
  ·rw [decide_eq_true h9]; exact h
  ·rw [decide_eq_false h9]
   simp only [cond_false]
   refine h.same hi hk rfl rfl rfl ⟨b1,b2,?_,b4,b5⟩ (fun hk1 hv=>?_)
   ·show 0≤(f.getD i d0).2.2.2.2.2.1 + 1∧(f.getD i d0).2.2.2.2.2.1 + 1≤99; omega
   ·have:(f.getD i d0).2.2.2.2.2.1 + 1=0:=hv.2
    omega
 | false =>
  simp only [cond_false]
  by_cases h0:(f.getD i d0).2.2.2.2.2.1=0
  ·rw [decide_eq_true h0]; exact h
  ·rw [decide_eq_false h0]
   simp only [cond_false]
   unfold freeN freeB
   have hif:i < f.length:=by rw [h.len]; exact hi
   rw [getD_set_self hif]
   have e1:(setOp (f.getD i d0) ((f.getD i d0).2.2.2.2.2.1 - 1)).2.2.2.2.1=lk (f.getD i d0):=rfl
   have e2:(setOp (f.getD i d0) ((f.getD i d0).2.2.2.2.2.1 - 1)).2.2.2.2.2.1=(f.getD i d0).2.2.2.2.2.1 - 1:=rfl
   rw [e1,e2,List.set_set]
   cases hb:!decide (i=0)&&(decide (lk (f.getD i d0)=0)&&decide ((f.getD i d0).2.2.2.2.2.1 - 1=0)) with
   | true =>
    simp only [Bool.and_eq_true,Bool.not_eq_true',decide_eq_false_iff_not,decide_eq_true_eq] at hb
    simp only [cond_true]
    refine h.gone hi ?_ hb.2.1
    by_cases hk2:kd (f.getD i d0)=2
    ·have:=h.tr.un i hi (decide_eq_true hk2) hb.1
     have:=h.links i hi hk
     omega
    ·omega
   | false =>
    simp only [cond_false]
    refine h.same hi hk rfl rfl rfl ⟨b1,b2,?_,b4,b5⟩ (fun hk1 hv=>?_)
    ·show 0≤(f.getD i d0).2.2.2.2.2.1 - 1∧(f.getD i d0).2.2.2.2.2.1 - 1≤99; omega
    ·have hv1:lk (f.getD i d0)=0:=hv.1
     have hv2:(f.getD i d0).2.2.2.2.2.1 - 1=0:=hv.2
     have hi0:i ≠ 0:=fun e=>by
      subst e
      have:=h.root
      have hk1':kd (f.getD 0 d0)=1:=hk1
      omega
     rw [decide_eq_true hv1,decide_eq_true hv2,decide_eq_false hi0] at hb
     cases hb
end Go.Proofs.Ytbjgiioppmkpiaa.Rx.S

namespace Go.Proofs.Ytbjgiioppmkpiaa.Rx.S
open Go Go.Proofs.Ytbjgiioppmkpiaa.Rx.Pu Go.Proofs.Ytbjgiioppmkpiaa.Rx.Fs
set_option linter.unusedVariables false
set_option linter.unusedSimpArgs false
theorem OkW.szF {f:List Nd} (h:OkW f):SzF 2000000 f:=⟨by rw [h.len]; omega,fun a ha=>by
 obtain ⟨i,hi,rfl⟩:=List.mem_iff_getElem.1 ha
 rw [← getD_get hi d0]
 rw [h.len] at hi
 refine ⟨?_,by have:=h.nlen i hi; omega,fun e he=>?_⟩
 ·by_cases hk:kd (f.getD i d0)=0
  ·have:=(h.zero i hi hk).2.2.2.2.2.2.2.1; omega
  ·obtain ⟨b1,_,_,b4,b5⟩:=h.base i hi hk
   have:kd (f.getD i d0)=1∨kd (f.getD i d0)=2:=by omega
   rcases this with h1 | h1
   ·have:=(b4 h1).1; omega
   ·have:=(b5 h1).1; omega
 ·have:=((h.entsOk hi).all e he).1
  simp only [nmOk,Bool.and_eq_true,decide_eq_true_eq] at this
  omega⟩
def nl4:List ByteArray:=[ByteArray.mk #[(97:UInt8)],ByteArray.mk #[(98:UInt8)],ByteArray.mk #[(99:UInt8)],ByteArray.mk #[(97:UInt8),(98:UInt8)]]
theorem nl4_ok {v:Int} (h0:0≤v) (h1:v < 4):nmOk (nl4.getD v.toNat ByteArray.empty)=true:=by
 have:v=0∨v=1∨v=2∨v=3:=by omega
 rcases this with h | h | h | h <;> subst h <;> decide
theorem md3 {v:Int} (h0:0≤v) (h1:v < 3):0≤[(493:Int),511,448].getD v.toNat 0∧[(493:Int),511,448].getD v.toNat 0≤511:=by
 have:v=0∨v=1∨v=2:=by omega
 rcases this with h | h | h <;> subst h <;> decide
theorem p113_C10_eq (n:Nat) (hn:2000000 < n) {l:List Int} (hl:Bys l) {pos:Int} (hp:0≤pos∧pos < 700000) (i t:Nat) (hi:i < 10) (ht:t < 10) {f:List Nd} (h:OkW f) (hki:kd (f.getD i d0) ≠ 0) (u r:Int) (g:List Int) (hg:g.length≤4) :
  ∃ (f':List Nd) (pos':Int),p113_C10_0 n (i:Int) (t:Int) l pos u r f g=some ((f',()),((l,pos'),()))∧(pos≤pos'∧pos'≤pos + 20)∧OkW f':=by
 show ∃ (f':List Nd) (pos':Int),st113_C10_0 n (i:Int) (t:Int) l pos u r f g=_∧_
 have hif:i < f.length:=by rw [h.len]; exact hi
 obtain ⟨v7,hv7,a0,a1⟩:=p102_eq n hl (pos:=pos) (b:=4) (by omega) (by omega)
 obtain ⟨v8,hv8,b0,b1⟩:=p102_eq n hl (pos:=pos + 1) (b:=4) (by omega) (by omega)
 obtain ⟨v10,hv10,c0,c1⟩:=p102_eq n hl (pos:=pos + 1 + 1) (b:=10) (by omega) (by omega)
 obtain ⟨w2,hw2,d1,d2⟩:=p102_eq n hl (pos:=pos + 1 + 1 + 1) (b:=2) (by omega) (by omega)
 obtain ⟨w3,hw3,e1,e2⟩:=p102_eq n hl (pos:=pos + 1 + 1 + 1 + 1) (b:=3) (by omega) (by omega)
 obtain ⟨w4,hw4,g1,g2⟩:=p102_eq n hl (pos:=pos + 1 + 1 + 1) (b:=3) (by omega) (by omega)
 obtain ⟨w5,hw5,k1,k2⟩:=p102_eq n hl (pos:=pos + 1 + 1 + 1) (b:=20) (by omega) (by omega)
 obtain ⟨s,ps,hs,hs1,hs2⟩:=p145_eq n (by omega) hl (pos:=pos + 1 + 1 + 1 + 1) (by omega) 9 (by omega)
 have hcp:=p67_eq n f (OkW.szF h) hn
 have hB:=OkW.szB h
 have hlen4:∀ v:Int,v < 4→decide (v < ((nl4.length:Nat):Int))=true:=fun v hv=>decide_eq_true (by have:nl4.length=4:=rfl; omega)
 have q7:=hlen4 v7 a1
 have q8:=hlen4 v8 b1
 have n7:=nl4_ok a0 a1
 have n8:=nl4_ok b0 b1
 have m3:=md3 e1 e2
 have kw:IntKind.i64.wrap (1 + w2)=1 + w2:=wr (by omega) (by omega)
 let c:Cr:=(u,r,g)
 obtain ⟨k5,hk5⟩:=Int.eq_ofNat_of_zero_le k1
 have r67:=p106_eq n f c i (nl4.getD v7.toNat ByteArray.empty) (1 + w2) ([(493:Int),511,448].getD w3.toNat 0) hif hB (by show g.length≤_; omega) hn
 have hlk:=h.links
 have hlt:∀ y,y < 10→0≤lk (f.getD y d0)∧lk (f.getD y d0)≤1000:=fun y hy=>by
  by_cases hk:kd (f.getD y d0)=0
  ·have:=(h.zero y hy hk).2.2.2.2.1; omega
  ·have:=h.links y hy hk; have:=many_le (f:=f) (fun j hj=>h.nlen j hj) y; omega
 have r113:=p111_eq n f c t i (nl4.getD v7.toNat ByteArray.empty) hif (by rw [h.len]; exact ht) hB (by show g.length≤_; omega) (hlt t ht) hn
 have r114:=p77_eq n f c i (nl4.getD v7.toNat ByteArray.empty) h hi (by show g.length≤_; omega) hn
 have r115:=p110_eq n f c i (nl4.getD v7.toNat ByteArray.empty) t (nl4.getD v8.toNat ByteArray.empty) h hi ht (by show g.length≤_; omega) hn
 have ho:=h.opens i hi
 have r83:=p132_eq n f i hif ho.1 ho.2 (decide (0 < w4))
 have r81:=p144_eq n f i k5 s h hi (by omega) (by omega) hn
 have l3:∀ v:Int,v < 3→decide (v < (([(493:Int),511,448].length:Nat):Int))=true:=fun v hv=>decide_eq_true (by simp; omega)
 have l33:=l3 w3 e2
 have o67:=makeD_ok h (c:=c) hi (name:=nl4.getD v7.toNat ByteArray.empty) n7 (kind:=1 + w2) (mode:=[(493:Int),511,448].getD w3.toNat 0) (by omega) m3
 have o113:=linkD_ok h (c:=c) hi ht (name:=nl4.getD v7.toNat ByteArray.empty) n7
 have o114:=dropD_ok h (c:=c) hi (nl4.getD v7.toNat ByteArray.empty)
 have o115:=moveD_ok h (c:=c) hi ht (nl4.getD v7.toNat ByteArray.empty) (other:=nl4.getD v8.toNat ByteArray.empty) n8
 have o83:=openD_ok h hi hki (decide (0 < w4))
 have o81:=writeD_ok h hi k5 s
 unfold nl4 at q7 q8 r67 r113 r114 r115
 simp only [c] at r67 r113 r114 r115
 have hs':p145 n (l,pos + 1 + 1 + 1 + 1) 9=some ((s,()),((l,ps),())):=hs
 simp only [st113_C10_0,q102,hv7,hv8,hv10,hw2,hw3,hw4,hw5,Option.bind_some,a0,b0,e1,decide_true,cond_true,q7,q8,q67,hcp,l33,kw,q106,r67,q111,r113,q77,r114,q110,r115,q132,r83,q145,hs',q144,hk5,r81,ge_t,lt_t hif,toNat_cast]
 cases decide (v10=0) with
 | true=>exact ⟨_,_,rfl,by omega,o67⟩
 | false =>
 cases decide (v10=1) with
 | true=>exact ⟨_,_,rfl,by omega,o67⟩
 | false =>
 cases decide (v10=2) with
 | true=>exact ⟨_,_,rfl,by omega,o67⟩
 | false =>
 cases decide (v10=3) with
 | true=>exact ⟨_,_,rfl,by omega,o113⟩
 | false =>
 cases decide (v10=4) with
 | true=>exact ⟨_,_,rfl,by omega,o114⟩
 | false =>
 cases decide (v10=5) with
 | true=>exact ⟨_,_,rfl,by omega,o115⟩
 | false =>
 cases decide (v10=6) with
 | true=>exact ⟨_,_,rfl,by omega,o83⟩
 | false =>
 cases decide (v10=7) with
 | true =>
  by_cases hk1:kd (f.getD i d0)=1
  ·have hk1':=hk1
   simp only [kd,d0] at hk1'
   simp only [cond_false,cond_true,hk1',decide_true]
   refine ⟨_,_,rfl,by omega,?_⟩
   obtain ⟨b1,b2,b3,b4,b5⟩:=h.base i hi hki
   refine h.same (a:=(1,(f.getD i d0).2.1,(f.getD i d0).2.2.1,(f.getD i d0).2.2.2.1,(f.getD i d0).2.2.2.2.1,(f.getD i d0).2.2.2.2.2.1,decide (w2=0),(f.getD i d0).2.2.2.2.2.2.2)) hi hki hk1.symm rfl rfl ⟨by show (1:Int)≤1∧(1:Int)≤2; omega,b2,b3,fun _=>b4 hk1,fun h2=>?_⟩ (fun _=>h.live i hi hk1)
   exact absurd (show (1:Int)=2 from h2) (by decide)
  ·have hk1':=hk1
   simp only [kd,d0] at hk1'
   simp only [cond_false,cond_true,hk1',decide_false]
   exact ⟨_,_,rfl,by omega,h⟩
 | false=>exact ⟨_,_,rfl,by omega,o81⟩
end Go.Proofs.Ytbjgiioppmkpiaa.Rx.S

namespace Go.Proofs.Ytbjgiioppmkpiaa.Rx.S
open Go Go.Proofs.Ytbjgiioppmkpiaa.Rx.Pu Go.Proofs.Ytbjgiioppmkpiaa.Rx.Fs
set_option linter.unusedVariables false
set_option linter.unusedSimpArgs false
theorem hasB_kd {f:List Nd} {v:Int} (h:hasB f v=true):∃ i:Nat,v=(i:Int)∧i < 10∧kd (f.getD i d0) ≠ 0:=by
 unfold hasB at h
 simp only [Bool.and_eq_true,decide_eq_true_eq,Bool.not_eq_true',decide_eq_false_iff_not] at h
 exact ⟨v.toNat,by omega,by omega,h.2⟩
theorem p113_eq (n:Nat) (hn:2000000 < n) {l:List Int} (hl:Bys l) {pos:Int} (hp:0≤pos∧pos < 600000) {f:List Nd} (h:OkW f) :
  ∃ (f':List Nd) (pos':Int),p113 n (l,pos) f=some ((f',()),((l,pos'),()))∧(pos≤pos'∧pos'≤pos + 40)∧OkW f':=by
 show ∃ (f':List Nd) (pos':Int),st113_top n (p113_C10_0 n) (l,pos) f=_∧_
 obtain ⟨c,p1,hc,hp1,hg⟩:=p57_eq n (by omega) hl (pos:=pos) (by omega)
 obtain ⟨v1,hv1,_,_⟩:=p102_eq n hl (pos:=p1) (b:=2) (by omega) (by omega)
 obtain ⟨v2,hv2,_,_⟩:=p102_eq n hl (pos:=p1 + 1) (b:=6) (by omega) (by omega)
 obtain ⟨v3,hv3,_,_⟩:=p102_eq n hl (pos:=p1 + 1 + 1) (b:=6) (by omega) (by omega)
 have e2:=p65_eq n f h.len v2
 have e3:=p65_eq n f h.len v3
 have hr:=h.root
 have key:∀ (u:Int),∃ (f':List Nd) (pos':Int),(bif !hasB f v2 then (bif !hasB f v3 then p113_C10_0 n 0 0 l (p1 + 1 + 1 + 1) u c.2.1 f c.2.2 else p113_C10_0 n 0 v3 l (p1 + 1 + 1 + 1) u c.2.1 f c.2.2)
   else (bif !hasB f v3 then p113_C10_0 n v2 0 l (p1 + 1 + 1 + 1) u c.2.1 f c.2.2 else p113_C10_0 n v2 v3 l (p1 + 1 + 1 + 1) u c.2.1 f c.2.2))=some ((f',()),((l,pos'),()))∧(pos≤pos'∧pos'≤pos + 40)∧OkW f':=fun u=>by
  have go:∀ i t:Nat,i < 10→t < 10→kd (f.getD i d0) ≠ 0→∃ (f':List Nd) (pos':Int),p113_C10_0 n (i:Int) (t:Int) l (p1 + 1 + 1 + 1) u c.2.1 f c.2.2=some ((f',()),((l,pos'),()))∧(pos≤pos'∧pos'≤pos + 40)∧OkW f':=fun i t hi ht hk=>by
   obtain ⟨f',pos',a1,a2,a3⟩:=p113_C10_eq n hn hl (pos:=p1 + 1 + 1 + 1) (by omega) i t hi ht h hk u c.2.1 c.2.2 hg
   exact ⟨f',pos',a1,by omega,a3⟩
  cases h2:hasB f v2 with
  | true =>
   obtain ⟨i,rfl,hi,hk⟩:=hasB_kd h2
   cases h3:hasB f v3 with
   | true =>
    obtain ⟨t,rfl,ht,_⟩:=hasB_kd h3
    exact go i t hi ht hk
   | false=>exact go i 0 hi (by omega) hk
  | false =>
   cases h3:hasB f v3 with
   | true =>
    obtain ⟨t,rfl,ht,_⟩:=hasB_kd h3
    exact go 0 t (by omega) ht (by omega)
   | false=>exact go 0 0 (by omega) (by omega) (by omega)
 simp only [st113_top,q57,hc,q102,hv1,hv2,hv3,Option.bind_some,q65,e2,e3]
 cases decide (v1=0) with
 | true=>exact key 0
 | false=>exact key c.1
end Go.Proofs.Ytbjgiioppmkpiaa.Rx.S

namespace Go.Proofs.Ytbjgiioppmkpiaa.Rx.S
open Go Go.Proofs.Ytbjgiioppmkpiaa.Rx.Pu Go.Proofs.Ytbjgiioppmkpiaa.Rx.Fs
set_option linter.unusedVariables false
set_option linter.unusedSimpArgs false
theorem OkW.pw {f:List Nd} (h:OkW f) {i:Nat} (hi:i < 10):(nm (f.getD i d0)).Pairwise ltE:=(sorted_pw _).1 (fun k hk=>(h.ents i k hi hk).2.2.2)
end Go.Proofs.Ytbjgiioppmkpiaa.Rx.S

namespace Go.Proofs.Ytbjgiioppmkpiaa.Rx.S
open Go Go.Proofs.Ytbjgiioppmkpiaa.Rx.Pu Go.Proofs.Ytbjgiioppmkpiaa.Rx.Fs
set_option linter.unusedVariables false
set_option linter.unusedSimpArgs false
theorem new_ok (o m:Int) (hm:0≤m∧m≤511):OkW ((List.replicate 10 d0).set 0 (2,m,o,o,0,0,false,ByteArray.empty,[])):=by
 generalize hf:(List.replicate 10 d0).set 0 (2,m,o,o,0,0,false,ByteArray.empty,[])=f
 have hg:∀ j,f.getD j d0=if j=0 then (2,m,o,o,0,0,false,ByteArray.empty,[]) else d0:=fun j=>by
  rw [← hf,getD_set1 (by simp)]
  split
  ·rfl
  ·rw [List.getD_eq_getElem?_getD,List.getElem?_replicate]
   split <;> rfl
 have hn:∀ j,nm (f.getD j d0)=[]:=fun j=>by rw [hg]; split <;> rfl
 have hids:∀ j,ids f j=[]:=fun j=>by simp only [ids,hn]; rfl
 have hm0:∀ x,Gr.many (ids f) 10 x=0:=fun x=>by
  rw [Gr.many_congr (e:=fun _=>[]) (e':=ids f) (fun j _=>by rw [hids])]
  rfl
 refine OkW.of (by rw [← hf]; simp) (by rw [hg]; rfl) (fun j hj hk=>?_) (fun j hj hk=>?_) (fun j hj=>?_) (fun j hj hk=>?_) (fun j hj hk=>?_) (fun x hx hf' hx0=>?_) (fun x hx hf'=>?_)
 ·rw [hg] at hk ⊢
  split
  ·exact ⟨by show (1:Int)≤2∧(2:Int)≤2; omega,hm,by show (0:Int)≤0∧(0:Int)≤99; omega,fun _=>⟨Nat.zero_le _,rfl⟩,fun _=>⟨rfl,rfl,Nat.zero_le _⟩⟩
  ·rename_i e; rw [if_neg e] at hk; exact absurd rfl hk
 ·rw [hg] at hk ⊢
  split
  ·rename_i e; rw [if_pos e] at hk; cases hk
  ·exact zr_d0
 ·rw [hn]; exact ⟨fun e he=>(List.not_mem_nil he).elim,List.Pairwise.nil⟩
 ·rw [hm0,hg]
  split <;> rfl
 ·rw [hg] at hk
  split at hk <;> cases hk
 ·simp only [fold,hg,if_neg hx0] at hf'
  cases hf'
 ·by_cases e:x=0
  ·subst e; exact ⟨0,.root⟩
  ·simp only [fold,hg,if_neg e] at hf'
   cases hf'
theorem p71_eq (n:Nat) {l:List Int} (hl:Bys l) {pos:Int} (hp:0≤pos∧pos < 900000):∃ (s:ByteArray) (pos':Int),p71 n (l,pos)=some ((s,()),((l,pos'),()))∧(pos≤pos'∧pos'≤pos + 2)∧s.size≤10:=by
 show ∃ (s:ByteArray) (pos':Int),st71_top n (l,pos)=_∧_
 obtain ⟨v0,hv0,g0,g1⟩:=p102_eq n hl (pos:=pos) (b:=24) (by omega) (by omega)
 obtain ⟨v1,hv1,g2,g3⟩:=p102_eq n hl (pos:=pos + 1) (b:=5) (by omega) (by omega)
 obtain ⟨v2,hv2,g4,g5⟩:=p102_eq n hl (pos:=pos + 1) (b:=4) (by omega) (by omega)
 have e5:∀ (a b c d e:ByteArray),decide (v1 < (([a,b,c,d,e].length:Nat):Int))=true:=fun _ _ _ _ _=>decide_eq_true (by simp; omega)
 have e4:∀ (a b c d:ByteArray),decide (v2 < (([a,b,c,d].length:Nat):Int))=true:=fun _ _ _ _=>decide_eq_true (by simp; omega)
 simp only [st71_top,q102,hv0,hv1,hv2,Option.bind_some,g2,g4,decide_true,cond_true,e5,e4]
 cases decide (v0=0) with
 | true =>
  refine ⟨_,_,rfl,by omega,?_⟩
  have:v1=0∨v1=1∨v1=2∨v1=3∨v1=4:=by omega
  rcases this with h | h | h | h | h <;> subst h <;> decide
 | false =>
  refine ⟨_,_,rfl,by omega,?_⟩
  have:v2=0∨v2=1∨v2=2∨v2=3:=by omega
  rcases this with h | h | h | h <;> subst h <;> decide
theorem p56_L3_eq (n:Nat) (hn:2000000 < n) {l:List Int} (hl:Bys l):∀ (m k:Nat) (pos:Int) (f:List Nd),k≤100→k < m→0≤pos∧pos + 50 * k < 500000→OkW f →
  ∃ (f':List Nd) (pos':Int),p56_L3 n m (k:Int) l pos f=some ((f',()),((l,pos'),()))∧(pos≤pos'∧pos'≤pos + 50 * k + 10)∧SzF 2000000 f'
 | 0,k,pos,f,_,h,_,_=>by omega
 | m + 1,k,pos,f,hk,hm,hp,h=>by
  show ∃ (f':List Nd) (pos':Int),st56_L3 n (p56_L3 n m) (k:Int) l pos f=_∧_
  cases k with
  | succ k =>
   obtain ⟨f1,p1,h1,h2,h3⟩:=p113_eq n hn hl (pos:=pos) (by omega) h
   have h0:decide ((0:Int) < ((k + 1:Nat):Int))=true:=decide_eq_true (by omega)
   have e1:IntKind.i64.wrap (((k + 1:Nat):Int) - 1)=(k:Int):=(wr (by omega) (by omega)).trans (by omega)
   simp only [st56_L3,h0,cond_true,q113,h1,Option.bind_some,e1]
   obtain ⟨f',pos',a1,a2,a3⟩:=p56_L3_eq n hn hl m k p1 f1 (by omega) (by omega) (by omega) h3
   exact ⟨f',pos',a1,by omega,a3⟩
  | zero =>
   have h0:decide ((0:Int) < ((0:Nat):Int))=false:=rfl
   obtain ⟨v6,hv6,_,_⟩:=p102_eq n hl (pos:=pos) (b:=24) (by omega) (by omega)
   obtain ⟨a,ha,a0,a1⟩:=p102_eq n hl (pos:=pos + 1) (b:=5) (by omega) (by omega)
   obtain ⟨b3,hb3,_,_⟩:=p102_eq n hl (pos:=pos + 1 + 1) (b:=3) (by omega) (by omega)
   obtain ⟨b5,hb5,c0,c1⟩:=p102_eq n hl (pos:=pos + 1 + 1) (b:=5) (by omega) (by omega)
   obtain ⟨b4,hb4,d0',d1⟩:=p102_eq n hl (pos:=pos + 1 + 1) (b:=4) (by omega) (by omega)
   obtain ⟨s,ps,hs,hs1,hs2⟩:=p71_eq n hl (pos:=pos + 1 + 1 + 1) (by omega)
   obtain ⟨w,hw,_,_⟩:=p102_eq n hl (pos:=ps) (b:=11) (by omega) (by omega)
   have hz:=OkW.szF h
   have hlen:=h.len
   obtain ⟨ia,rfl⟩:=Int.eq_ofNat_of_zero_le a0
   obtain ⟨ib,rfl⟩:=Int.eq_ofNat_of_zero_le c0
   have la:ia < f.length:=by omega
   have lb:ib < f.length:=by omega
   have hnb:=h.nlen ib (by omega)
   have e24:decide (((nm (f.getD ib d0)).length + [(s,w)].length) * (24:Nat)≤(140737488355328:Nat))=true:=decide_eq_true (by simp only [List.length_cons,List.length_nil]; omega)
   have e4:decide (b4 < (([(99:Int),100,-1,0].length:Nat):Int))=true:=decide_eq_true (by simp; omega)
   have e1:decide ((1:Int)≤(f.length:Int))=true:=decide_eq_true (by omega)
   have hga:=hz.getD la
   have hgb:=hz.getD lb
   simp only [nm,d0] at e24
   simp only [st56_L3,h0,cond_false,q102,hv6,ha,hb3,hb5,hb4,hw,q71,hs,Option.bind_some,ge_t,lt_t la,lt_t lb,cond_true,toNat_cast,e24,d0',decide_true,e4,e1]
   cases decide (v6=0) with
   | true=>exact ⟨_,_,rfl,by omega,hz.set ⟨hga.tx,hga.nm,hga.en⟩⟩
   | false =>
   cases decide (v6=1) with
   | true =>
    refine ⟨_,_,rfl,by omega,hz.set ⟨hga.tx,?_,fun e he=>?_⟩⟩
    ·show ((nm (f.getD ib d0)) ++ [(s,w)]).length≤_
     rw [List.length_append,List.length_singleton]; omega
    ·have he':e ∈ (nm (f.getD ib d0)) ++ [(s,w)]:=he
     rcases List.mem_append.1 he' with he' | he'
     ·exact hgb.en e he'
     ·rw [List.mem_singleton.1 he']; show s.size≤_; omega
   | false =>
   cases decide (v6=2) with
   | true=>exact ⟨_,_,rfl,by omega,hz.set ⟨hga.tx,hga.nm,hga.en⟩⟩
   | false =>
   cases decide (v6=3) with
   | true =>
    refine ⟨_,_,rfl,by omega,⟨?_,fun x hx=>hz.nd x (List.mem_of_mem_drop (List.mem_of_mem_take hx))⟩⟩
    simp only [List.length_take,List.length_drop]; omega
   | false =>
   cases decide (v6=4) with
   | true=>exact ⟨_,_,rfl,by omega,hz.set ⟨hga.tx,hga.nm,hga.en⟩⟩
   | false=>exact ⟨_,_,rfl,by omega,hz⟩
theorem p56_eq (n:Nat) (hn:2000000 < n) {l:List Int} (hl:Bys l) {pos:Int} (hp:0≤pos∧pos < 100000) :
  ∃ (f:List Nd) (pos':Int),p56 n (l,pos)=some ((f,()),((l,pos'),()))∧(pos≤pos'∧pos'≤pos + 1000)∧SzF 2000000 f:=by
 show ∃ (f:List Nd) (pos':Int),st56_top n (p56_L3 n n) (l,pos)=_∧_
 obtain ⟨v0,hv0,g0,g1⟩:=p102_eq n hl (pos:=pos) (b:=3) (by omega) (by omega)
 obtain ⟨v1,hv1,g2,g3⟩:=p102_eq n hl (pos:=pos + 1) (b:=3) (by omega) (by omega)
 obtain ⟨v2,hv2,g4,g5⟩:=p102_eq n hl (pos:=pos + 1 + 1) (b:=16) (by omega) (by omega)
 have e3:decide (v1 < (([(493:Int),511,448].length:Nat):Int))=true:=decide_eq_true (by simp; omega)
 have hm:=md3 g2 g3
 have h88:=p112_eq n v0 ([(493:Int),511,448].getD v1.toNat 0) (by omega) hm
 obtain ⟨k,rfl⟩:=Int.eq_ofNat_of_zero_le g4
 simp only [st56_top,q102,hv0,hv1,hv2,Option.bind_some,g2,decide_true,cond_true,e3,q112,h88]
 obtain ⟨f,pos',a1,a2,a3⟩:=p56_L3_eq n hn hl n k (pos + 1 + 1 + 1) _ (by omega) (by omega) (by omega) (new_ok v0 _ hm)
 exact ⟨f,pos',a1,by omega,a3⟩
end Go.Proofs.Ytbjgiioppmkpiaa.Rx.S

namespace Go.Proofs.Ytbjgiioppmkpiaa.Rx.S
open Go Go.Proofs.Ytbjgiioppmkpiaa.Rx.Pu Go.Proofs.Ytbjgiioppmkpiaa.Rx.Fs
set_option linter.unusedVariables false
set_option linter.unusedSimpArgs false
theorem bb (b:Bool):(!(b == b))=false:=by cases b <;> rfl
theorem bb2 (b:Bool):(!b == b)=false:=by cases b <;> rfl
theorem p68_refl (n:Nat) (a:Nd) (hl:(nm a).length≤2000000) (hn:(nm a).length < n):p68 n a a=some ((true,()),()):=by
 show st68_top n (p68_L4 n n) a a=_
 simp only [st68_top,decide_true,Bool.not_true,cond_false,beq_self_eq_true,bb2]
 exact round_loop (F:=fun k i=>p68_L4 n k i a.1 a.2.1 a.2.2.1 a.2.2.2.1 a.2.2.2.2.1 a.2.2.2.2.2.1 a.2.2.2.2.2.2.1 a.2.2.2.2.2.2.2.1 (nm a) a.1 a.2.1 a.2.2.1 a.2.2.2.1 a.2.2.2.2.1 a.2.2.2.2.2.1 a.2.2.2.2.2.2.1 a.2.2.2.2.2.2.2.1 (nm a)) (r:=some ((true,()),())) (nm a).length (fun k i hi=>by
  show st68_L4 n (p68_L4 n k) i a.1 a.2.1 a.2.2.1 a.2.2.2.1 a.2.2.2.2.1 a.2.2.2.2.2.1 a.2.2.2.2.2.2.1 a.2.2.2.2.2.2.2.1 (nm a) a.1 a.2.1 a.2.2.1 a.2.2.2.1 a.2.2.2.2.1 a.2.2.2.2.2.1 a.2.2.2.2.2.2.1 a.2.2.2.2.2.2.2.1 (nm a)=_
  simp only [st68_L4,lt_t hi,ge_t,cond_true,toNat_cast,beq_self_eq_true,decide_true,Bool.and_true,Bool.not_true,cond_false]
  rw [wr_succ (by omega)]) (fun k=>by
  show st68_L4 n (p68_L4 n k) ((nm a).length:Int) a.1 a.2.1 a.2.2.1 a.2.2.2.1 a.2.2.2.2.1 a.2.2.2.2.2.1 a.2.2.2.2.2.2.1 a.2.2.2.2.2.2.2.1 (nm a) a.1 a.2.1 a.2.2.1 a.2.2.2.1 a.2.2.2.2.1 a.2.2.2.2.2.1 a.2.2.2.2.2.2.1 a.2.2.2.2.2.2.2.1 (nm a)=_
  simp only [st68_L4,lt_f,cond_false]) (nm a).length n 0 (by omega) hn
theorem p18_refl (n:Nat) (l:List Nd) (h:SzF 2000000 l) (hn:2000000 < n):p18 n l l=some ((true,()),()):=by
 have hlen:=h.len
 show st18_top n (p18_L4 n n) l l=_
 simp only [st18_top,decide_true,Bool.not_true,cond_false]
 exact round_loop (F:=fun k i=>p18_L4 n k i l l) (r:=some ((true,()),())) l.length (fun k i hi=>by
  show st18_L4 n (p18_L4 n k) i l l=_
  have hc:=p68_refl n (l.getD i d0) (h.nd _ (getD_mem hi d0)).nm (by have:=(h.nd _ (getD_mem hi d0)).nm; omega)
  simp only [d0] at hc
  simp only [st18_L4,lt_t hi,ge_t,cond_true,toNat_cast,q68,hc,Option.bind_some,Bool.not_true,cond_false]
  rw [wr_succ (by omega)]) (fun k=>by
  show st18_L4 n (p18_L4 n k) l.length l l=_
  simp only [st18_L4,lt_f,cond_false]) l.length n 0 (by omega) (by omega)
end Go.Proofs.Ytbjgiioppmkpiaa.Rx.S

namespace Go.Proofs.Ytbjgiioppmkpiaa.Rx.S
open Go Go.Proofs.Ytbjgiioppmkpiaa.Rx.Pu Go.Proofs.Ytbjgiioppmkpiaa.Rx.Fs
set_option linter.unusedVariables false
set_option linter.unusedSimpArgs false
theorem own_set {f:List Nd} (h:OkF f) {i:Nat} (hi:i < 10) {a:Nd} (ho:kd a ≠ 0→ownW a):∀ j,j < 10→kd ((f.set i a).getD j d0) ≠ 0→ownW ((f.set i a).getD j d0):=fun j hj hk=>by
 rw [getD_set1 (by rw [h.len]; exact hi)] at hk ⊢
 split
 ·rename_i e; rw [if_pos e] at hk; exact ho hk
 ·rename_i e; rw [if_neg e] at hk; exact ((okW_iff f).1 h).2 j hj hk
end Go.Proofs.Ytbjgiioppmkpiaa.Rx.S

namespace Go.Proofs.Ytbjgiioppmkpiaa.Rx.S
open Go Go.Proofs.Ytbjgiioppmkpiaa.Rx.Pu Go.Proofs.Ytbjgiioppmkpiaa.Rx.Fs
set_option linter.unusedVariables false
theorem u8_wf {x:Int} (h:(Lit.int .u8 x).wf=true):0≤x∧x < 256:=by
 simp only [Lit.wf,Bool.and_eq_true,decide_eq_true_eq,IntKind.min,IntKind.max,IntKind.signed,IntKind.bits,Bool.false_eq_true,if_false] at h
 omega
theorem bytes_wf {xs:List Int} (h:WfT (.row 5 (.int .u8)) xs):∀ x ∈ xs,0≤x∧x < 256:=fun x hx=>u8_wf (h.2 x hx)
end Go.Proofs.Ytbjgiioppmkpiaa.Rx.S

namespace Go.Proofs.Ytbjgiioppmkpiaa.Rx.S
open Go Go.Proofs.Ytbjgiioppmkpiaa.Rx.Pu Go.Proofs.Ytbjgiioppmkpiaa.Rx.Fs Go.Proofs.Ytbjgiioppmkpiaa.Rx.Gr
set_option linter.unusedVariables false
set_option linter.unusedSimpArgs false
theorem p59_eq (n:Nat) {l:List Int} (hl:Bys l) {pos:Int} (hp:0≤pos∧pos < 900000):∃ (v pos':Int),p59 n (l,pos)=some ((v,()),((l,pos'),()))∧(pos≤pos'∧pos'≤pos + 5):=by
 show ∃ (v pos':Int),st59_top n (l,pos)=_∧_
 obtain ⟨v0,hv0,g0,g1⟩:=p102_eq n hl (pos:=pos) (b:=20) (by omega) (by omega)
 obtain ⟨v1,hv1,g2,g3⟩:=p102_eq n hl (pos:=pos + 1) (b:=3) (by omega) (by omega)
 obtain ⟨v2,hv2,_,_⟩:=p102_eq n hl (pos:=pos + 1) (b:=8) (by omega) (by omega)
 obtain ⟨v3,hv3,_,_⟩:=p102_eq n hl (pos:=pos + 1 + 1) (b:=64) (by omega) (by omega)
 obtain ⟨v4,hv4,_,_⟩:=p102_eq n hl (pos:=pos + 1 + 1 + 1) (b:=8) (by omega) (by omega)
 obtain ⟨v5,hv5,g4,g5⟩:=p102_eq n hl (pos:=pos + 1 + 1 + 1 + 1) (b:=7) (by omega) (by omega)
 by_cases hz:v0=0
 ·have e3:decide (v1 < (([(-1:Int),512,511].length:Nat):Int))=true:=decide_eq_true (show v1 < ((3:Nat):Int) by omega)
  simp only [st59_top,q102,hv0,hv1,Option.bind_some,hz,decide_true,cond_true,decide_eq_true g2,e3]
  exact ⟨_,_,rfl,by omega,by omega⟩
 ·have e3:∀ a b c d e f g:Int,decide (v5 < (([a,b,c,d,e,f,g].length:Nat):Int))=true:=fun a b c d e f g=>decide_eq_true (show v5 < ((7:Nat):Int) by omega)
  simp only [st59_top,q102,hv0,hv2,hv3,hv4,hv5,Option.bind_some,hz,decide_false,cond_false,decide_eq_true g4,e3,cond_true]
  exact ⟨_,_,rfl,by omega,by omega⟩
end Go.Proofs.Ytbjgiioppmkpiaa.Rx.S

namespace Go.Proofs.Ytbjgiioppmkpiaa.Rx.S
open Go Go.Proofs.Ytbjgiioppmkpiaa.Rx.Pu Go.Proofs.Ytbjgiioppmkpiaa.Rx.Fs
set_option linter.unusedVariables false
set_option linter.unusedSimpArgs false
end Go.Proofs.Ytbjgiioppmkpiaa.Rx.S
namespace Go.Proofs.Ytbjgiioppmkpiaa.Rx.Fs
open Go Go.Proofs.Ytbjgiioppmkpiaa.Rx Go.Proofs.Ytbjgiioppmkpiaa.Rx.S Go.Proofs.Ytbjgiioppmkpiaa.Rx.Pu
theorem OkF.setS {f:List Nd} (h:OkF f) {i:Nat} (hi:i < 10) {a:Nd} (hk0:kd (f.getD i d0) ≠ 0) (hk:kd a=kd (f.getD i d0)) (hl:lk a=lk (f.getD i d0)) (hn:nm a=nm (f.getD i d0)) (hb:baseW a) (hp:op a=op (f.getD i d0)) (ho:ownW a):OkF (f.set i a) :=
 (okW_iff _).2 ⟨h.toW.same hi hk0 hk hl hn hb (fun h1=>by rw [hl,hp]; exact h.live i hi (hk ▸ h1)),own_set h hi (fun _=>ho)⟩
end Go.Proofs.Ytbjgiioppmkpiaa.Rx.Fs
namespace Go.Proofs.Ytbjgiioppmkpiaa.Rx.S
open Go Go.Proofs.Ytbjgiioppmkpiaa.Rx.Pu Go.Proofs.Ytbjgiioppmkpiaa.Rx.Fs
end Go.Proofs.Ytbjgiioppmkpiaa.Rx.S

namespace Go.Proofs.Ytbjgiioppmkpiaa.Rx.S
open Go Go.Proofs.Ytbjgiioppmkpiaa.Rx.Pu Go.Proofs.Ytbjgiioppmkpiaa.Rx.Fs
set_option linter.unusedVariables false
set_option linter.unusedSimpArgs false
theorem p15_eq (n:Nat) (hn:2000000 < n) {l:List Int} (hl:∀ x ∈ l,0≤x∧x < 256):∃ (f:List Nd) (c:Cr) (id v:Int),p15 n l=some ((f,(c,(id,(v,())))),())∧SzF 2000000 f∧c.2.2.length≤4:=by
 show ∃ (f:List Nd) (c:Cr) (id v:Int),st15_top n l=_∧_
 obtain ⟨l',h1,hb⟩:=p55_eq n hl
 obtain ⟨f,p1,h2,h3,h4⟩:=p56_eq n hn hb (pos:=0) (by omega)
 obtain ⟨c,p2,h5,h6,h7⟩:=p57_eq n (by omega) hb (pos:=p1) (by omega)
 obtain ⟨id,p3,h8,h9,_⟩:=p58_eq n hb (pos:=p2) (by omega)
 obtain ⟨v,p4,h10,_⟩:=p59_eq n hb (pos:=p3) (by omega)
 simp only [st15_top,q55,h1,q56,h2,q57,h5,q58,h8,q59,h10,Option.bind_some]
 exact ⟨_,_,_,_,rfl,h4,h7⟩
noncomputable def modeA (a:Nd) (m:Int):Nd:=(a.1,m,a.2.2)
theorem law3 (l:List Int) (hl:∀ x ∈ l,0≤x∧x < 256):p3 3000000 l=some ((true,()),()):=by
 obtain ⟨f,c,id,v,h0,hf,hc⟩:=p15_eq 3000000 (by omega) hl
 have hR:=modeR_sz hf c id v
 have t1:=p16_eq 3000000 f c id v hf (by omega) (by omega)
 have t2:=p17_eq 3000000 f c id v hf (by omega) (by omega) (by omega)
 have t3:=p18_refl 3000000 _ hR (by omega)
 have t4:=p18_refl 3000000 f hf (by omega)
 have t5:=p19_eq' 3000000 (by omega) (modeR f c id v).1
 have ec:(c.1,c.2.1,c.2.2)=c:=rfl
 show st3_top 3000000 l=_
 by_cases hlen:(1048576:Int) < (l.length:Int)
 ·simp only [st3_top,hlen,decide_true,cond_true]
 simp only [st3_top,hlen,decide_false,cond_false,q15,h0,Option.bind_some,q16,ec,t1,q17,t2,q18,t3,decide_true,Bool.not_true,Bool.not_not,cond_true]
 cases hok:okS f&&(credOk c&&(hasB f id&&decide (0≤v∧v≤511))) with
 | false =>
  have e:modeR f c id v=([],1):=by unfold modeR; rw [hok]; rfl
  simp only [e,decide_true,cond_true]
 | true =>
  have hok':=hok
  simp only [Bool.and_eq_true,decide_eq_true_eq] at hok
  obtain ⟨i,rfl,hi,hk⟩:=hasB_kd hok.2.2.1
  have hF:=(okS_iff f).1 hok.1
  have hif:i < f.length:=by rw [hF.len]; exact hi
  cases hm:!decide (c.1=0)&&!decide (c.1=(f.getD i d0).2.2.1) with
  | true =>
   have e:modeR f c (i:Int) v=(f,5):=by unfold modeR; rw [hok']; simp only [toNat_cast,hm,cond_true]
   simp only [e,t4,Option.bind_some]
   simp
  | false =>
   have e:modeR f c (i:Int) v=(f.set i (modeA (f.getD i d0) v),0):=by unfold modeR; rw [hok']; simp only [toNat_cast,hm,cond_true,cond_false]; rfl
   obtain ⟨b1,b2,b3,b4,b5⟩:=hF.toW.base i hi hk
   have hO:OkF (f.set i (modeA (f.getD i d0) v)):=hF.setS hi hk rfl rfl rfl ⟨b1,hok.2.2.2,b3,b4,b5⟩ rfl (((okW_iff f).1 hF).2 i hi hk)
   rw [e] at t5
   have hm':decide (c.1=0)=true∨decide (c.1=(f.getD i d0).2.2.1)=true:=by
    cases h1:decide (c.1=0) with
    | true=>exact .inl rfl
    | false =>
     rw [h1] at hm
     simp only [Bool.not_false,Bool.true_and,Bool.not_eq_false'] at hm
     exact .inr hm
   simp only [d0] at hm'
   simp only [e,q19,t5,(okS_iff _).2 hO,Option.bind_some,List.length_set,lt_t hif,ge_t,cond_true,toNat_cast,getD_set_self hif,d0]
   rcases hm' with h | h
   ·simp only [h,modeA,cond_true]
    simp
   ·simp only [h,modeA]
    cases decide (c.1=0) <;> simp
theorem pure3 (l:List Int) (h:WfT (.row 5 (.int .u8)) l):∃ n o,q3 n (l,())=some ((true,()),o):=⟨3000000,(),law3 l (bytes_wf h)⟩
def ownAll (f:List Nd):Prop:=∀ j,j < 10→kd (f.getD j d0) ≠ 0→ownW (f.getD j d0)
theorem ownAll.set {f:List Nd} (h:ownAll f) {i:Nat} {a:Nd} (ha:kd a ≠ 0→ownW a):ownAll (f.set i a):=fun j hj hk=>by
 rw [getD_set_i] at hk ⊢
 split
 ·rename_i e; rw [if_pos e] at hk; exact ha hk
 ·rename_i e; rw [if_neg e] at hk; exact h j hj hk
end Go.Proofs.Ytbjgiioppmkpiaa.Rx.S

