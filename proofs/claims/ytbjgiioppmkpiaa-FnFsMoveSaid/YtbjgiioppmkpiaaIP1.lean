/- Plain laws of those functions, no program in sight: the law answers true on all data. No condition. -/
import Derived.Test.YtbjgiioppmkpiaaIP0
set_option linter.unusedVariables false
set_option linter.unusedSimpArgs false
namespace Go.Proofs.Ytbjgiioppmkpiaa.Rx.S
open Go Go.Proofs.Ytbjgiioppmkpiaa.Rx.Pu Go.Proofs.Ytbjgiioppmkpiaa.Rx.Fs
set_option linter.unusedVariables false
set_option linter.unusedSimpArgs false
def Bys (l:List Int):Prop:=(∀ x ∈ l,0≤x∧x < 256)∧l.length≤2000
theorem Bys.get {l:List Int} (h:Bys l) (i:Nat):0≤l.getD i 0∧l.getD i 0 < 256:=by
 rw [List.getD_eq_getElem?_getD]
 cases hi:l[i]? with
 | none=>simp
 | some x=>exact h.1 x (List.mem_of_getElem? hi)
theorem p102_eq (n:Nat) {l:List Int} (hl:Bys l) {pos b:Int} (hp:0≤pos∧pos < 1000000) (hb:1≤b) :
  ∃ v:Int,p102 n (l,pos) b=some ((v,()),((l,pos + 1),()))∧0≤v∧v < b:=by
 have e1:IntKind.i64.wrap (pos + 1)=pos + 1:=wr (by omega) (by omega)
 have e2:IntKind.i64.wrap (pos + 1 - 1)=pos:=(wr (x:=pos + 1 - 1) (by omega) (by omega)).trans (by omega)
 have e3:IntKind.i64.wrap (pos * 7)=pos * 7:=wr (by omega) (by omega)
 have e4:IntKind.i64.wrap (pos * 7 + 3)=pos * 7 + 3:=wr (by omega) (by omega)
 have e5:IntKind.i64.wrap (pos * 29)=pos * 29:=wr (by omega) (by omega)
 have hlen:=hl.2
 show ∃ v:Int,st102_top n (l,pos) b=_∧_
 have hb1:¬ b < 1:=by omega
 have hb2:¬ b=0:=by omega
 simp only [st102_top,e1,e2,e3,e4,e5,hb1,hb2,decide_false,cond_false,Bool.not_false,cond_true]
 by_cases h0:(l.length:Int)=0
 ·simp only [h0,decide_true,cond_true]
  exact ⟨0,rfl,by omega,by omega⟩
 ·have hl1:(1:Int)≤l.length:=by omega
  simp only [h0,decide_false,cond_false,Bool.not_false,cond_true]
  by_cases h1:pos < (l.length:Int)
  ·have hp0:(0:Int)≤pos:=hp.1
   simp only [h1,hp0,decide_true,cond_true]
   have hg:=hl.get pos.toNat
   rw [wr (by omega) (by omega)]
   exact ⟨_,rfl,tmod_range hg.1 hb⟩
  ·simp only [h1,decide_false,cond_false]
   have t1:=tmod_range (a:=pos) (b:=l.length) hp.1 hl1
   have t2:=tmod_range (a:=pos * 7 + 3) (b:=l.length) (by omega) hl1
   have t3:=tdiv_range (a:=pos) (b:=l.length) hp.1 hl1
   simp only [t1.1,t1.2,t2.1,t2.2,decide_true,cond_true]
   have g1:=hl.get (pos.tmod l.length).toNat
   have g2:=hl.get ((pos * 7 + 3).tmod l.length).toNat
   generalize l.getD (pos.tmod l.length).toNat 0=y1 at *
   generalize l.getD ((pos * 7 + 3).tmod l.length).toNat 0=y2 at *
   generalize pos.tdiv l.length=q at *
   have w1:IntKind.i64.wrap y1=y1:=wr (by omega) (by omega)
   have w2:IntKind.i64.wrap (y1 * 131)=y1 * 131:=wr (by omega) (by omega)
   have w3:IntKind.i64.wrap y2=y2:=wr (by omega) (by omega)
   have w4:IntKind.i64.wrap (y2 * 1117)=y2 * 1117:=wr (by omega) (by omega)
   have w5:IntKind.i64.wrap (y1 * 131 + y2 * 1117)=y1 * 131 + y2 * 1117:=wr (by omega) (by omega)
   have w6:IntKind.i64.wrap (y1 * 131 + y2 * 1117 + pos * 29)=y1 * 131 + y2 * 1117 + pos * 29:=wr (by omega) (by omega)
   have w7:IntKind.i64.wrap q=q:=wr (by omega) (by omega)
   have w8:IntKind.i64.wrap (q * 53)=q * 53:=wr (by omega) (by omega)
   have w9:IntKind.i64.wrap (y1 * 131 + y2 * 1117 + pos * 29 + q * 53)=y1 * 131 + y2 * 1117 + pos * 29 + q * 53:=wr (by omega) (by omega)
   simp only [w1,w2,w3,w4,w5,w6,w7,w8,w9]
   have hS:0≤y1 * 131 + y2 * 1117 + pos * 29 + q * 53∧y1 * 131 + y2 * 1117 + pos * 29 + q * 53 < 1000000000000:=by omega
   generalize y1 * 131 + y2 * 1117 + pos * 29 + q * 53=S at *
   have hd:=tdiv_range (a:=S) (b:=64) hS.1 (by omega)
   have w10:IntKind.i64.wrap (S.tdiv 64)=S.tdiv 64:=wr (by omega) (by omega)
   simp only [w10]
   exact ⟨_,rfl,tmod_range (xor_small hS.1 (by omega) hd.1 (by omega)) hb⟩
theorem p55_eq (n:Nat) {l:List Int} (hl:∀ x ∈ l,0≤x∧x < 256):∃ l',p55 n l=some (((l',0),()),())∧Bys l':=by
 show ∃ l',st55_top n l=_∧_
 simp only [st55_top]
 by_cases h:(2000:Int) < l.length
 ·have h2:(2000:Int)≤l.length:=by omega
  simp only [h,h2,decide_true,cond_true]
  refine ⟨_,rfl,fun x hx=>hl x (List.mem_of_mem_take hx),?_⟩
  rw [List.length_take]
  exact Nat.min_le_left _ _
 ·simp only [h,decide_false,cond_false]
  exact ⟨_,rfl,hl,by omega⟩
theorem lst3 {v:Int} (h0:0≤v) (h1:v < 3) {α:Type} (a b c:α):decide (v < (([a,b,c].length:Nat):Int))=true:=decide_eq_true (by simpa using h1)
theorem p58_eq (n:Nat) {l:List Int} (hl:Bys l) {pos:Int} (hp:0≤pos∧pos < 900000):∃ (v pos':Int),p58 n (l,pos)=some ((v,()),((l,pos'),()))∧(pos≤pos'∧pos'≤pos + 2)∧-1≤v∧v≤10:=by
 show ∃ (v pos':Int),st58_top n (l,pos)=_∧_
 obtain ⟨v0,hv0,g0,g1⟩:=p102_eq n hl (pos:=pos) (b:=16) (by omega) (by omega)
 obtain ⟨v1,hv1,g2,g3⟩:=p102_eq n hl (pos:=pos + 1) (b:=3) (by omega) (by omega)
 obtain ⟨v2,hv2,g4,g5⟩:=p102_eq n hl (pos:=pos + 1) (b:=5) (by omega) (by omega)
 simp only [st58_top,q102,hv0,hv1,hv2,Option.bind_some,g2,decide_true,cond_true,lst3 g2 g3]
 by_cases h:v0=0
 ·simp only [h,decide_true,cond_true]
  refine ⟨_,_,rfl,by omega,?_⟩
  have:v1=0∨v1=1∨v1=2:=by omega
  rcases this with h | h | h <;> subst h <;> decide
 ·simp only [h,decide_false,cond_false]
  exact ⟨_,_,rfl,by omega,by omega,by omega⟩
theorem d8 {a:Nat} (h:a≤1000) (b:Nat) (hb:b=1):decide ((a + b) * (8:Nat)≤(140737488355328:Nat))=true:=decide_eq_true (by omega)
theorem p57_L3_eq (n:Nat) {l:List Int} (hl:Bys l) (x3 x4 u r:Int):∀ (m k:Nat) (pos:Int) (g:List Int),k≤5→5 - k < m→0≤pos∧pos + (5 - (k:Int)) < 900000→g.length≤3 →
  ∃ (c:Cr) (pos':Int),p57_L3 n m (k:Int) l pos x3 x4 u r g=some ((c,()),((l,pos'),()))∧(pos≤pos'∧pos'≤pos + (5 - k) + 2)∧c.2.2.length≤4
 | 0,k,pos,g,_,h,_,_=>by omega
 | m + 1,k,pos,g,hk,hm,hp,hg=>by
  show ∃ (c:Cr) (pos':Int),st57_L3 n (p57_L3 n m) (k:Int) l pos x3 x4 u r g=_∧_
  obtain ⟨v0,hv0,g0,g1⟩:=p102_eq n hl (pos:=pos) (b:=4) (by omega) (by omega)
  obtain ⟨v1,hv1,g2,g3⟩:=p102_eq n hl (pos:=pos) (b:=30) (by omega) (by omega)
  obtain ⟨v2,hv2,g4,g5⟩:=p102_eq n hl (pos:=pos + 1) (b:=3) (by omega) (by omega)
  have h03:decide (v2 < ((0 + 1 + 1 + 1:Nat):Int))=true:=decide_eq_true (by omega)
  have hd:=d8 (a:=g.length) (by omega) (0 + 1) rfl
  simp only [st57_L3,q102,hv0,hv1,hv2,Option.bind_some,g4,decide_true,cond_true,List.length_cons,List.length_nil,h03,hd]
  have tail:∀ (b:Bool),b=b→∃ (c:Cr) (pos':Int),(bif decide (v1=0) then some ((([(-1:Int),10,9].getD v2.toNat 0,(r,g)),()),((l,pos + 1 + 1),())) else bif decide (v1=1) then some (((u,(r,g ++ [[(0:Int),9,10].getD v2.toNat 0])),()),((l,pos + 1 + 1),())) else some (((u,(r,g)),()),((l,pos + 1),())))=some ((c,()),((l,pos'),()))∧(pos≤pos'∧pos'≤pos + (5 - k) + 2)∧c.2.2.length≤4:=fun _ _=>by
   cases decide (v1=0) with
   | true=>exact ⟨_,_,rfl,by omega,by show g.length≤4; omega⟩
   | false =>
    cases decide (v1=1) with
    | true=>exact ⟨_,_,rfl,by omega,by show (g ++ _).length≤4; simp; omega⟩
    | false=>exact ⟨_,_,rfl,by omega,by show g.length≤4; omega⟩
  by_cases h1:(k:Int) < 5
  ·simp only [h1,decide_true,cond_true]
   by_cases h2:(g.length:Int) < 3
   ·simp only [h2,decide_true,cond_true]
    rw [succ_wr (by omega)]
    by_cases h3:v0=0
    ·simp only [h3,decide_true,cond_true]
     obtain ⟨c,pos',e1,e2,e3⟩:=p57_L3_eq n hl x3 x4 u r m (k + 1) (pos + 1) (g ++ [(k:Int)]) (by omega) (by omega) (by omega) (by simp; omega)
     exact ⟨c,pos',e1,by omega,e3⟩
    ·simp only [h3,decide_false,cond_false]
     obtain ⟨c,pos',e1,e2,e3⟩:=p57_L3_eq n hl x3 x4 u r m (k + 1) (pos + 1) g (by omega) (by omega) (by omega) hg
     exact ⟨c,pos',e1,by omega,e3⟩
   ·simp only [h2,decide_false,cond_false]
    exact tail true rfl
  ·simp only [h1,decide_false,cond_false]
   exact tail true rfl
theorem p57_eq (n:Nat) (hn:100 < n) {l:List Int} (hl:Bys l) {pos:Int} (hp:0≤pos∧pos < 800000):∃ (c:Cr) (pos':Int),p57 n (l,pos)=some ((c,()),((l,pos'),()))∧(pos≤pos'∧pos'≤pos + 9)∧c.2.2.length≤4:=by
 show ∃ (c:Cr) (pos':Int),st57_top n (p57_L3 n n) (l,pos)=_∧_
 obtain ⟨v0,hv0,g0,g1⟩:=p102_eq n hl (pos:=pos) (b:=4) (by omega) (by omega)
 obtain ⟨v1,hv1,g2,g3⟩:=p102_eq n hl (pos:=pos + 1) (b:=4) (by omega) (by omega)
 simp only [st57_top,q102,hv0,hv1,Option.bind_some]
 obtain ⟨c,pos',e1,e2,e3⟩:=p57_L3_eq n hl 0 0 v0 v1 n 0 (pos + 1 + 1) [] (by omega) (by omega) (by omega) (by simp)
 exact ⟨c,pos',e1,by omega,e3⟩
end Go.Proofs.Ytbjgiioppmkpiaa.Rx.S

namespace Go.Proofs.Ytbjgiioppmkpiaa.Rx.S
open Go Go.Proofs.Ytbjgiioppmkpiaa.Rx.Pu Go.Proofs.Ytbjgiioppmkpiaa.Rx.Fs
set_option linter.unusedVariables false
set_option linter.unusedSimpArgs false
theorem foldl_size:∀ (l:List Int) (r:ByteArray),(l.foldl (fun (r:ByteArray) (n:Int)=>r.push (UInt8.ofNat n.toNat)) r).size=r.size + l.length
 | [],r=>rfl
 | x :: l,r=>by
  rw [List.foldl_cons,foldl_size l,ByteArray.size_push,List.length_cons]; omega
theorem p112_eq (n:Nat) (o m:Int) (ho:0≤o∧o≤9) (hm:0≤m∧m≤511):p112 n o m=some ((((List.replicate 10 d0).set 0 (2,m,o,o,0,0,false,ByteArray.empty,[])),(true,())),()):=by
 show st112_top n o m=_
 simp only [st112_top,q118,p118_eq,q66,p66_eq,Option.bind_some,ho,hm,and_self,decide_true,Bool.not_true,cond_false]
 rfl
def abc:ByteArray:=ByteArray.mk #[(97:UInt8),(98:UInt8),(99:UInt8),(100:UInt8),(101:UInt8),(102:UInt8),(103:UInt8),(104:UInt8),(48:UInt8),(49:UInt8),(32:UInt8),(46:UInt8)]
theorem p145_L3_eq (n:Nat) {l:List Int} (hl:Bys l):∀ (m k:Nat) (pos:Int) (o:List Int),k≤1000→k < m→0≤pos∧pos + k < 900000→o.length≤1000 - k →
  ∃ (s:ByteArray) (pos':Int),p145_L3 n m (k:Int) l pos o=some ((s,()),((l,pos'),()))∧(pos≤pos'∧pos'≤pos + k)∧s.size≤o.length + k
 | 0,k,pos,o,_,h,_,_=>by omega
 | m + 1,k,pos,o,hk,hm,hp,ho=>by
  show ∃ (s:ByteArray) (pos':Int),st145_L3 n (p145_L3 n m) (k:Int) l pos o=_∧_
  cases k with
  | zero =>
   have h0:decide ((0:Int) < ((0:Nat):Int))=false:=rfl
   simp only [st145_L3,h0,cond_false]
   exact ⟨_,_,rfl,by omega,by rw [foldl_size]; show 0 + _≤_; omega⟩
  | succ k =>
   obtain ⟨v0,hv0,g0,g1⟩:=p102_eq n hl (pos:=pos) (b:=12) (by omega) (by omega)
   have h0:decide ((0:Int) < ((k + 1:Nat):Int))=true:=decide_eq_true (by omega)
   have e1:IntKind.i64.wrap (((k + 1:Nat):Int) - 1)=(k:Int):=(wr (by omega) (by omega)).trans (by omega)
   have e2:decide (v0 < ((abc.size:Nat):Int))=true:=decide_eq_true (by have:abc.size=12:=rfl; omega)
   have e3:∀ x:Int,decide ((o.length + [x].length) * (1:Nat)≤(140737488355328:Nat))=true:=fun x=>decide_eq_true (by simp; omega)
   unfold abc at e2
   simp only [st145_L3,h0,cond_true,q102,hv0,Option.bind_some,g0,decide_true,e2,e3,e1]
   obtain ⟨s,pos',h1,h2,h3⟩:=p145_L3_eq n hl m k (pos + 1) (o ++ [(((ByteArray.mk #[(97:UInt8),(98:UInt8),(99:UInt8),(100:UInt8),(101:UInt8),(102:UInt8),(103:UInt8),(104:UInt8),(48:UInt8),(49:UInt8),(32:UInt8),(46:UInt8)]).data.toList.getD (Int.toNat v0) (0:UInt8)).toNat:Int)]) (by omega) (by omega) (by omega) (by simp; omega)
   exact ⟨s,pos',h1,by omega,by simp at h3; omega⟩
theorem p145_eq (n:Nat) (hn:2000 < n) {l:List Int} (hl:Bys l) {pos:Int} (hp:0≤pos∧pos < 800000) (b:Nat) (hb:b≤900):∃ (s:ByteArray) (pos':Int),p145 n (l,pos) (b:Int)=some ((s,()),((l,pos'),()))∧(pos≤pos'∧pos'≤pos + b + 1)∧s.size≤b:=by
 show ∃ (s:ByteArray) (pos':Int),st145_top n (p145_L3 n n) (l,pos) (b:Int)=_∧_
 obtain ⟨v0,hv0,g0,g1⟩:=p102_eq n hl (pos:=pos) (b:=((b + 1:Nat):Int)) (by omega) (by omega)
 obtain ⟨k,rfl⟩:=Int.eq_ofNat_of_zero_le g0
 simp only [st145_top,q102,succ_wr (show b < 4611686018427387904 by omega),hv0,Option.bind_some]
 obtain ⟨s,pos',h1,h2,h3⟩:=p145_L3_eq n hl n k (pos + 1) [] (by omega) (by omega) (by omega) (by simp)
 exact ⟨s,pos',h1,by omega,by simp at h3; omega⟩
end Go.Proofs.Ytbjgiioppmkpiaa.Rx.S

namespace Go.Proofs.Ytbjgiioppmkpiaa.Rx.S
open Go Go.Proofs.Ytbjgiioppmkpiaa.Rx.Pu Go.Proofs.Ytbjgiioppmkpiaa.Rx.Fs
set_option linter.unusedVariables false
set_option linter.unusedSimpArgs false
noncomputable def writeD (f:List Nd) (i k:Nat) (s:ByteArray):List Nd × Int :=
 bif !decide ((f.getD i d0).1=1) then (f,4) else bif decide (40 < (k:Int)) then (f,7) else bif decide (40 < (k:Int) + (s.size:Int)) then (f,7) else bif decide (s.size=0) then (f,0) else
   (f.set i (setTx (f.getD i d0) (wtx (padB (k - (f.getD i d0).2.2.2.2.2.2.2.1.size) (f.getD i d0).2.2.2.2.2.2.2.1) k s)),0)
theorem p144_eq (n:Nat) (f:List Nd) (i k:Nat) (s:ByteArray) (h:OkW f) (hi10:i < 10) (hs:s.size≤1048576) (hk:k≤2000000000) (hn:2000000 < n):p144 n f (i:Int) (k:Int) s=some (((writeD f i k s).1,((writeD f i k s).2,())),()):=by
 have hi:i < f.length:=by rw [h.len]; exact hi10
 unfold writeD
 show st144_top n (p144_L8 n n) f (i:Int) (k:Int) s=_
 simp only [st144_top,lt_t hi,ge_t,cond_true,toNat_cast,empty_iff]
 by_cases hk1:(f.getD i d0).1=1
 ·have hk1':=hk1
  simp only [d0] at hk1'
  simp only [hk1,hk1',decide_true,Bool.not_true,cond_false]
  by_cases hk40:(40:Int) < (k:Int)
  ·simp only [hk40,decide_true,cond_true]
  ·have w:IntKind.i64.wrap ((k:Int) + (s.size:Int))=(k:Int) + (s.size:Int):=wr (by omega) (by omega)
   simp only [hk40,decide_false,cond_false,w]
   by_cases hk2:(40:Int) < (k:Int) + (s.size:Int)
   ·simp only [hk2,decide_true,cond_true]
   ·simp only [hk2,decide_false,cond_false]
    by_cases hs0:s.size=0
    ·simp only [hs0,decide_true,cond_true]
    ·simp only [hs0,decide_false,cond_false]
     have htx:((f.getD i d0).2.2.2.2.2.2.2.1).size≤40:=((h.base i hi10 (by rw [kd,hk1]; decide)).2.2.2.1 hk1).1
     exact p144_L8_eq n f i hi k s (by omega) (by omega) _ n _ (Nat.le_trans htx (by omega)) rfl (by omega)
 ·have hk1':=hk1
  simp only [d0] at hk1'
  simp only [hk1,hk1',decide_false,Bool.not_false,cond_true]
theorem wtx_size (t:ByteArray) (k:Nat) (s:ByteArray) (hk:k + s.size≤40) (ht:t.size≤40):(wtx t k s).size≤40:=by
 unfold wtx endB
 rw [ByteArray.size_append,ByteArray.size_append,ByteArray.size_extract]
 cases hd:decide (k + s.size < t.size) with
 | true =>
  have:=of_decide_eq_true hd
  simp only [cond_true,ByteArray.size_extract]
  omega
 | false =>
  simp only [cond_false]
  have:(ByteArray.mk #[]).size=0:=rfl
  omega
theorem writeD_ok {f:List Nd} (h:OkW f) {i:Nat} (hi:i < 10) (k:Nat) (s:ByteArray):OkW (writeD f i k s).1:=by
 unfold writeD
 by_cases hk1:(f.getD i d0).1=1
 ·rw [decide_eq_true hk1]
  simp only [Bool.not_true,cond_false]
  by_cases hk40:(40:Int) < (k:Int)
  ·rw [decide_eq_true hk40]; exact h
  ·rw [decide_eq_false hk40]
   by_cases hk2:(40:Int) < (k:Int) + (s.size:Int)
   ·rw [decide_eq_true hk2]; exact h
   ·rw [decide_eq_false hk2]
    by_cases hs0:s.size=0
    ·rw [decide_eq_true hs0]; exact h
    ·rw [decide_eq_false hs0]
     simp only [cond_false]
     obtain ⟨b1,b2,b3,b4,b5⟩:=h.base i hi (by rw [kd,hk1]; decide)
     have htx:=(b4 hk1).1
     have hsz:(wtx (padB (k - (f.getD i d0).2.2.2.2.2.2.2.1.size) (f.getD i d0).2.2.2.2.2.2.2.1) k s).size≤40:=by
      refine wtx_size _ _ _ (by omega) ?_
      rw [padB_size]
      simp only [tx] at htx
      omega
     refine h.same hi (by rw [kd,hk1]; decide) rfl rfl rfl ⟨b1,b2,b3,fun _=>⟨hsz,(b4 hk1).2⟩,fun h2=>?_⟩ (fun _=>h.live i hi hk1)
     have:(f.getD i d0).1=2:=h2
     omega
 ·rw [decide_eq_false hk1]; exact h
theorem openD_ok {f:List Nd} (h:OkW f) {i:Nat} (hi:i < 10) (hk:kd (f.getD i d0) ≠ 0) (more:Bool):OkW (openD f i more).1:=by
 unfold openD
 obtain ⟨b1,b2,b3,b4,b5⟩:=h.base i hi hk
 have ho:=h.opens i hi
 simp only [op] at ho b3
 cases more with
 | true =>
  simp only [cond_true]
  by_cases h9:99≤(f.getD i d0).2.2.2.2.2.1
  ·rw [decide_eq_true h9]; exact h
  ·rw [decide_eq_false h9]
   simp only [cond_false]
   refine h.same hi hk rfl rfl rfl ⟨b1,b2,?_,b4,b5⟩ (fun hk1 hv=>?_)
   ·show 0≤(f.getD i d0).2.2.2.2.2.1 + 1∧(f.getD i d0).2.2.2.2.2.1 + 1≤99; omega
   ·have:(f.getD i d0).2.2.2.2.2.1 + 1=0:=hv.2
    omega
 | false =>
  simp only [cond_false]
  by_cases h0:(f.getD i d0).2.2.2.2.2.1=0
  ·rw [decide_eq_true h0]; exact h
  ·rw [decide_eq_false h0]
   simp only [cond_false]
   unfold freeN freeB
   have hif:i < f.length:=by rw [h.len]; exact hi
   rw [getD_set_self hif]
   have e1:(setOp (f.getD i d0) ((f.getD i d0).2.2.2.2.2.1 - 1)).2.2.2.2.1=lk (f.getD i d0):=rfl
   have e2:(setOp (f.getD i d0) ((f.getD i d0).2.2.2.2.2.1 - 1)).2.2.2.2.2.1=(f.getD i d0).2.2.2.2.2.1 - 1:=rfl
   rw [e1,e2,List.set_set]
   cases hb:!decide (i=0)&&(decide (lk (f.getD i d0)=0)&&decide ((f.getD i d0).2.2.2.2.2.1 - 1=0)) with
   | true =>
    simp only [Bool.and_eq_true,Bool.not_eq_true',decide_eq_false_iff_not,decide_eq_true_eq] at hb
    simp only [cond_true]
    refine h.gone hi ?_ hb.2.1
    by_cases hk2:kd (f.getD i d0)=2
    ·have:=h.tr.un i hi (decide_eq_true hk2) hb.1
     have:=h.links i hi hk
     omega
    ·omega
   | false =>
    simp only [cond_false]
    refine h.same hi hk rfl rfl rfl ⟨b1,b2,?_,b4,b5⟩ (fun hk1 hv=>?_)
    ·show 0≤(f.getD i d0).2.2.2.2.2.1 - 1∧(f.getD i d0).2.2.2.2.2.1 - 1≤99; omega
    ·have hv1:lk (f.getD i d0)=0:=hv.1
     have hv2:(f.getD i d0).2.2.2.2.2.1 - 1=0:=hv.2
     have hi0:i ≠ 0:=fun e=>by
      subst e
      have:=h.root
      have hk1':kd (f.getD 0 d0)=1:=hk1
      omega
     rw [decide_eq_true hv1,decide_eq_true hv2,decide_eq_false hi0] at hb
     cases hb
end Go.Proofs.Ytbjgiioppmkpiaa.Rx.S

namespace Go.Proofs.Ytbjgiioppmkpiaa.Rx.S
open Go Go.Proofs.Ytbjgiioppmkpiaa.Rx.Pu Go.Proofs.Ytbjgiioppmkpiaa.Rx.Fs
set_option linter.unusedVariables false
set_option linter.unusedSimpArgs false
theorem OkW.szF {f:List Nd} (h:OkW f):SzF 2000000 f:=⟨by rw [h.len]; omega,fun a ha=>by
 obtain ⟨i,hi,rfl⟩:=List.mem_iff_getElem.1 ha
 rw [← getD_get hi d0]
 rw [h.len] at hi
 refine ⟨?_,by have:=h.nlen i hi; omega,fun e he=>?_⟩
 ·by_cases hk:kd (f.getD i d0)=0
  ·have:=(h.zero i hi hk).2.2.2.2.2.2.2.1; omega
  ·obtain ⟨b1,_,_,b4,b5⟩:=h.base i hi hk
   have:kd (f.getD i d0)=1∨kd (f.getD i d0)=2:=by omega
   rcases this with h1 | h1
   ·have:=(b4 h1).1; omega
   ·have:=(b5 h1).1; omega
 ·have:=((h.entsOk hi).all e he).1
  simp only [nmOk,Bool.and_eq_true,decide_eq_true_eq] at this
  omega⟩
def nl4:List ByteArray:=[ByteArray.mk #[(97:UInt8)],ByteArray.mk #[(98:UInt8)],ByteArray.mk #[(99:UInt8)],ByteArray.mk #[(97:UInt8),(98:UInt8)]]
theorem nl4_ok {v:Int} (h0:0≤v) (h1:v < 4):nmOk (nl4.getD v.toNat ByteArray.empty)=true:=by
 have:v=0∨v=1∨v=2∨v=3:=by omega
 rcases this with h | h | h | h <;> subst h <;> decide
theorem md3 {v:Int} (h0:0≤v) (h1:v < 3):0≤[(493:Int),511,448].getD v.toNat 0∧[(493:Int),511,448].getD v.toNat 0≤511:=by
 have:v=0∨v=1∨v=2:=by omega
 rcases this with h | h | h <;> subst h <;> decide
theorem p113_C10_eq (n:Nat) (hn:2000000 < n) {l:List Int} (hl:Bys l) {pos:Int} (hp:0≤pos∧pos < 700000) (i t:Nat) (hi:i < 10) (ht:t < 10) {f:List Nd} (h:OkW f) (hki:kd (f.getD i d0) ≠ 0) (u r:Int) (g:List Int) (hg:g.length≤4) :
  ∃ (f':List Nd) (pos':Int),p113_C10_0 n (i:Int) (t:Int) l pos u r f g=some ((f',()),((l,pos'),()))∧(pos≤pos'∧pos'≤pos + 20)∧OkW f':=by
 show ∃ (f':List Nd) (pos':Int),st113_C10_0 n (i:Int) (t:Int) l pos u r f g=_∧_
 have hif:i < f.length:=by rw [h.len]; exact hi
 obtain ⟨v7,hv7,a0,a1⟩:=p102_eq n hl (pos:=pos) (b:=4) (by omega) (by omega)
 obtain ⟨v8,hv8,b0,b1⟩:=p102_eq n hl (pos:=pos + 1) (b:=4) (by omega) (by omega)
 obtain ⟨v10,hv10,c0,c1⟩:=p102_eq n hl (pos:=pos + 1 + 1) (b:=10) (by omega) (by omega)
 obtain ⟨w2,hw2,d1,d2⟩:=p102_eq n hl (pos:=pos + 1 + 1 + 1) (b:=2) (by omega) (by omega)
 obtain ⟨w3,hw3,e1,e2⟩:=p102_eq n hl (pos:=pos + 1 + 1 + 1 + 1) (b:=3) (by omega) (by omega)
 obtain ⟨w4,hw4,g1,g2⟩:=p102_eq n hl (pos:=pos + 1 + 1 + 1) (b:=3) (by omega) (by omega)
 obtain ⟨w5,hw5,k1,k2⟩:=p102_eq n hl (pos:=pos + 1 + 1 + 1) (b:=20) (by omega) (by omega)
 obtain ⟨s,ps,hs,hs1,hs2⟩:=p145_eq n (by omega) hl (pos:=pos + 1 + 1 + 1 + 1) (by omega) 9 (by omega)
 have hcp:=p67_eq n f (OkW.szF h) hn
 have hB:=OkW.szB h
 have hlen4:∀ v:Int,v < 4→decide (v < ((nl4.length:Nat):Int))=true:=fun v hv=>decide_eq_true (by have:nl4.length=4:=rfl; omega)
 have q7:=hlen4 v7 a1
 have q8:=hlen4 v8 b1
 have n7:=nl4_ok a0 a1
 have n8:=nl4_ok b0 b1
 have m3:=md3 e1 e2
 have kw:IntKind.i64.wrap (1 + w2)=1 + w2:=wr (by omega) (by omega)
 let c:Cr:=(u,r,g)
 obtain ⟨k5,hk5⟩:=Int.eq_ofNat_of_zero_le k1
 have r67:=p106_eq n f c i (nl4.getD v7.toNat ByteArray.empty) (1 + w2) ([(493:Int),511,448].getD w3.toNat 0) hif hB (by show g.length≤_; omega) hn
 have hlk:=h.links
 have hlt:∀ y,y < 10→0≤lk (f.getD y d0)∧lk (f.getD y d0)≤1000:=fun y hy=>by
  by_cases hk:kd (f.getD y d0)=0
  ·have:=(h.zero y hy hk).2.2.2.2.1; omega
  ·have:=h.links y hy hk; have:=many_le (f:=f) (fun j hj=>h.nlen j hj) y; omega
 have r113:=p111_eq n f c t i (nl4.getD v7.toNat ByteArray.empty) hif (by rw [h.len]; exact ht) hB (by show g.length≤_; omega) (hlt t ht) hn
 have r114:=p77_eq n f c i (nl4.getD v7.toNat ByteArray.empty) h hi (by show g.length≤_; omega) hn
 have r115:=p110_eq n f c i (nl4.getD v7.toNat ByteArray.empty) t (nl4.getD v8.toNat ByteArray.empty) h hi ht (by show g.length≤_; omega) hn
 have ho:=h.opens i hi
 have r83:=p132_eq n f i hif ho.1 ho.2 (decide (0 < w4))
 have r81:=p144_eq n f i k5 s h hi (by omega) (by omega) hn
 have l3:∀ v:Int,v < 3→decide (v < (([(493:Int),511,448].length:Nat):Int))=true:=fun v hv=>decide_eq_true (by simp; omega)
 have l33:=l3 w3 e2
 have o67:=makeD_ok h (c:=c) hi (name:=nl4.getD v7.toNat ByteArray.empty) n7 (kind:=1 + w2) (mode:=[(493:Int),511,448].getD w3.toNat 0) (by omega) m3
 have o113:=linkD_ok h (c:=c) hi ht (name:=nl4.getD v7.toNat ByteArray.empty) n7
 have o114:=dropD_ok h (c:=c) hi (nl4.getD v7.toNat ByteArray.empty)
 have o115:=moveD_ok h (c:=c) hi ht (nl4.getD v7.toNat ByteArray.empty) (other:=nl4.getD v8.toNat ByteArray.empty) n8
 have o83:=openD_ok h hi hki (decide (0 < w4))
 have o81:=writeD_ok h hi k5 s
 unfold nl4 at q7 q8 r67 r113 r114 r115
 simp only [c] at r67 r113 r114 r115
 have hs':p145 n (l,pos + 1 + 1 + 1 + 1) 9=some ((s,()),((l,ps),())):=hs
 simp only [st113_C10_0,q102,hv7,hv8,hv10,hw2,hw3,hw4,hw5,Option.bind_some,a0,b0,e1,decide_true,cond_true,q7,q8,q67,hcp,l33,kw,q106,r67,q111,r113,q77,r114,q110,r115,q132,r83,q145,hs',q144,hk5,r81,ge_t,lt_t hif,toNat_cast]
 cases decide (v10=0) with
 | true=>exact ⟨_,_,rfl,by omega,o67⟩
 | false =>
 cases decide (v10=1) with
 | true=>exact ⟨_,_,rfl,by omega,o67⟩
 | false =>
 cases decide (v10=2) with
 | true=>exact ⟨_,_,rfl,by omega,o67⟩
 | false =>
 cases decide (v10=3) with
 | true=>exact ⟨_,_,rfl,by omega,o113⟩
 | false =>
 cases decide (v10=4) with
 | true=>exact ⟨_,_,rfl,by omega,o114⟩
 | false =>
 cases decide (v10=5) with
 | true=>exact ⟨_,_,rfl,by omega,o115⟩
 | false =>
 cases decide (v10=6) with
 | true=>exact ⟨_,_,rfl,by omega,o83⟩
 | false =>
 cases decide (v10=7) with
 | true =>
  by_cases hk1:kd (f.getD i d0)=1
  ·have hk1':=hk1
   simp only [kd,d0] at hk1'
   simp only [cond_false,cond_true,hk1',decide_true]
   refine ⟨_,_,rfl,by omega,?_⟩
   obtain ⟨b1,b2,b3,b4,b5⟩:=h.base i hi hki
   refine h.same (a:=(1,(f.getD i d0).2.1,(f.getD i d0).2.2.1,(f.getD i d0).2.2.2.1,(f.getD i d0).2.2.2.2.1,(f.getD i d0).2.2.2.2.2.1,decide (w2=0),(f.getD i d0).2.2.2.2.2.2.2)) hi hki hk1.symm rfl rfl ⟨by show (1:Int)≤1∧(1:Int)≤2; omega,b2,b3,fun _=>b4 hk1,fun h2=>?_⟩ (fun _=>h.live i hi hk1)
   exact absurd (show (1:Int)=2 from h2) (by decide)
  ·have hk1':=hk1
   simp only [kd,d0] at hk1'
   simp only [cond_false,cond_true,hk1',decide_false]
   exact ⟨_,_,rfl,by omega,h⟩
 | false=>exact ⟨_,_,rfl,by omega,o81⟩
end Go.Proofs.Ytbjgiioppmkpiaa.Rx.S

namespace Go.Proofs.Ytbjgiioppmkpiaa.Rx.S
open Go Go.Proofs.Ytbjgiioppmkpiaa.Rx.Pu Go.Proofs.Ytbjgiioppmkpiaa.Rx.Fs
set_option linter.unusedVariables false
set_option linter.unusedSimpArgs false
theorem hasB_kd {f:List Nd} {v:Int} (h:hasB f v=true):∃ i:Nat,v=(i:Int)∧i < 10∧kd (f.getD i d0) ≠ 0:=by
 unfold hasB at h
 simp only [Bool.and_eq_true,decide_eq_true_eq,Bool.not_eq_true',decide_eq_false_iff_not] at h
 exact ⟨v.toNat,by omega,by omega,h.2⟩
theorem p113_eq (n:Nat) (hn:2000000 < n) {l:List Int} (hl:Bys l) {pos:Int} (hp:0≤pos∧pos < 600000) {f:List Nd} (h:OkW f) :
  ∃ (f':List Nd) (pos':Int),p113 n (l,pos) f=some ((f',()),((l,pos'),()))∧(pos≤pos'∧pos'≤pos + 40)∧OkW f':=by
 show ∃ (f':List Nd) (pos':Int),st113_top n (p113_C10_0 n) (l,pos) f=_∧_
 obtain ⟨c,p1,hc,hp1,hg⟩:=p57_eq n (by omega) hl (pos:=pos) (by omega)
 obtain ⟨v1,hv1,_,_⟩:=p102_eq n hl (pos:=p1) (b:=2) (by omega) (by omega)
 obtain ⟨v2,hv2,_,_⟩:=p102_eq n hl (pos:=p1 + 1) (b:=6) (by omega) (by omega)
 obtain ⟨v3,hv3,_,_⟩:=p102_eq n hl (pos:=p1 + 1 + 1) (b:=6) (by omega) (by omega)
 have e2:=p65_eq n f h.len v2
 have e3:=p65_eq n f h.len v3
 have hr:=h.root
 have key:∀ (u:Int),∃ (f':List Nd) (pos':Int),(bif !hasB f v2 then (bif !hasB f v3 then p113_C10_0 n 0 0 l (p1 + 1 + 1 + 1) u c.2.1 f c.2.2 else p113_C10_0 n 0 v3 l (p1 + 1 + 1 + 1) u c.2.1 f c.2.2)
   else (bif !hasB f v3 then p113_C10_0 n v2 0 l (p1 + 1 + 1 + 1) u c.2.1 f c.2.2 else p113_C10_0 n v2 v3 l (p1 + 1 + 1 + 1) u c.2.1 f c.2.2))=some ((f',()),((l,pos'),()))∧(pos≤pos'∧pos'≤pos + 40)∧OkW f':=fun u=>by
  have go:∀ i t:Nat,i < 10→t < 10→kd (f.getD i d0) ≠ 0→∃ (f':List Nd) (pos':Int),p113_C10_0 n (i:Int) (t:Int) l (p1 + 1 + 1 + 1) u c.2.1 f c.2.2=some ((f',()),((l,pos'),()))∧(pos≤pos'∧pos'≤pos + 40)∧OkW f':=fun i t hi ht hk=>by
   obtain ⟨f',pos',a1,a2,a3⟩:=p113_C10_eq n hn hl (pos:=p1 + 1 + 1 + 1) (by omega) i t hi ht h hk u c.2.1 c.2.2 hg
   exact ⟨f',pos',a1,by omega,a3⟩
  cases h2:hasB f v2 with
  | true =>
   obtain ⟨i,rfl,hi,hk⟩:=hasB_kd h2
   cases h3:hasB f v3 with
   | true =>
    obtain ⟨t,rfl,ht,_⟩:=hasB_kd h3
    exact go i t hi ht hk
   | false=>exact go i 0 hi (by omega) hk
  | false =>
   cases h3:hasB f v3 with
   | true =>
    obtain ⟨t,rfl,ht,_⟩:=hasB_kd h3
    exact go 0 t (by omega) ht (by omega)
   | false=>exact go 0 0 (by omega) (by omega) (by omega)
 simp only [st113_top,q57,hc,q102,hv1,hv2,hv3,Option.bind_some,q65,e2,e3]
 cases decide (v1=0) with
 | true=>exact key 0
 | false=>exact key c.1
end Go.Proofs.Ytbjgiioppmkpiaa.Rx.S

namespace Go.Proofs.Ytbjgiioppmkpiaa.Rx.S
open Go Go.Proofs.Ytbjgiioppmkpiaa.Rx.Pu Go.Proofs.Ytbjgiioppmkpiaa.Rx.Fs
set_option linter.unusedVariables false
set_option linter.unusedSimpArgs false
def digI (d b:Int):Int:=IntKind.i64.wrap (↑(BitVec.ofInt IntKind.i64.bits (d.fdiv ((2:Int) ^ min (IntKind.i64.wrap ((3:Int) * IntKind.i64.wrap ((2:Int) - b))).toNat IntKind.i64.bits)) &&& BitVec.ofInt IntKind.i64.bits (7:Int)).toNat:Int)
theorem p107_0 (n:Nat) (d:Int):p107 n d 0=some ((digI d 0,()),()):=rfl
theorem p107_1 (n:Nat) (d:Int):p107 n d 1=some ((digI d 1,()),()):=rfl
theorem p107_2 (n:Nat) (d:Int):p107 n d 2=some ((digI d 2,()),()):=rfl
def digs (d:Int):Bool:=decide (digI d 0=IntKind.i64.wrap (d.tdiv 64))&&(decide (digI d 1=(IntKind.i64.wrap (d.tdiv 8)).tmod 8)&&(decide (digI d 2=d.tmod 8) &&
 (decide (IntKind.i64.wrap (↑(BitVec.ofInt IntKind.i64.bits (IntKind.i64.wrap (↑(BitVec.ofInt IntKind.i64.bits (IntKind.i64.wrap (↑(BitVec.ofInt IntKind.i64.bits (digI d 0)|||BitVec.ofInt IntKind.i64.bits (digI d 1)).toNat:Int))|||BitVec.ofInt IntKind.i64.bits (digI d 2)).toNat:Int)) &&& BitVec.ofInt IntKind.i64.bits (1:Int)).toNat:Int)=1) ==
  decide ((0:Int) < IntKind.i64.wrap (IntKind.i64.wrap (d.tmod 2 + (IntKind.i64.wrap (d.tdiv 8)).tmod 2) + (IntKind.i64.wrap (d.tdiv 64)).tmod 2)))))
theorem digs_all:∀ d:Fin 512,digs ((d.1:Nat):Int)=true:=by decide +kernel
def rts (e:Int):Bool:=mayV 7 e&&(mayV 6 e == decide (IntKind.i64.wrap (↑(BitVec.ofInt IntKind.i64.bits e &&& BitVec.ofInt IntKind.i64.bits (1:Int)).toNat:Int)=0))
theorem rts_all:∀ e:Fin 8,e.1 ≠ 0→rts ((e.1:Nat):Int)=true:=by decide +kernel
theorem p141_L2_eq (n:Nat) (l:List Int) (g:Int) (hl:l.length≤2000000):∀ (d m k:Nat),k + d=l.length→d < m→∃ r:Int,p141_L2 n m l g (l.length:Int) (k:Int)=some ((r,()),())∧decide (0≤r)=inB (l.drop k) g
 | _,0,_,_,h=>by omega
 | 0,m + 1,k,hk,_=>by
  have hg:decide ((k:Int) < (l.length:Int))=false:=decide_eq_false (by omega)
  refine ⟨-1,?_,?_⟩
  ·show st141_L2 n (p141_L2 n m) l g (l.length:Int) (k:Int)=_
   simp only [st141_L2,hg,cond_false]
  ·rw [List.drop_of_length_le (by omega)]; rfl
 | d + 1,m + 1,k,hk,hm=>by
  have hlt:k < l.length:=by omega
  obtain ⟨r,h1,h2⟩:=p141_L2_eq n l g hl d m (k + 1) (by omega) (by omega)
  have hd:l.drop k=l.getD k 0 :: l.drop (k + 1):=by rw [getD_get hlt]; exact List.drop_eq_getElem_cons hlt
  by_cases he:g=l.getD k 0
  ·refine ⟨(k:Int),?_,?_⟩
   ·show st141_L2 n (p141_L2 n m) l g (l.length:Int) (k:Int)=_
    simp only [st141_L2,lt_t hlt,ge_t,cond_true,toNat_cast,decide_eq_true he]
   ·rw [hd]
    unfold inB
    rw [List.any_cons,decide_eq_true he.symm,Bool.true_or]
    exact decide_eq_true (by omega)
  ·refine ⟨r,?_,?_⟩
   ·show st141_L2 n (p141_L2 n m) l g (l.length:Int) (k:Int)=_
    simp only [st141_L2,lt_t hlt,ge_t,cond_true,cond_false,toNat_cast,decide_eq_false he]
    rw [wr_succ (by omega)]
    exact h1
   ·rw [hd,h2]
    have:¬ l.getD k 0=g:=fun h=>he h.symm
    unfold inB
    rw [List.any_cons,decide_eq_false this,Bool.false_or]
theorem p108_eq (n:Nat) (l:List Int) (g:Int) (hl:l.length≤2000000) (hn:2000000 < n):p108 n l g=some ((inB l g,()),()):=by
 obtain ⟨r,h1,h2⟩:=p141_L2_eq n l g hl l.length n 0 (by omega) (by omega)
 show st108_top n l g=_
 have h1':q141 n (l,g,())=some ((r,()),()):=h1
 simp only [st108_top,h1',Option.bind_some,h2,List.drop_zero]
theorem p48_eq (n:Nat) (c:Cr) (o g d e:Int) (hc:credOk c=true) (ho:0≤o∧o≤9) (hg:0≤g∧g≤9) (hd:0≤d∧d≤511) (he:1≤e∧e≤7) (hl:c.2.2.length≤2000000) (hn:2000000 < n) :
  p48 n c o g d e=some ((mayS c o g d e,()),()):=by
 have ec:(c.1,c.2.1,c.2.2)=c:=rfl
 have h90:=p79_eq n c hl hn
 have h119:=p108_eq n c.2.2 g hl hn
 obtain ⟨d',rfl⟩:=Int.eq_ofNat_of_zero_le hd.1
 obtain ⟨e',rfl⟩:=Int.eq_ofNat_of_zero_le (show 0≤e by omega)
 have hD:=digs_all ⟨d',by omega⟩
 have hE:=rts_all ⟨e',by omega⟩ (by show e' ≠ 0; omega)
 simp only [digs,Bool.and_eq_true,decide_eq_true_eq,beq_iff_eq] at hD
 obtain ⟨hD0,hD1,hD2,hD3⟩:=hD
 simp only [rts,Bool.and_eq_true,beq_iff_eq] at hE
 obtain ⟨hE0,hE1⟩:=hE
 show st48_top n c o g (d':Int) (e':Int)=_
 unfold mayS
 simp only [st48_top,q79,ec,h90,hc,q61,p61_eq,decide_eq_true ho,decide_eq_true hg,decide_eq_true hd,decide_eq_true he,Option.bind_some,Bool.not_true,cond_false,q107,p107_0,p107_1,p107_2,q108,h119]
 by_cases hu:c.1=0
 ·rw [decide_eq_true hu]
  simp only [cond_true]
  rw [← hE1,hD3,hE0]
  cases decide ((0:Int) < IntKind.i64.wrap (IntKind.i64.wrap ((d':Int).tmod 2 + (IntKind.i64.wrap ((d':Int).tdiv 8)).tmod 2) + (IntKind.i64.wrap ((d':Int).tdiv 64)).tmod 2)) with
  | true=>simp only [cond_true]; cases mayV 6 (e':Int) <;> rfl
  | false=>simp only [cond_false]; cases mayV 6 (e':Int) <;> rfl
 ·rw [decide_eq_false hu]
  simp only [cond_false]
  by_cases hw:c.1=o
  ·rw [decide_eq_true hw]
   simp only [cond_true,hD0]
   rfl
  ·rw [decide_eq_false hw]
   simp only [cond_false,hD1,hD2]
   cases inB c.2.2 g <;> rfl
theorem p72_eq (n:Nat) (a:Nd) (c:Cr) (e:Int) (hc:credOk c=true) (ho:ownW a) (hb:baseW a) (he:1≤e∧e≤7) (hl:c.2.2.length≤2000000) (hn:2000000 < n):p72 n a c e=some ((mayN c a e,()),()):=by
 have h:=p48_eq n c (ow a) (gr a) (md a) e hc ho.1 ho.2 hb.2.1 he hl hn
 have ec:(c.1,c.2.1,c.2.2)=c:=rfl
 show st72_top n a c e=_
 have h':q48 n (c,a.2.2.1,a.2.2.2.1,a.2.1,e,())=some ((mayS c (ow a) (gr a) (md a) e,()),()):=h
 simp only [st72_top,ec,h',Option.bind_some]
 rfl
noncomputable def incL (f:List Nd) (y:Nat) (v:Int):List Nd:=f.set y (setLk (f.getD y d0) (lk (f.getD y d0) + v))
theorem p105_eq (n:Nat) (f:List Nd) (i y:Nat) (s:ByteArray) (hi:i < f.length) (hy:y < f.length) (hiy:i ≠ y) (hp:(nm (f.getD i d0)).Pairwise ltE) (hl:(nm (f.getD i d0)).length≤1000) (hnew:∀ e ∈ nm (f.getD i d0),e.1 ≠ s)
  (hk:0≤lk (f.getD y d0)∧lk (f.getD y d0)≤1000) (hn:2000000 < n):p105 n f (i:Int) s (y:Int)=some ((),(incL (putE f i (s,(y:Int))) y 1,())):=by
 have h59:=p73_eq n (f.getD i d0) s hp (by omega) hn
 have ee:∀ x:Nd,(x.1,x.2.1,x.2.2.1,x.2.2.2.1,x.2.2.2.2.1,x.2.2.2.2.2.1,x.2.2.2.2.2.2.1,x.2.2.2.2.2.2.2.1,x.2.2.2.2.2.2.2.2)=x:=fun _=>rfl
 have hpl:=posE_le s (nm (f.getD i d0))
 have hx:=insE_pos (s,(y:Int)) (nm (f.getD i d0)) hnew
 have h99:p139 n (nm (f.getD i d0)) (posE s (nm (f.getD i d0)):Int) [(s,(y:Int))]=some ((insE (s,(y:Int)) (nm (f.getD i d0)),()),()):=by
  unfold p139
  rw [decide_eq_true (show (0:Int)≤(posE s (nm (f.getD i d0)):Int) by omega),decide_eq_true (show (posE s (nm (f.getD i d0)):Int)≤((nm (f.getD i d0)).length:Int) by omega),decide_eq_true (show 1≤([(s,(y:Int))]:List En).length by simp),
   decide_eq_true (show ((nm (f.getD i d0)).length + ([(s,(y:Int))]:List En).length) * 24≤140737488355328 by show (_ + 1) * 24≤_; omega)]
  simp only [cond_true,toNat_cast]
  rw [hx]
 have hw:IntKind.i64.wrap (lk (f.getD y d0) + 1)=lk (f.getD y d0) + 1:=wr (by omega) (by omega)
 have hg:(putE f i (s,(y:Int))).getD y d0=f.getD y d0:=by unfold putE; rw [getD_set_i,if_neg (fun h=>hiy h.1)]
 have hset:f.set i ((f.getD i d0).1,(f.getD i d0).2.1,(f.getD i d0).2.2.1,(f.getD i d0).2.2.2.1,(f.getD i d0).2.2.2.2.1,(f.getD i d0).2.2.2.2.2.1,(f.getD i d0).2.2.2.2.2.2.1,(f.getD i d0).2.2.2.2.2.2.2.1,insE (s,(y:Int)) (nm (f.getD i d0)))=putE f i (s,(y:Int)):=rfl
 show st105_top n f (i:Int) s (y:Int)=_
 have h99':q139 n ((f.getD i d0).2.2.2.2.2.2.2.2,(posE s (nm (f.getD i d0)):Int),[(s,(y:Int))],())=some ((insE (s,(y:Int)) (nm (f.getD i d0)),()),()):=h99
 have hg':=hg
 have hw':=hw
 simp only [d0] at h59 h99' hset hg' hw'
 simp only [st105_top,lt_t hi,ge_t,cond_true,toNat_cast,ee,q73,h59,h99',Option.bind_some,decide_true,hset,hg',lk]
 rw [show (putE f i (s,(y:Int))).length=f.length by unfold putE; rw [List.length_set]]
 simp only [lt_t hy,cond_true,lk] at hw' ⊢
 simp only [hw']
 rw [incL,hg]
 rfl
theorem p75_eq (n:Nat) (f:List Nd) (i:Nat) (s:ByteArray) (hi:i < f.length) (hp:(nm (f.getD i d0)).Pairwise ltE) (hl:(nm (f.getD i d0)).length≤1000) (hh:hasE s (nm (f.getD i d0))=true)
  (y:Nat) (hy:((nm (f.getD i d0)).getD (posE s (nm (f.getD i d0))) e0).2=(y:Int)) (hyl:y < f.length) (hiy:i ≠ y) (hk:0≤lk (f.getD y d0)∧lk (f.getD y d0)≤1000) (hn:2000000 < n) :
  p75 n f (i:Int) s=some (((y:Int),()),(incL (takeE f i (posE s (nm (f.getD i d0)))) y (-1),())):=by
 have h59:=p73_eq n (f.getD i d0) s hp (by omega) hn
 have ee:∀ x:Nd,(x.1,x.2.1,x.2.2.1,x.2.2.2.1,x.2.2.2.2.1,x.2.2.2.2.2.1,x.2.2.2.2.2.2.1,x.2.2.2.2.2.2.2.1,x.2.2.2.2.2.2.2.2)=x:=fun _=>rfl
 have hlt:posE s (nm (f.getD i d0)) < (nm (f.getD i d0)).length:=by
  simp only [hasE,Bool.and_eq_true,decide_eq_true_eq] at hh; exact hh.1
 have h105:p124 n (nm (f.getD i d0)) (posE s (nm (f.getD i d0)):Int) ((posE s (nm (f.getD i d0)) + 1:Nat):Int)=some (((nm (f.getD i d0)).eraseIdx (posE s (nm (f.getD i d0))),()),()):=by
  unfold p124
  rw [decide_eq_true (show (0:Int)≤(posE s (nm (f.getD i d0)):Int) by omega),decide_eq_true (show (posE s (nm (f.getD i d0)):Int) < ((nm (f.getD i d0)).length:Int) by omega),decide_eq_true (show ((posE s (nm (f.getD i d0)) + 1:Nat):Int)=(posE s (nm (f.getD i d0)):Int) + 1 by omega)]
  simp only [cond_true,toNat_cast]
  rw [List.eraseIdx_eq_take_drop_succ]
 have hws:IntKind.i64.wrap ((posE s (nm (f.getD i d0)):Int) + 1)=((posE s (nm (f.getD i d0)) + 1:Nat):Int):=wr_succ (by omega)
 have hw:IntKind.i64.wrap (lk (f.getD y d0) - 1)=lk (f.getD y d0) + (-1):=(wr (by omega) (by omega)).trans (by omega)
 have hg:(takeE f i (posE s (nm (f.getD i d0)))).getD y d0=f.getD y d0:=by unfold takeE; rw [getD_set_i,if_neg (fun h=>hiy h.1)]
 have hset:f.set i ((f.getD i d0).1,(f.getD i d0).2.1,(f.getD i d0).2.2.1,(f.getD i d0).2.2.2.1,(f.getD i d0).2.2.2.2.1,(f.getD i d0).2.2.2.2.2.1,(f.getD i d0).2.2.2.2.2.2.1,(f.getD i d0).2.2.2.2.2.2.2.1,(nm (f.getD i d0)).eraseIdx (posE s (nm (f.getD i d0))))=takeE f i (posE s (nm (f.getD i d0))):=rfl
 show st75_top n f (i:Int) s=_
 have h105':q124 n ((f.getD i d0).2.2.2.2.2.2.2.2,(posE s (nm (f.getD i d0)):Int),((posE s (nm (f.getD i d0)) + 1:Nat):Int),())=some (((nm (f.getD i d0)).eraseIdx (posE s (nm (f.getD i d0))),()),()):=h105
 have hy':((f.getD i d0).2.2.2.2.2.2.2.2.getD (posE s (nm (f.getD i d0))) ((ByteArray.empty:ByteArray),(0:Int))).2=(y:Int):=hy
 have hlt':decide ((posE s (nm (f.getD i d0)):Int) < (((f.getD i d0).2.2.2.2.2.2.2.2).length:Int))=true:=decide_eq_true (by have:=hlt; simp only [nm] at this ⊢; omega)
 have hg':=hg
 have hw':=hw
 simp only [d0] at h59 h105' hset hg' hw' hws hy' hlt'
 simp only [st75_top,lt_t hi,ge_t,cond_true,toNat_cast,ee,q73,h59,hlt',hws,h105',Option.bind_some,decide_true,hset,hy',hg',lk]
 rw [show (takeE f i (posE s (nm (f.getD i ZN)))).length=f.length by unfold takeE; rw [List.length_set]]
 simp only [lt_t hyl,cond_true,lk] at hw' ⊢
 simp only [hw']
 rw [incL,hg]
 rfl
end Go.Proofs.Ytbjgiioppmkpiaa.Rx.S

namespace Go.Proofs.Ytbjgiioppmkpiaa.Rx.S
open Go Go.Proofs.Ytbjgiioppmkpiaa.Rx.Pu Go.Proofs.Ytbjgiioppmkpiaa.Rx.Fs
set_option linter.unusedVariables false
set_option linter.unusedSimpArgs false
noncomputable def dropR (f:List Nd) (c:Cr) (i:Int) (name:ByteArray):List Nd × Int :=
 bif okS f&&(credOk c&&(hasB f i&&nmOk name)) then dropD f c i.toNat name else ([],1)
theorem OkW.pw {f:List Nd} (h:OkW f) {i:Nat} (hi:i < 10):(nm (f.getD i d0)).Pairwise ltE:=(sorted_pw _).1 (fun k hk=>(h.ents i k hi hk).2.2.2)
theorem OkW.lkB {f:List Nd} (h:OkW f) {i:Nat} (hi:i < 10):0≤lk (f.getD i d0)∧lk (f.getD i d0)≤60:=by
 by_cases hk:kd (f.getD i d0)=0
 ·have:=(h.zero i hi hk).2.2.2.2.1; omega
 ·have:=h.links i hi hk; have:=many_le (f:=f) (fun j hj=>h.nlen j hj) i; omega
theorem has_no {s:ByteArray} {es:List En} (hp:es.Pairwise ltE) (h:hasE s es=false):∀ e ∈ es,e.1 ≠ s:=by
 have h1:=atI_pos s hp
 rw [h] at h1
 rcases atI_spec s es 0 with ⟨_,h2⟩ | ⟨j,h1',h2,h3⟩
 ·exact h2
 ·rw [h2] at h1
  have h1:((0 + j:Nat):Int) = -1:=h1
  omega
end Go.Proofs.Ytbjgiioppmkpiaa.Rx.S

namespace Go.Proofs.Ytbjgiioppmkpiaa.Rx.S
open Go Go.Proofs.Ytbjgiioppmkpiaa.Rx.Pu Go.Proofs.Ytbjgiioppmkpiaa.Rx.Fs
set_option linter.unusedVariables false
set_option linter.unusedSimpArgs false
theorem new_ok (o m:Int) (hm:0≤m∧m≤511):OkW ((List.replicate 10 d0).set 0 (2,m,o,o,0,0,false,ByteArray.empty,[])):=by
 generalize hf:(List.replicate 10 d0).set 0 (2,m,o,o,0,0,false,ByteArray.empty,[])=f
 have hg:∀ j,f.getD j d0=if j=0 then (2,m,o,o,0,0,false,ByteArray.empty,[]) else d0:=fun j=>by
  rw [← hf,getD_set1 (by simp)]
  split
  ·rfl
  ·rw [List.getD_eq_getElem?_getD,List.getElem?_replicate]
   split <;> rfl
 have hn:∀ j,nm (f.getD j d0)=[]:=fun j=>by rw [hg]; split <;> rfl
 have hids:∀ j,ids f j=[]:=fun j=>by simp only [ids,hn]; rfl
 have hm0:∀ x,Gr.many (ids f) 10 x=0:=fun x=>by
  rw [Gr.many_congr (e:=fun _=>[]) (e':=ids f) (fun j _=>by rw [hids])]
  rfl
 refine OkW.of (by rw [← hf]; simp) (by rw [hg]; rfl) (fun j hj hk=>?_) (fun j hj hk=>?_) (fun j hj=>?_) (fun j hj hk=>?_) (fun j hj hk=>?_) (fun x hx hf' hx0=>?_) (fun x hx hf'=>?_)
 ·rw [hg] at hk ⊢
  split
  ·exact ⟨by show (1:Int)≤2∧(2:Int)≤2; omega,hm,by show (0:Int)≤0∧(0:Int)≤99; omega,fun _=>⟨Nat.zero_le _,rfl⟩,fun _=>⟨rfl,rfl,Nat.zero_le _⟩⟩
  ·rename_i e; rw [if_neg e] at hk; exact absurd rfl hk
 ·rw [hg] at hk ⊢
  split
  ·rename_i e; rw [if_pos e] at hk; cases hk
  ·exact zr_d0
 ·rw [hn]; exact ⟨fun e he=>(List.not_mem_nil he).elim,List.Pairwise.nil⟩
 ·rw [hm0,hg]
  split <;> rfl
 ·rw [hg] at hk
  split at hk <;> cases hk
 ·simp only [fold,hg,if_neg hx0] at hf'
  cases hf'
 ·by_cases e:x=0
  ·subst e; exact ⟨0,.root⟩
  ·simp only [fold,hg,if_neg e] at hf'
   cases hf'
theorem p71_eq (n:Nat) {l:List Int} (hl:Bys l) {pos:Int} (hp:0≤pos∧pos < 900000):∃ (s:ByteArray) (pos':Int),p71 n (l,pos)=some ((s,()),((l,pos'),()))∧(pos≤pos'∧pos'≤pos + 2)∧s.size≤10:=by
 show ∃ (s:ByteArray) (pos':Int),st71_top n (l,pos)=_∧_
 obtain ⟨v0,hv0,g0,g1⟩:=p102_eq n hl (pos:=pos) (b:=24) (by omega) (by omega)
 obtain ⟨v1,hv1,g2,g3⟩:=p102_eq n hl (pos:=pos + 1) (b:=5) (by omega) (by omega)
 obtain ⟨v2,hv2,g4,g5⟩:=p102_eq n hl (pos:=pos + 1) (b:=4) (by omega) (by omega)
 have e5:∀ (a b c d e:ByteArray),decide (v1 < (([a,b,c,d,e].length:Nat):Int))=true:=fun _ _ _ _ _=>decide_eq_true (by simp; omega)
 have e4:∀ (a b c d:ByteArray),decide (v2 < (([a,b,c,d].length:Nat):Int))=true:=fun _ _ _ _=>decide_eq_true (by simp; omega)
 simp only [st71_top,q102,hv0,hv1,hv2,Option.bind_some,g2,g4,decide_true,cond_true,e5,e4]
 cases decide (v0=0) with
 | true =>
  refine ⟨_,_,rfl,by omega,?_⟩
  have:v1=0∨v1=1∨v1=2∨v1=3∨v1=4:=by omega
  rcases this with h | h | h | h | h <;> subst h <;> decide
 | false =>
  refine ⟨_,_,rfl,by omega,?_⟩
  have:v2=0∨v2=1∨v2=2∨v2=3:=by omega
  rcases this with h | h | h | h <;> subst h <;> decide
theorem p56_L3_eq (n:Nat) (hn:2000000 < n) {l:List Int} (hl:Bys l):∀ (m k:Nat) (pos:Int) (f:List Nd),k≤100→k < m→0≤pos∧pos + 50 * k < 500000→OkW f →
  ∃ (f':List Nd) (pos':Int),p56_L3 n m (k:Int) l pos f=some ((f',()),((l,pos'),()))∧(pos≤pos'∧pos'≤pos + 50 * k + 10)∧SzF 2000000 f'
 | 0,k,pos,f,_,h,_,_=>by omega
 | m + 1,k,pos,f,hk,hm,hp,h=>by
  show ∃ (f':List Nd) (pos':Int),st56_L3 n (p56_L3 n m) (k:Int) l pos f=_∧_
  cases k with
  | succ k =>
   obtain ⟨f1,p1,h1,h2,h3⟩:=p113_eq n hn hl (pos:=pos) (by omega) h
   have h0:decide ((0:Int) < ((k + 1:Nat):Int))=true:=decide_eq_true (by omega)
   have e1:IntKind.i64.wrap (((k + 1:Nat):Int) - 1)=(k:Int):=(wr (by omega) (by omega)).trans (by omega)
   simp only [st56_L3,h0,cond_true,q113,h1,Option.bind_some,e1]
   obtain ⟨f',pos',a1,a2,a3⟩:=p56_L3_eq n hn hl m k p1 f1 (by omega) (by omega) (by omega) h3
   exact ⟨f',pos',a1,by omega,a3⟩
  | zero =>
   have h0:decide ((0:Int) < ((0:Nat):Int))=false:=rfl
   obtain ⟨v6,hv6,_,_⟩:=p102_eq n hl (pos:=pos) (b:=24) (by omega) (by omega)
   obtain ⟨a,ha,a0,a1⟩:=p102_eq n hl (pos:=pos + 1) (b:=5) (by omega) (by omega)
   obtain ⟨b3,hb3,_,_⟩:=p102_eq n hl (pos:=pos + 1 + 1) (b:=3) (by omega) (by omega)
   obtain ⟨b5,hb5,c0,c1⟩:=p102_eq n hl (pos:=pos + 1 + 1) (b:=5) (by omega) (by omega)
   obtain ⟨b4,hb4,d0',d1⟩:=p102_eq n hl (pos:=pos + 1 + 1) (b:=4) (by omega) (by omega)
   obtain ⟨s,ps,hs,hs1,hs2⟩:=p71_eq n hl (pos:=pos + 1 + 1 + 1) (by omega)
   obtain ⟨w,hw,_,_⟩:=p102_eq n hl (pos:=ps) (b:=11) (by omega) (by omega)
   have hz:=OkW.szF h
   have hlen:=h.len
   obtain ⟨ia,rfl⟩:=Int.eq_ofNat_of_zero_le a0
   obtain ⟨ib,rfl⟩:=Int.eq_ofNat_of_zero_le c0
   have la:ia < f.length:=by omega
   have lb:ib < f.length:=by omega
   have hnb:=h.nlen ib (by omega)
   have e24:decide (((nm (f.getD ib d0)).length + [(s,w)].length) * (24:Nat)≤(140737488355328:Nat))=true:=decide_eq_true (by simp only [List.length_cons,List.length_nil]; omega)
   have e4:decide (b4 < (([(99:Int),100,-1,0].length:Nat):Int))=true:=decide_eq_true (by simp; omega)
   have e1:decide ((1:Int)≤(f.length:Int))=true:=decide_eq_true (by omega)
   have hga:=hz.getD la
   have hgb:=hz.getD lb
   simp only [nm,d0] at e24
   simp only [st56_L3,h0,cond_false,q102,hv6,ha,hb3,hb5,hb4,hw,q71,hs,Option.bind_some,ge_t,lt_t la,lt_t lb,cond_true,toNat_cast,e24,d0',decide_true,e4,e1]
   cases decide (v6=0) with
   | true=>exact ⟨_,_,rfl,by omega,hz.set ⟨hga.tx,hga.nm,hga.en⟩⟩
   | false =>
   cases decide (v6=1) with
   | true =>
    refine ⟨_,_,rfl,by omega,hz.set ⟨hga.tx,?_,fun e he=>?_⟩⟩
    ·show ((nm (f.getD ib d0)) ++ [(s,w)]).length≤_
     rw [List.length_append,List.length_singleton]; omega
    ·have he':e ∈ (nm (f.getD ib d0)) ++ [(s,w)]:=he
     rcases List.mem_append.1 he' with he' | he'
     ·exact hgb.en e he'
     ·rw [List.mem_singleton.1 he']; show s.size≤_; omega
   | false =>
   cases decide (v6=2) with
   | true=>exact ⟨_,_,rfl,by omega,hz.set ⟨hga.tx,hga.nm,hga.en⟩⟩
   | false =>
   cases decide (v6=3) with
   | true =>
    refine ⟨_,_,rfl,by omega,⟨?_,fun x hx=>hz.nd x (List.mem_of_mem_drop (List.mem_of_mem_take hx))⟩⟩
    simp only [List.length_take,List.length_drop]; omega
   | false =>
   cases decide (v6=4) with
   | true=>exact ⟨_,_,rfl,by omega,hz.set ⟨hga.tx,hga.nm,hga.en⟩⟩
   | false=>exact ⟨_,_,rfl,by omega,hz⟩
theorem p56_eq (n:Nat) (hn:2000000 < n) {l:List Int} (hl:Bys l) {pos:Int} (hp:0≤pos∧pos < 100000) :
  ∃ (f:List Nd) (pos':Int),p56 n (l,pos)=some ((f,()),((l,pos'),()))∧(pos≤pos'∧pos'≤pos + 1000)∧SzF 2000000 f:=by
 show ∃ (f:List Nd) (pos':Int),st56_top n (p56_L3 n n) (l,pos)=_∧_
 obtain ⟨v0,hv0,g0,g1⟩:=p102_eq n hl (pos:=pos) (b:=3) (by omega) (by omega)
 obtain ⟨v1,hv1,g2,g3⟩:=p102_eq n hl (pos:=pos + 1) (b:=3) (by omega) (by omega)
 obtain ⟨v2,hv2,g4,g5⟩:=p102_eq n hl (pos:=pos + 1 + 1) (b:=16) (by omega) (by omega)
 have e3:decide (v1 < (([(493:Int),511,448].length:Nat):Int))=true:=decide_eq_true (by simp; omega)
 have hm:=md3 g2 g3
 have h88:=p112_eq n v0 ([(493:Int),511,448].getD v1.toNat 0) (by omega) hm
 obtain ⟨k,rfl⟩:=Int.eq_ofNat_of_zero_le g4
 simp only [st56_top,q102,hv0,hv1,hv2,Option.bind_some,g2,decide_true,cond_true,e3,q112,h88]
 obtain ⟨f,pos',a1,a2,a3⟩:=p56_L3_eq n hn hl n k (pos + 1 + 1 + 1) _ (by omega) (by omega) (by omega) (new_ok v0 _ hm)
 exact ⟨f,pos',a1,by omega,a3⟩
end Go.Proofs.Ytbjgiioppmkpiaa.Rx.S

namespace Go.Proofs.Ytbjgiioppmkpiaa.Rx.S
open Go Go.Proofs.Ytbjgiioppmkpiaa.Rx.Pu Go.Proofs.Ytbjgiioppmkpiaa.Rx.Fs
set_option linter.unusedVariables false
set_option linter.unusedSimpArgs false
theorem bb (b:Bool):(!(b == b))=false:=by cases b <;> rfl
theorem bb2 (b:Bool):(!b == b)=false:=by cases b <;> rfl
theorem p68_refl (n:Nat) (a:Nd) (hl:(nm a).length≤2000000) (hn:(nm a).length < n):p68 n a a=some ((true,()),()):=by
 show st68_top n (p68_L4 n n) a a=_
 simp only [st68_top,decide_true,Bool.not_true,cond_false,beq_self_eq_true,bb2]
 exact round_loop (F:=fun k i=>p68_L4 n k i a.1 a.2.1 a.2.2.1 a.2.2.2.1 a.2.2.2.2.1 a.2.2.2.2.2.1 a.2.2.2.2.2.2.1 a.2.2.2.2.2.2.2.1 (nm a) a.1 a.2.1 a.2.2.1 a.2.2.2.1 a.2.2.2.2.1 a.2.2.2.2.2.1 a.2.2.2.2.2.2.1 a.2.2.2.2.2.2.2.1 (nm a)) (r:=some ((true,()),())) (nm a).length (fun k i hi=>by
  show st68_L4 n (p68_L4 n k) i a.1 a.2.1 a.2.2.1 a.2.2.2.1 a.2.2.2.2.1 a.2.2.2.2.2.1 a.2.2.2.2.2.2.1 a.2.2.2.2.2.2.2.1 (nm a) a.1 a.2.1 a.2.2.1 a.2.2.2.1 a.2.2.2.2.1 a.2.2.2.2.2.1 a.2.2.2.2.2.2.1 a.2.2.2.2.2.2.2.1 (nm a)=_
  simp only [st68_L4,lt_t hi,ge_t,cond_true,toNat_cast,beq_self_eq_true,decide_true,Bool.and_true,Bool.not_true,cond_false]
  rw [wr_succ (by omega)]) (fun k=>by
  show st68_L4 n (p68_L4 n k) ((nm a).length:Int) a.1 a.2.1 a.2.2.1 a.2.2.2.1 a.2.2.2.2.1 a.2.2.2.2.2.1 a.2.2.2.2.2.2.1 a.2.2.2.2.2.2.2.1 (nm a) a.1 a.2.1 a.2.2.1 a.2.2.2.1 a.2.2.2.2.1 a.2.2.2.2.2.1 a.2.2.2.2.2.2.1 a.2.2.2.2.2.2.2.1 (nm a)=_
  simp only [st68_L4,lt_f,cond_false]) (nm a).length n 0 (by omega) hn
theorem p18_refl (n:Nat) (l:List Nd) (h:SzF 2000000 l) (hn:2000000 < n):p18 n l l=some ((true,()),()):=by
 have hlen:=h.len
 show st18_top n (p18_L4 n n) l l=_
 simp only [st18_top,decide_true,Bool.not_true,cond_false]
 exact round_loop (F:=fun k i=>p18_L4 n k i l l) (r:=some ((true,()),())) l.length (fun k i hi=>by
  show st18_L4 n (p18_L4 n k) i l l=_
  have hc:=p68_refl n (l.getD i d0) (h.nd _ (getD_mem hi d0)).nm (by have:=(h.nd _ (getD_mem hi d0)).nm; omega)
  simp only [d0] at hc
  simp only [st18_L4,lt_t hi,ge_t,cond_true,toNat_cast,q68,hc,Option.bind_some,Bool.not_true,cond_false]
  rw [wr_succ (by omega)]) (fun k=>by
  show st18_L4 n (p18_L4 n k) l.length l l=_
  simp only [st18_L4,lt_f,cond_false]) l.length n 0 (by omega) (by omega)
end Go.Proofs.Ytbjgiioppmkpiaa.Rx.S

namespace Go.Proofs.Ytbjgiioppmkpiaa.Rx.S
open Go Go.Proofs.Ytbjgiioppmkpiaa.Rx.Pu Go.Proofs.Ytbjgiioppmkpiaa.Rx.Fs
set_option linter.unusedVariables false
theorem u8_wf {x:Int} (h:(Lit.int .u8 x).wf=true):0≤x∧x < 256:=by
 simp only [Lit.wf,Bool.and_eq_true,decide_eq_true_eq,IntKind.min,IntKind.max,IntKind.signed,IntKind.bits,Bool.false_eq_true,if_false] at h
 omega
theorem bytes_wf {xs:List Int} (h:WfT (.row 5 (.int .u8)) xs):∀ x ∈ xs,0≤x∧x < 256:=fun x hx=>u8_wf (h.2 x hx)
end Go.Proofs.Ytbjgiioppmkpiaa.Rx.S

namespace Go.Proofs.Ytbjgiioppmkpiaa.Rx.S
open Go Go.Proofs.Ytbjgiioppmkpiaa.Rx.Pu Go.Proofs.Ytbjgiioppmkpiaa.Rx.Fs
set_option linter.unusedVariables false
set_option linter.unusedSimpArgs false
def ownAll (f:List Nd):Prop:=∀ j,j < 10→kd (f.getD j d0) ≠ 0→ownW (f.getD j d0)
theorem ownAll.set {f:List Nd} (h:ownAll f) {i:Nat} {a:Nd} (ha:kd a ≠ 0→ownW a):ownAll (f.set i a):=fun j hj hk=>by
 rw [getD_set_i] at hk ⊢
 split
 ·rename_i e; rw [if_pos e] at hk; exact ha hk
 ·rename_i e; rw [if_neg e] at hk; exact h j hj hk
end Go.Proofs.Ytbjgiioppmkpiaa.Rx.S

namespace Go.Proofs.Ytbjgiioppmkpiaa.Rx.S
open Go Go.Proofs.Ytbjgiioppmkpiaa.Rx.Pu Go.Proofs.Ytbjgiioppmkpiaa.Rx.Fs
set_option linter.unusedVariables false
set_option linter.unusedSimpArgs false
theorem ownAll.take {f:List Nd} (h:ownAll f) {i:Nat} (hi:i < 10) (k:Nat):ownAll (takeE f i k):=h.set (a:=setNm (f.getD i d0) ((nm (f.getD i d0)).eraseIdx k)) (fun hk=>h i hi hk)
theorem ownAll.put {f:List Nd} (h:ownAll f) {i:Nat} (hi:i < 10) (x:En):ownAll (putE f i x):=h.set (a:=setNm (f.getD i d0) (insE x (nm (f.getD i d0)))) (fun hk=>h i hi hk)
theorem ownAll.lk {f:List Nd} (h:ownAll f) {y:Nat} (hy:y < 10) (v:Int):ownAll (f.set y (setLk (f.getD y d0) v)):=h.set (a:=setLk (f.getD y d0) v) (fun hk=>h y hy hk)
theorem ownAll.free {f:List Nd} (h:ownAll f) (y:Nat):ownAll (freeF f y):=by
 unfold freeF
 cases freeBf f y with
 | true=>exact h.set (fun hk=>absurd rfl hk)
 | false=>exact h
def m31 (d:Int):Bool:=(!mayV (IntKind.i64.wrap (d.tdiv 64)) 3 || mayV (IntKind.i64.wrap (d.tdiv 64)) 1)&&((!mayV ((IntKind.i64.wrap (d.tdiv 8)).tmod 8) 3 || mayV ((IntKind.i64.wrap (d.tdiv 8)).tmod 8) 1)&&(!mayV (d.tmod 8) 3 || mayV (d.tmod 8) 1))
theorem m31_all:∀ d:Fin 512,m31 ((d.1:Nat):Int)=true:=by decide +kernel
theorem may31 {c:Cr} {a:Nd} (hb:baseW a) (h:mayN c a 3=true):mayN c a 1=true:=by
  unfold mayN mayS at h ⊢
  obtain ⟨d,hd⟩:=Int.eq_ofNat_of_zero_le hb.2.1.1
  have hm:=m31_all ⟨d,by have:=hb.2.1.2; omega⟩
  rw [hd] at h ⊢
  simp only [m31,Bool.and_eq_true,Bool.or_eq_true,Bool.not_eq_true'] at hm
  obtain ⟨h1,h2,h3⟩:=hm
  revert h
  cases decide (c.1=0) with
  | true =>
    simp only [cond_true]
    cases decide ((0:Int) < IntKind.i64.wrap (IntKind.i64.wrap (((d:Nat):Int).tmod 2 + (IntKind.i64.wrap (((d:Nat):Int).tdiv 8)).tmod 2) + (IntKind.i64.wrap (((d:Nat):Int).tdiv 64)).tmod 2)) with
    | true=>intro _; exact (by decide:mayV 7 1=true)
    | false=>intro h; exact absurd h (by decide)
  | false =>
    simp only [cond_false]
    cases decide (c.1=ow a) with
    | true => simp only [cond_true]; intro h; rcases h1 with h1 | h1
              · rw [h] at h1; cases h1
              · exact h1
    | false =>
      simp only [cond_false]
      cases inB c.2.2 (gr a) with
      | true =>
        simp only [cond_true]; intro h
        rcases h2 with h2 | h2
        · rw [h] at h2; cases h2
        · exact h2
      | false =>
        simp only [cond_false]; intro h
        rcases h3 with h3 | h3
        · rw [h] at h3; cases h3
        · exact h3
noncomputable def lookD (f:List Nd) (c:Cr) (i:Nat) (name:ByteArray):Int × Int :=
 bif !decide (kd (f.getD i d0)=2) then (-1,4) else bif !mayN c (f.getD i d0) 1 then (-1,5) else bif !hasE name (nm (f.getD i d0)) then (-1,2) else (((nm (f.getD i d0)).getD (posE name (nm (f.getD i d0))) e0).2,0)
noncomputable def lookR (f:List Nd) (c:Cr) (id:Int) (name:ByteArray):Int × Int:=bif okS f&&(credOk c&&(hasB f id&&nmOk name)) then lookD f c id.toNat name else (-1,1)
theorem p23_eq (n:Nat) (f:List Nd) (c:Cr) (id:Int) (name:ByteArray) (hl:c.2.2.length≤2000000) (hn:2000000 < n):p23 n f c id name=some (((lookR f c id name).1,((lookR f c id name).2,())),()):=by
 have h1:=p60_eq n f c [id] hl (by simp) hn
 have e:(c.1,c.2.1,c.2.2)=c:=rfl
 show st23_top n f c id name=_
 unfold lookR
 simp only [st23_top,q60,e,h1,Option.bind_some,q70,p70_eq n (by omega) name,List.all_cons,List.all_nil,Bool.and_true]
 cases hok:okS f; · rfl
 cases hcr:credOk c; · rfl
 cases hh:hasB f id; · rfl
 obtain ⟨i,rfl,hi10,hk⟩:=hasB_kd hh
 have hF:=(okS_iff f).1 hok
 have hW:=hF.toW
 have hi:i < f.length:=by rw [hW.len]; exact hi10
 cases hnm:nmOk name; · rfl
 have ee:∀ x:Nd,(x.1,x.2.1,x.2.2.1,x.2.2.2.1,x.2.2.2.2.1,x.2.2.2.2.2.1,x.2.2.2.2.2.2.1,x.2.2.2.2.2.2.2.1,x.2.2.2.2.2.2.2.2)=x:=fun _=>rfl
 have hpw:=OkW.pw hW hi10
 have hnl:=hW.nlen i hi10
 have h73:=p73_eq n (f.getD i d0) name hpw (by omega) hn
 have h72:=p72_eq n (f.getD i d0) c 1 hcr (((okW_iff f).1 hF).2 i hi10 hk) (hW.base i hi10 hk) (by omega) hl hn
 unfold lookD
 simp only [Bool.not_true,Bool.true_and,cond_false,cond_true,toNat_cast]
 have h73':=h73
 have h72':=h72
 simp only [d0] at h73' h72'
 simp only [lt_t hi,ge_t,cond_true,Option.bind_some,ee,q73,h73',q72,h72']
 by_cases hk2:kd (f.getD i d0)=2
 ·have hk2':(f.getD i ZN).1=2:=hk2
  simp only [hk2,hk2',decide_true,Bool.not_true,cond_false]
  cases hm:mayN c (f.getD i d0) 1 with
  | false =>
   have hm':=hm
   simp only [d0] at hm'
   simp only [hm',Bool.not_false,cond_true]
  | true =>
   have hm':=hm
   simp only [d0] at hm'
   simp only [hm',Bool.not_true,cond_false]
   cases hhs:hasE name (nm (f.getD i d0)) with
   | false =>
    have hhs':=hhs
    simp only [d0] at hhs'
    simp only [hhs',Bool.not_false,cond_true]
   | true =>
    have hlt:posE name (nm (f.getD i d0)) < (nm (f.getD i d0)).length:=by
     simp only [hasE,Bool.and_eq_true,decide_eq_true_eq] at hhs; exact hhs.1
    have hlt':decide ((posE name (nm (f.getD i d0)):Int) < (((f.getD i d0).2.2.2.2.2.2.2.2).length:Int))=true:=decide_eq_true (by have:=hlt; simp only [nm] at this ⊢; omega)
    have hhs':=hhs
    simp only [d0] at hhs' hlt'
    simp only [hhs',Bool.not_true,cond_false,ge_t,hlt',cond_true,toNat_cast]
 ·have hk2':¬ (f.getD i ZN).1=2:=hk2
  simp only [hk2,hk2',decide_false,Bool.not_false,cond_true]
theorem hasB_of {f:List Nd} {i:Nat} (hi:i < 10) (hk:kd (f.getD i d0) ≠ 0):hasB f (i:Int)=true:=by
 unfold hasB
 simp only [Bool.and_eq_true,decide_eq_true_eq,Bool.not_eq_true',decide_eq_false_iff_not]
 exact ⟨by omega,hk⟩
theorem look_of {f:List Nd} (h:OkF f) {c:Cr} (hc:credOk c=true) {i:Nat} (hi:i < 10) (hk:kd (f.getD i d0)=2) {name:ByteArray} (hn:nmOk name=true) (hm:mayN c (f.getD i d0) 3=true) :
  lookR f c (i:Int) name=bif hasE name (nm (f.getD i d0)) then (((nm (f.getD i d0)).getD (posE name (nm (f.getD i d0))) e0).2,0) else (-1,2):=by
 unfold lookR lookD
 rw [(okS_iff f).2 h,hc,hasB_of hi (by omega),hn]
 simp only [Bool.and_true,cond_true,toNat_cast]
 rw [decide_eq_true hk,may31 (h.toW.base i hi (by omega)) hm]
 simp only [Bool.not_true,cond_false]
 cases hasE name (nm (f.getD i d0)) <;> rfl
structure DropOk (f:List Nd) (c:Cr) (name:ByteArray) (i k y:Nat):Prop where
 ok:OkF f
 cr:credOk c=true
 nmk:nmOk name=true
 hi:i < 10
 hy:y < 10
 y0:y ≠ 0
 iy:i ≠ y
 ki:kd (f.getD i d0)=2
 may:mayN c (f.getD i d0) 3=true
 has:hasE name (nm (f.getD i d0))=true
 hk:k=posE name (nm (f.getD i d0))
 kl:k < (nm (f.getD i d0)).length
 ent:(nm (f.getD i d0)).getD k e0=(name,(y:Int))
 ky:kd (f.getD y d0) ≠ 0
 emp:kd (f.getD y d0)=2→nm (f.getD y d0)=[]∧op (f.getD y d0)=0
noncomputable def dropN (f:List Nd) (i k y:Nat):List Nd:=freeF (takeE (f.set y (setLk (f.getD y d0) (lk (f.getD y d0) - 1))) i k) y
theorem dropN_get {f:List Nd} (hlen:f.length=10) {i k y:Nat} (hi:i < 10) (hy:y < 10) (hiy:i ≠ y) (hy0:y ≠ 0) (j:Nat):(dropN f i k y).getD j d0 =
  if j=y then (if lk (f.getD y d0) - 1=0∧op (f.getD y d0)=0 then d0 else setLk (f.getD y d0) (lk (f.getD y d0) - 1)) else if j=i then setNm (f.getD i d0) ((nm (f.getD i d0)).eraseIdx k) else f.getD j d0:=by
 have hg:(f.set y (setLk (f.getD y d0) (lk (f.getD y d0) - 1))).getD i d0=f.getD i d0:=by rw [getD_set1 (by rw [hlen]; exact hy),if_neg hiy]
 have ht:takeE (f.set y (setLk (f.getD y d0) (lk (f.getD y d0) - 1))) i k=(f.set y (setLk (f.getD y d0) (lk (f.getD y d0) - 1))).set i (setNm (f.getD i d0) ((nm (f.getD i d0)).eraseIdx k)):=by unfold takeE; rw [hg]
 have h2:=ids_set2 hlen hi hy hiy (setLk (f.getD y d0) (lk (f.getD y d0) - 1)) (setNm (f.getD i d0) ((nm (f.getD i d0)).eraseIdx k))
 have hyn:((f.set y (setLk (f.getD y d0) (lk (f.getD y d0) - 1))).set i (setNm (f.getD i d0) ((nm (f.getD i d0)).eraseIdx k))).getD y d0=setLk (f.getD y d0) (lk (f.getD y d0) - 1):=by rw [h2,if_neg (Ne.symm hiy),if_pos rfl]
 unfold dropN freeF freeBf
 rw [ht,hyn,decide_eq_false hy0]
 have e1:lk (setLk (f.getD y d0) (lk (f.getD y d0) - 1))=lk (f.getD y d0) - 1:=rfl
 have e2:op (setLk (f.getD y d0) (lk (f.getD y d0) - 1))=op (f.getD y d0):=rfl
 rw [e1,e2]
 by_cases hb:lk (f.getD y d0) - 1=0∧op (f.getD y d0)=0
 ·rw [decide_eq_true hb.1,decide_eq_true hb.2,if_pos hb]
  simp only [Bool.not_false,Bool.and_true,cond_true]
  rw [getD_set1 (by rw [List.length_set,List.length_set,hlen]; exact hy),h2]
  by_cases e:j=y
  ·rw [if_pos e,if_pos e]
  ·rw [if_neg e,if_neg e,if_neg e]
 ·rw [if_neg hb]
  have:(!false&&(decide (lk (f.getD y d0) - 1=0)&&decide (op (f.getD y d0)=0)))=false:=by
   cases h:(decide (lk (f.getD y d0) - 1=0)&&decide (op (f.getD y d0)=0)) with
   | false=>rfl
   | true=>simp only [Bool.and_eq_true,decide_eq_true_eq] at h; exact absurd h hb
  rw [this]
  simp only [cond_false]
  rw [h2]
  by_cases e:j=y
  ·subst e; rw [if_neg (Ne.symm hiy),if_pos rfl,if_pos rfl]
  ·by_cases e':j=i
   ·simp only [if_neg e,if_pos e']
   ·simp only [if_neg e,if_neg e']
theorem has_erase {s:ByteArray} {es:List En} (hp:es.Pairwise ltE) (h:hasE s es=true):hasE s (es.eraseIdx (posE s es))=false:=by
 cases hx:hasE s (es.eraseIdx (posE s es)) with
 | false=>rfl
 | true =>
  exfalso
  have hk:posE s es < es.length:=by have:=h; simp only [hasE,Bool.and_eq_true,decide_eq_true_eq] at this; exact this.1
  have hs:(es.getD (posE s es) e0).1=s:=by have:=h; simp only [hasE,Bool.and_eq_true,decide_eq_true_eq] at this; exact this.2
  simp only [hasE,Bool.and_eq_true,decide_eq_true_eq] at hx
  obtain ⟨hx1,hx2⟩:=hx
  generalize posE s (es.eraseIdx (posE s es))=j at hx1 hx2
  rw [getD_get hx1,List.getElem_eraseIdx] at hx2
  have hl:=List.length_eraseIdx (l:=es) (i:=posE s es)
  rw [if_pos hk] at hl
  rw [getD_get hk] at hs
  split at hx2
  ·rename_i hj
   have:=List.pairwise_iff_getElem.1 hp j (posE s es) (by omega) hk hj
   have h4:lt es[j].1 es[posE s es].1=true:=this
   rw [hx2,hs,lt_irrefl] at h4; cases h4
  ·rename_i hj
   have:=List.pairwise_iff_getElem.1 hp (posE s es) (j + 1) hk (by omega) (by omega)
   have h4:lt es[posE s es].1 es[j + 1].1=true:=this
   rw [hx2,hs,lt_irrefl] at h4; cases h4
end Go.Proofs.Ytbjgiioppmkpiaa.Rx.S

namespace Go.Proofs.Ytbjgiioppmkpiaa.Rx.S
open Go Go.Proofs.Ytbjgiioppmkpiaa.Rx.Pu Go.Proofs.Ytbjgiioppmkpiaa.Rx.Fs
set_option linter.unusedVariables false
set_option linter.unusedSimpArgs false
theorem ins_posE (s:ByteArray) (v:Int):∀ es:List En,(∀ e ∈ es,e.1 ≠ s)→posE s (insE (s,v) es)=posE s es
 | [],_=>by simp [insE,posE,lt_irrefl]
 | y :: ys,h=>by
  simp only [insE]
  rcases lt_total s y.1 with h1 | h1 | h1
  ·rw [h1]
   simp only [cond_true,posE,lt_irrefl,lt_asymm h1,cond_false]
  ·exact absurd h1.symm (h y List.mem_cons_self)
  ·rw [lt_asymm h1]
   simp only [cond_false,posE,h1,cond_true]
   rw [ins_posE s v ys (fun e he=>h e (List.mem_cons_of_mem _ he))]
theorem ins_erase (s:ByteArray) (v:Int):∀ es:List En,(∀ e ∈ es,e.1 ≠ s)→(insE (s,v) es).eraseIdx (posE s es)=es
 | [],_=>rfl
 | y :: ys,h=>by
  simp only [insE]
  rcases lt_total s y.1 with h1 | h1 | h1
  ·rw [h1]
   simp only [cond_true,posE,lt_asymm h1,cond_false,List.eraseIdx_cons_zero]
  ·exact absurd h1.symm (h y List.mem_cons_self)
  ·rw [lt_asymm h1]
   simp only [cond_false,posE,h1,cond_true,List.eraseIdx_cons_succ]
   rw [ins_erase s v ys (fun e he=>h e (List.mem_cons_of_mem _ he))]
theorem ins_get (s:ByteArray) (v:Int):∀ es:List En,(∀ e ∈ es,e.1 ≠ s)→(insE (s,v) es).getD (posE s es) e0=(s,v)
 | [],_=>rfl
 | y :: ys,h=>by
  simp only [insE]
  rcases lt_total s y.1 with h1 | h1 | h1
  ·rw [h1]
   simp only [cond_true,posE,lt_asymm h1,cond_false,List.getD_cons_zero]
  ·exact absurd h1.symm (h y List.mem_cons_self)
  ·rw [lt_asymm h1]
   simp only [cond_false,posE,h1,cond_true,List.getD_cons_succ]
   exact ins_get s v ys (fun e he=>h e (List.mem_cons_of_mem _ he))
theorem ins_has (s:ByteArray) (v:Int) (es:List En) (h:∀ e ∈ es,e.1 ≠ s):hasE s (insE (s,v) es)=true:=by
 unfold hasE
 rw [ins_posE s v es h,ins_get s v es h,decide_eq_true (by rw [insE_len]; have:=posE_le s es; omega)]
 simp
theorem nd_ext {f g:List Nd} (hf:f.length=10) (hg:g.length=10) (h:∀ j,j < 10→f.getD j d0=g.getD j d0):f=g:=by
 apply List.ext_getElem (by rw [hf,hg])
 intro j h1 h2
 have:=h j (by omega)
 rw [getD_get h1,getD_get h2] at this
 exact this
structure PutOk (f:List Nd) (c:Cr) (name:ByteArray) (i y:Nat) (A:Nd):Prop where
 ok:OkF f
 cr:credOk c=true
 nmk:nmOk name=true
 hi:i < 10
 hy:y < 10
 y0:y ≠ 0
 iy:i ≠ y
 ki:kd (f.getD i d0)=2
 may:mayN c (f.getD i d0) 3=true
 no:hasE name (nm (f.getD i d0))=false
 kA:kd A ≠ 0
 nA:nm A=[]
 oA:kd A=2→op A=0
 okN:OkF (putE (f.set y A) i (name,(y:Int)))
theorem put_get {f:List Nd} (hlen:f.length=10) {i y:Nat} (hi:i < 10) (hy:y < 10) (hiy:i ≠ y) (A:Nd) (x:En) (j:Nat):(putE (f.set y A) i x).getD j d0=if j=i then setNm (f.getD i d0) (insE x (nm (f.getD i d0))) else if j=y then A else f.getD j d0:=by
 have hg:(f.set y A).getD i d0=f.getD i d0:=by rw [getD_set1 (by rw [hlen]; exact hy),if_neg hiy]
 unfold putE
 rw [hg]
 exact ids_set2 hlen hi hy hiy _ _ j
theorem PutOk.drop {f:List Nd} {c:Cr} {name:ByteArray} {i y:Nat} {A:Nd} (h:PutOk f c name i y A) (hback:(if lk A - 1=0∧op A=0 then d0 else setLk A (lk A - 1))=f.getD y d0) :
  dropR (putE (f.set y A) i (name,(y:Int))) c (i:Int) name=(f,0):=by
 have hg:=put_get h.ok.len h.hi h.hy h.iy A (name,(y:Int))
 have gi:=hg i
 rw [if_pos rfl] at gi
 have gy:=hg y
 rw [if_neg (Ne.symm h.iy),if_pos rfl] at gy
 have hno:=has_no (OkW.pw h.ok.toW h.hi) h.no
 obtain ⟨F,hF⟩:∃ F,putE (f.set y A) i (name,(y:Int))=F:=⟨_,rfl⟩
 have hok:=h.okN
 rw [hF] at hg gi gy hok ⊢
 have e:nm (F.getD i d0)=insE (name,(y:Int)) (nm (f.getD i d0)):=by rw [gi]; rfl
 have hat:=atI_pos name (OkW.pw hok.toW h.hi)
 rw [e,ins_has _ _ _ hno,ins_posE _ _ _ hno] at hat
 simp only [if_true] at hat
 have hki:kd (F.getD i d0)=2:=by rw [gi]; exact h.ki
 have hm:mayN c (F.getD i d0) 3=true:=by rw [gi]; exact h.may
 unfold dropR
 rw [(okS_iff _).2 hok,h.cr,hasB_of h.hi (by omega),h.nmk]
 simp only [Bool.and_true,cond_true,toNat_cast]
 unfold dropD
 have hin:inF c (F.getD i d0) 3=0:=by unfold inF; rw [decide_eq_true hki,hm]; rfl
 rw [decide_eq_true hin]
 have hneg:decide (((posE name (nm (f.getD i d0)):Nat):Int) < 0)=false:=decide_eq_false (by omega)
 have ht:tgt F i ((posE name (nm (f.getD i d0)):Nat):Int)=y:=by unfold tgt; rw [toNat_cast,e,ins_get _ _ _ hno,toNat_cast]
 have hb:(decide (kd (F.getD y d0)=2)&&(decide (0 < ((nm (F.getD y d0)).length:Int)) || decide (0 < op (F.getD y d0))))=false:=by
  rw [gy,h.nA]
  by_cases hk2:kd A=2
  ·rw [h.oA hk2]; simp
  ·rw [decide_eq_false hk2]; rfl
 simp only [Bool.not_true,cond_false,e,hat,hneg,ht,hb,toNat_cast]
 have hx:dropN F i (posE name (nm (f.getD i d0))) y=f:=by
  refine nd_ext ?_ h.ok.len (fun j hj=>?_)
  ·unfold dropN freeF takeE
   cases freeBf ((F.set y (setLk (F.getD y d0) (lk (F.getD y d0) - 1))).set i (setNm ((F.set y (setLk (F.getD y d0) (lk (F.getD y d0) - 1))).getD i d0) ((nm ((F.set y (setLk (F.getD y d0) (lk (F.getD y d0) - 1))).getD i d0)).eraseIdx (posE name (nm (f.getD i d0)))))) y <;> simp [hok.len]
  ·rw [dropN_get hok.len h.hi h.hy h.iy h.y0]
   by_cases e1:j=y
   ·subst e1; rw [if_pos rfl,gy]; exact hback
   ·by_cases e2:j=i
    ·subst e2
     rw [if_neg e1,if_pos rfl,e,ins_erase _ _ _ hno,gi]
     rfl
    ·rw [if_neg e1,if_neg e2,hg,if_neg e2,if_neg e1]
 unfold dropN at hx
 rw [hx]
end Go.Proofs.Ytbjgiioppmkpiaa.Rx.S

namespace Go.Proofs.Ytbjgiioppmkpiaa.Rx.S
open Go Go.Proofs.Ytbjgiioppmkpiaa.Rx.Pu Go.Proofs.Ytbjgiioppmkpiaa.Rx.Fs Go.Proofs.Ytbjgiioppmkpiaa.Rx.Gr
set_option linter.unusedVariables false
set_option linter.unusedSimpArgs false
theorem p109_L5_eq (g2:Int→List Nd→Int→Int→Option R109) (n:Nat) (x k:Nat) (f:List Nd) (es:List En) (hes:es.length≤1000):∀ (d m q:Nat),q + d=es.length→d < m →
  (∃ s:ByteArray,p109_L5 g2 n m (x:Int) (k:Int) f (f.length:Int) (k:Int) es (es.length:Int) (q:Int)=some (((k:Int),(s,())),())∧∃ e ∈ es,e.2=(x:Int)) ∨
  (p109_L5 g2 n m (x:Int) (k:Int) f (f.length:Int) (k:Int) es (es.length:Int) (q:Int)=g2 (x:Int) f (f.length:Int) (IntKind.i64.wrap ((k:Int) + 1))∧∀ e ∈ es.drop q,e.2 ≠ (x:Int))
 | _,0,_,_,h=>by omega
 | 0,m + 1,q,hq,_=>by
  refine .inr ⟨?_,fun e he=>?_⟩
  ·show st109_L5 n (p109_L5 g2 n m) g2 (x:Int) (k:Int) f (f.length:Int) (k:Int) es (es.length:Int) (q:Int)=_
   have hg:decide ((q:Int) < (es.length:Int))=false:=decide_eq_false (by omega)
   simp only [st109_L5,hg,cond_false]
  ·rw [List.drop_of_length_le (by omega)] at he; exact (List.not_mem_nil he).elim
 | d + 1,m + 1,q,hq,hm=>by
  have hlt:q < es.length:=by omega
  have e0':(e0:En)=(ByteArray.empty,(0:Int)):=rfl
  by_cases he:(es.getD q e0).2=(x:Int)
  ·refine .inl ⟨(es.getD q e0).1,?_,_,getD_mem hlt e0,he⟩
   show st109_L5 n (p109_L5 g2 n m) g2 (x:Int) (k:Int) f (f.length:Int) (k:Int) es (es.length:Int) (q:Int)=_
   rw [e0'] at he ⊢
   simp only [st109_L5,lt_t hlt,ge_t,cond_true,toNat_cast,decide_eq_true he]
  ·have hs:p109_L5 g2 n (m + 1) (x:Int) (k:Int) f (f.length:Int) (k:Int) es (es.length:Int) (q:Int)=p109_L5 g2 n m (x:Int) (k:Int) f (f.length:Int) (k:Int) es (es.length:Int) ((q + 1:Nat):Int):=by
    show st109_L5 n (p109_L5 g2 n m) g2 (x:Int) (k:Int) f (f.length:Int) (k:Int) es (es.length:Int) (q:Int)=_
    have he':=he
    rw [e0'] at he'
    simp only [st109_L5,lt_t hlt,ge_t,cond_true,cond_false,toNat_cast,decide_eq_false he']
    rw [wr_succ (by omega)]
   rw [hs]
   rcases p109_L5_eq g2 n x k f es hes d m (q + 1) (by omega) (by omega) with h | ⟨h1,h2⟩
   ·exact .inl h
   ·refine .inr ⟨h1,fun e hm=>?_⟩
    have hd:es.drop q=es.getD q e0 :: es.drop (q + 1):=by rw [getD_get hlt]; exact List.drop_eq_getElem_cons hlt
    rw [hd] at hm
    rcases List.mem_cons.1 hm with rfl | hm
    ·exact he
    ·exact h2 e hm
theorem p109_L2_eq (n:Nat) (hn:100000 < n) {f:List Nd} (h:OkW f) (x:Nat):∀ (d m k:Nat),k + d=10→d < m→(∃ j,k≤j∧j < 10∧∃ e ∈ nm (f.getD j d0),e.2=(x:Int)) →
  ∃ (j:Nat) (s:ByteArray),p109_L2 n m (x:Int) f (f.length:Int) (k:Int)=some (((j:Int),(s,())),())∧j < 10∧∃ e ∈ nm (f.getD j d0),e.2=(x:Int)
 | _,0,_,_,h,_=>by omega
 | 0,m + 1,k,hk,_,⟨j,h1,h2,_⟩=>by omega
 | d + 1,m + 1,k,hk,hm,⟨j,h1,h2,h3⟩=>by
  have hkf:k < f.length:=by rw [h.len]; omega
  have hnl:=h.nlen k (by omega)
  have hs:p109_L2 n (m + 1) (x:Int) f (f.length:Int) (k:Int)=p109_L5 (p109_L2 n m) n n (x:Int) (k:Int) f (f.length:Int) (k:Int) (nm (f.getD k d0)) ((nm (f.getD k d0)).length:Int) ((0:Nat):Int):=by
   show st109_L2 n (p109_L5 (p109_L2 n m) n n) (x:Int) f (f.length:Int) (k:Int)=_
   simp only [st109_L2,lt_t hkf,ge_t,cond_true,toNat_cast]
   rfl
  rw [hs]
  rcases p109_L5_eq (p109_L2 n m) n x k f (nm (f.getD k d0)) (by omega) (nm (f.getD k d0)).length n 0 (by omega) (by omega) with ⟨s,a1,a2⟩ | ⟨a1,a2⟩
  ·exact ⟨k,s,a1,by omega,a2⟩
  ·rw [a1,wr_succ (by omega)]
   refine p109_L2_eq n hn h x d m (k + 1) (by omega) (by omega) ⟨j,?_,h2,h3⟩
   have:j ≠ k:=fun e=>by
    subst e
    obtain ⟨e,he1,he2⟩:=h3
    exact a2 e (by rw [List.drop_zero]; exact he1) he2
   omega
theorem p109_eq (n:Nat) (hn:100000 < n) {f:List Nd} (h:OkW f) {x p:Nat} (hp:p < 10) (hx:x ∈ ids f p):∃ (j:Nat) (s:ByteArray),p109 n f (x:Int)=some (((j:Int),(s,())),())∧j < 10∧x ∈ ids f j:=by
 have ent:∀ j,j < 10→∀ e ∈ nm (f.getD j d0),(e.2=(x:Int)↔e.2.toNat=x):=fun j hj e he=>by
  obtain ⟨_,h9,_⟩:=(h.entsOk hj).all e he
  omega
 obtain ⟨e,he,hex⟩:=List.mem_map.1 hx
 obtain ⟨j,s,h1,h2,e',he',hex'⟩:=p109_L2_eq n hn h x 10 n 0 (by omega) (by omega) ⟨p,Nat.zero_le _,hp,e,he,(ent p hp e he).2 hex⟩
 exact ⟨j,s,h1,h2,List.mem_map.2 ⟨e',he',(ent j h2 e' he').1 hex'⟩⟩
theorem take_put {f:List Nd} (hlen:f.length=10) {i k y t:Nat} (hi:i < 10) (hy:y < 10) (ht:t < 10) (hiy:i ≠ y) (hty:t ≠ y) (x:En):incL (putE (incL (takeE f i k) y (-1)) t x) y 1=putE (takeE f i k) t x:=by
 have l1:∀ (g:List Nd) a (b:Nd),(g.set a b).length=g.length:=fun g a b=>List.length_set
 have e1:(incL (takeE f i k) y (-1)).getD t d0=(takeE f i k).getD t d0:=by unfold incL; rw [getD_set_i,if_neg (fun h=>hty h.1.symm)]
 have e2:(takeE f i k).getD y d0=f.getD y d0:=by unfold takeE; rw [getD_set_i,if_neg (fun h=>hiy h.1)]
 refine nd_ext ?_ ?_ (fun j hj=>?_)
 ·unfold incL putE takeE; simp only [l1]; exact hlen
 ·unfold putE takeE; simp only [l1]; exact hlen
 ·have e3:(putE (incL (takeE f i k) y (-1)) t x).getD y d0=setLk (f.getD y d0) (lk (f.getD y d0) + -1):=by
   unfold putE
   rw [getD_set_i,if_neg (fun h=>hty h.1)]
   unfold incL
   rw [e2,getD_set_i,if_pos ⟨rfl,by unfold takeE; rw [l1,hlen]; exact hy⟩]
  by_cases h1:j=y
  ·subst h1
   have e4:(putE (takeE f i k) t x).getD j d0=f.getD j d0:=by unfold putE; rw [getD_set_i,if_neg (fun h=>hty h.1),e2]
   rw [e4]
   show ((putE (incL (takeE f i k) j (-1)) t x).set j (setLk ((putE (incL (takeE f i k) j (-1)) t x).getD j d0) (lk ((putE (incL (takeE f i k) j (-1)) t x).getD j d0) + 1))).getD j d0=_
   rw [getD_set_i,if_pos ⟨rfl,by unfold putE incL takeE; simp only [l1]; rw [hlen]; exact hy⟩,e3]
   have:lk (setLk (f.getD j d0) (lk (f.getD j d0) + -1)) + 1=lk (f.getD j d0):=by show lk (f.getD j d0) + -1 + 1=_; omega
   rw [this]
   rfl
  ·show ((putE (incL (takeE f i k) y (-1)) t x).set y _).getD j d0=_
   rw [getD_set_i,if_neg (fun h=>h1 h.1.symm)]
   unfold putE
   rw [e1,getD_set_i,getD_set_i]
   have hl1:(incL (takeE f i k) y (-1)).length=(takeE f i k).length:=by unfold incL; rw [l1]
   rw [hl1]
   by_cases h2:t=j∧t < (takeE f i k).length
   ·rw [if_pos h2,if_pos h2]
   ·rw [if_neg h2,if_neg h2]
    unfold incL
    rw [getD_set_i,if_neg (fun h=>h1 h.1.symm)]
theorem OkW.lkM {f:List Nd} (h:OkW f) {i:Nat} (hi:i < 10):lk (f.getD i d0)=((many (ids f) 10 i:Nat):Int):=by
 by_cases hk:kd (f.getD i d0)=0
 ·have h1:=(h.zero i hi hk).2.2.2.2.1
  have h2:=h.many0 hk
  omega
 ·exact h.links i hi hk
theorem OkW.lk1 {f:List Nd} (h:OkW f) {i y:Nat} (hi:i < 10) (hy:y < 10) (hm:y ∈ ids f i):1≤lk (f.getD y d0):=by
 rw [OkW.lkM h hy]
 have:=many_ge (e:=ids f) (x:=y) hi
 have h2:=List.count_pos_iff.2 hm
 omega
noncomputable def mvGo (n:Nat) (f:List Nd) (i:Int) (name:ByteArray) (t:Int) (other:ByteArray) (y:Int):Option R50 :=
 (q75 n (f,i,name,())).bind fun r9=>(q105 n (r9.2.1,t,other,y,())).bind fun r10=>some ((r10.2.1,((0:Int),())),())
noncomputable def mvFin (n:Nat) (f:List Nd) (i:Int) (name:ByteArray) (t:Int) (other:ByteArray) (y:Int) (es:List En):Option R50 :=
 cond (!decide (i=t)) (cond (decide ((es.length:Int)=6)) (some ((f,((7:Int),())),())) (mvGo n f i name t other y)) (mvGo n f i name t other y)
theorem p50_L19_eq (n:Nat) (hn:100000 < n) {f:List Nd} (h:OkW f) (i:Int) (name:ByteArray) (t:Int) (other:ByteArray) (y:Nat) (hy0:y ≠ 0) (a:Nd):∀ (d m x:Nat),Gr.Way (ids f) (fold f) x d→d < m →
  (DnR (ids f) (fold f) y x→p50_L19 n m i name t other (y:Int) (x:Int) f a.1 a.2.1 a.2.2.1 a.2.2.2.1 a.2.2.2.2.1 a.2.2.2.2.2.1 a.2.2.2.2.2.2.1 a.2.2.2.2.2.2.2.1 a.2.2.2.2.2.2.2.2 f=some ((f,((6:Int),())),())) ∧
  (¬ DnR (ids f) (fold f) y x→p50_L19 n m i name t other (y:Int) (x:Int) f a.1 a.2.1 a.2.2.1 a.2.2.2.1 a.2.2.2.2.1 a.2.2.2.2.2.1 a.2.2.2.2.2.2.1 a.2.2.2.2.2.2.2.1 a.2.2.2.2.2.2.2.2 f=mvFin n f i name t other (y:Int) (nm a))
 | _,0,_,_,hm=>by omega
 | d,m + 1,x,hw,hm=>by
  have hs:p50_L19 n (m + 1) i name t other (y:Int) (x:Int) f a.1 a.2.1 a.2.2.1 a.2.2.2.1 a.2.2.2.2.1 a.2.2.2.2.2.1 a.2.2.2.2.2.2.1 a.2.2.2.2.2.2.2.1 a.2.2.2.2.2.2.2.2 f =
    cond (decide ((x:Int)=(y:Int))) (some ((f,((6:Int),())),())) (cond (decide ((x:Int)=0)) (mvFin n f i name t other (y:Int) (nm a)) ((q109 n (f,(x:Int),())).bind fun r13=>p50_L19 n m i name t other (y:Int) (r13.1.1) f a.1 a.2.1 a.2.2.1 a.2.2.2.1 a.2.2.2.2.1 a.2.2.2.2.2.1 a.2.2.2.2.2.2.1 a.2.2.2.2.2.2.2.1 a.2.2.2.2.2.2.2.2 f)):=rfl
  rw [hs]
  by_cases hxy:x=y
  ·subst hxy
   rw [decide_eq_true rfl]
   exact ⟨fun _=>rfl,fun h=>absurd (.refl) h⟩
  ·rw [decide_eq_false (show ¬ (x:Int)=(y:Int) by omega)]
   by_cases hx0:x=0
   ·subst hx0
    refine ⟨fun hd=>?_,fun _=>rfl⟩
    exfalso
    cases hd with
    | refl=>exact hy0 rfl
    | step _ hz=>exact h.tr.nz _ (List.mem_filter.1 hz).1
   ·rw [decide_eq_false (show ¬ (x:Int)=0 by omega)]
    simp only [cond_false]
    cases hw with
    | root=>exact absurd rfl hx0
    | next hp hx =>
     rename_i p d
     have hp10:p < 10:=Gr.Way.lt (by omega) h.tr.rg hp
     have hxi:=(List.mem_filter.1 hx).1
     have hxf:=(List.mem_filter.1 hx).2
     obtain ⟨j,s,h1,h2,h3⟩:=p109_eq n hn h hp10 hxi
     have hjp:j=p:=h.tr.par (by omega) h2 hp10 hxf h3 hxi
     subst hjp
     have h1':q109 n (f,(x:Int),())=some (((j:Int),(s,())),()):=h1
     have ih:=p50_L19_eq n hn h i name t other y hy0 a d m j hp (by omega)
     simp only [h1',Option.bind_some]
     refine ⟨fun hd=>ih.1 ?_,fun hd=>ih.2 (fun h'=>hd (.step h' hx))⟩
     cases hd with
     | refl=>exact absurd rfl hxy
     | step hd hz =>
      rename_i p'
      have hp':p' < 10:=Classical.byContradiction fun hge=>by
       have:=h.pre.2.2.2 p' (by omega)
       rw [chl,this] at hz
       exact (List.not_mem_nil hz).elim
      have:=h.tr.par (by omega) hp' hp10 hxf (List.mem_filter.1 hz).1 hxi
      rw [← this]; exact hd
noncomputable def moveR (f:List Nd) (c:Cr) (id:Int) (name:ByteArray) (to:Int) (other:ByteArray):List Nd × Int :=
 bif okS f&&(credOk c&&(hasB f id&&(hasB f to&&(nmOk name&&nmOk other)))) then moveD f c id.toNat name to.toNat other else ([],1)
theorem p51_eq (n:Nat) (f:List Nd) (c:Cr) (id:Int) (name:ByteArray) (to:Int) (other:ByteArray) (h:SzF 2000000 f) (hl:c.2.2.length≤2000000) (hs:name.size≤2000000) (hs2:other.size≤2000000) (hn:2000000 < n) (hn2:n < 4611686018427387904) :
  p51 n f c id name to other=some (((moveR f c id name to other).1,((moveR f c id name to other).2,())),()):=by
 have h1:=p63_eq n f (h.sm hn (by omega) hn2)
 have h2:=p64_eq n c hl hn
 have e:(c.1,c.2.1,c.2.2)=c:=rfl
 have h3:=p67_eq n f h hn
 have h5:=p76_eq n name (by omega) (by omega)
 have h6:=p76_eq n other (by omega) (by omega)
 show st51_top n f c id name to other=_
 unfold moveR
 simp only [st51_top,q63,h1,Option.bind_some,q64,e,h2,q76,h5,h6,q67,h3]
 cases hok:okS f; · rfl
 cases credOk c; · rfl
 simp only [Bool.not_true,cond_false,q65,p65_eq n f (okS_len hok),Option.bind_some,Bool.true_and]
 cases hh:hasB f id; · rfl
 cases hh2:hasB f to; · rfl
 obtain ⟨i,rfl,hi,hi10⟩:=hasB_ge hh (okS_len hok)
 obtain ⟨t,rfl,ht,ht10⟩:=hasB_ge hh2 (okS_len hok)
 cases nmOk name; · rfl
 cases nmOk other; · rfl
 have h110:=p110_eq n f c i name t other ((okS_iff f).1 hok).toW hi10 ht10 hl hn
 simp only [Bool.not_true,cond_false,q110,h110,Option.bind_some,Bool.true_and,cond_true,toNat_cast]
theorem p50_eq (n:Nat) (f:List Nd) (c:Cr) (id:Int) (name:ByteArray) (to:Int) (other:ByteArray) (h:SzF 2000000 f) (hl:c.2.2.length≤2000000) (hn:2000000 < n) :
  p50 n f c id name to other=some (((moveR f c id name to other).1,((moveR f c id name to other).2,())),()):=by
 have h1:=p60_eq n f c [id,to] hl (by simp) hn
 have e:(c.1,c.2.1,c.2.2)=c:=rfl
 have h3:=p62_eq n f h hn
 show st50_top n (p50_L19 n n) f c id name to other=_
 unfold moveR
 simp only [st50_top,q60,e,h1,Option.bind_some,q70,p70_eq n (by omega),q62,h3,List.all_cons,List.all_nil,Bool.and_true]
 cases hok:okS f; · rfl
 cases hcr:credOk c; · rfl
 cases hh:hasB f id; · rfl
 cases hh2:hasB f to; · rfl
 obtain ⟨i,rfl,hi10,hk⟩:=hasB_kd hh
 obtain ⟨t,rfl,ht10,hkt⟩:=hasB_kd hh2
 have hF:=(okS_iff f).1 hok
 have hW:=hF.toW
 have hi:i < f.length:=by rw [hW.len]; exact hi10
 have ht:t < f.length:=by rw [hW.len]; exact ht10
 cases hnm:nmOk name; · rfl
 cases hnm2:nmOk other; · rfl
 have ee:∀ x:Nd,(x.1,x.2.1,x.2.2.1,x.2.2.2.1,x.2.2.2.2.1,x.2.2.2.2.2.1,x.2.2.2.2.2.2.1,x.2.2.2.2.2.2.2.1,x.2.2.2.2.2.2.2.2)=x:=fun _=>rfl
 have hpw:=OkW.pw hW hi10
 have hpt:=OkW.pw hW ht10
 have hnl:=hW.nlen i hi10
 have hnt:=hW.nlen t ht10
 have h73:=p73_eq n (f.getD i d0) name hpw (by omega) hn
 have h73t:=p73_eq n (f.getD t d0) other hpt (by omega) hn
 have h72:=p72_eq n (f.getD i d0) c 3 hcr (((okW_iff f).1 hF).2 i hi10 hk) (hW.base i hi10 hk) (by omega) hl hn
 have h72t:=p72_eq n (f.getD t d0) c 3 hcr (((okW_iff f).1 hF).2 t ht10 hkt) (hW.base t ht10 hkt) (by omega) hl hn
 have hat:=atI_pos name hpw
 have hatt:=atI_pos other hpt
 unfold moveD
 simp only [Bool.not_true,Bool.true_and,cond_false,cond_true,toNat_cast]
 simp only [hat,hatt]
 have h73':=h73
 have h72':=h72
 have h73t':=h73t
 have h72t':=h72t
 simp only [d0] at h73' h72' h73t' h72t'
 simp only [lt_t hi,lt_t ht,ge_t,cond_true,Option.bind_some,ee,q73,h73',h73t',q72,h72',h72t']
 by_cases hk2:kd (f.getD i d0)=2
 ·have hk2':(f.getD i ZN).1=2:=hk2
  simp only [hk2,hk2',decide_true,Bool.not_true,cond_false]
  by_cases hk3:kd (f.getD t d0)=2
  ·have hk3':(f.getD t ZN).1=2:=hk3
   simp only [hk3,hk3',decide_true,Bool.not_true,cond_false]
   cases hm:mayN c (f.getD i d0) 3 with
   | false =>
    have hm':=hm
    simp only [d0] at hm'
    simp only [hm',Bool.not_false,cond_true]
   | true =>
   cases hmt:mayN c (f.getD t d0) 3 with
   | false =>
    have hm':=hm
    have hmt':=hmt
    simp only [d0] at hm' hmt'
    simp only [hm',hmt',Bool.not_true,Bool.not_false,cond_false,cond_true]
   | true =>
    have hm':=hm
    have hmt':=hmt
    simp only [d0] at hm' hmt'
    simp only [hm',hmt',Bool.not_true,cond_false]
    cases hhs:hasE name (nm (f.getD i d0)) with
    | false =>
     have hhs':=hhs
     simp only [d0] at hhs'
     simp only [hhs',Bool.not_false,cond_true,Bool.false_eq_true,if_false]
     rfl
    | true =>
     have hhs':=hhs
     simp only [d0] at hhs'
     have hlt:posE name (nm (f.getD i d0)) < (nm (f.getD i d0)).length:=by
      have:=hhs; simp only [hasE,Bool.and_eq_true,decide_eq_true_eq] at this; exact this.1
     obtain ⟨k,hkk⟩:∃ k,posE name (nm (f.getD i d0))=k:=⟨_,rfl⟩
     rw [hkk] at hlt
     obtain ⟨_,hy9,hky⟩:=(hW.entsOk hi10).all _ (mem_getD hlt e0)
     obtain ⟨y,hy⟩:∃ y:Nat,((nm (f.getD i d0)).getD k e0).2=(y:Int):=⟨((nm (f.getD i d0)).getD k e0).2.toNat,by omega⟩
     rw [hy,toNat_cast] at hky
     have hy10:y < 10:=by omega
     have hyl:y < f.length:=by rw [hW.len]; exact hy10
     have hlb:=OkW.lkB hW hy10
     have htg:tgt f i (k:Int)=y:=by unfold tgt; rw [toNat_cast,hy,toNat_cast]
     have hneg:decide (((k:Nat):Int) < 0)=false:=decide_eq_false (by omega)
     have hkk':=hkk
     have hy':((f.getD i d0).2.2.2.2.2.2.2.2.getD k ((ByteArray.empty:ByteArray),(0:Int))).2=(y:Int):=hy
     have hlt':decide (((k:Nat):Int) < (((f.getD i d0).2.2.2.2.2.2.2.2).length:Int))=true:=decide_eq_true (by have:=hlt; simp only [nm] at this ⊢; omega)
     have hyid:y ∈ ids f i:=List.mem_map.2 ⟨_,mem_getD hlt e0,by rw [hy]; rfl⟩
     have hl1:=OkW.lk1 hW hi10 hy10 hyid
     have hiy:i ≠ y:=fun e=>by
      subst e
      obtain ⟨dd,hwy⟩:=hW.tr.wy i hi10 (decide_eq_true hk2)
      have:=hW.tr.uniq (by omega) hwy (.next hwy (List.mem_filter.2 ⟨hyid,decide_eq_true hk2⟩))
      omega
     simp only [hhs',if_true,Bool.not_true,cond_false,hkk,hneg]
     cases hht:hasE other (nm (f.getD t d0)) with
     | true =>
      have hht':=hht
      simp only [d0] at hht'
      simp only [hht',cond_true,if_true]
      rw [decide_eq_true (show (0:Int)≤(posE other (nm (f.getD t d0)):Int) by omega)]
      rfl
     | false =>
      have hht':=hht
      have hno:=has_no hpt hht
      simp only [d0] at hht' hkk' hy' hlt'
      simp only [hht',cond_false,Bool.false_eq_true,if_false,show decide ((0:Int)≤-1)=false from rfl,hkk',ge_t,hlt',cond_true,toNat_cast,hy',lt_t hyl,htg]
      have hgo:¬ (kd (f.getD y d0)=2∧DnR (ids f) (fold f) y t)→mvGo n f (i:Int) name (t:Int) other (y:Int)=some ((putE (takeE f i k) t (other,(y:Int)),((0:Int),())),()):=fun hnd=>by
       have hty:t ≠ y:=fun e=>by
        subst e
        exact hnd ⟨hk3,.refl⟩
       have h75:=p75_eq n f i name hi hpw (by omega) hhs y (by rw [hkk]; exact hy) hyl hiy (by omega) hn
       rw [hkk] at h75
       have l1:∀ (g:List Nd) a (b:Nd),(g.set a b).length=g.length:=fun g a b=>List.length_set
       have eT:(incL (takeE f i k) y (-1)).getD t d0=(takeE f i k).getD t d0:=by unfold incL; rw [getD_set_i,if_neg (fun h=>hty h.1.symm)]
       have eY:lk ((incL (takeE f i k) y (-1)).getD y d0)=lk (f.getD y d0) + -1:=by
        unfold incL
        rw [getD_set_i,if_pos ⟨rfl,by unfold takeE; rw [l1]; exact hyl⟩]
        unfold takeE
        rw [getD_set_i,if_neg (fun h=>hiy h.1)]
        rfl
       have hsub:(nm ((takeE f i k).getD t d0)).Pairwise ltE∧(nm ((takeE f i k).getD t d0)).length≤1000∧∀ e ∈ nm ((takeE f i k).getD t d0),e.1 ≠ other:=by
        unfold takeE
        rw [getD_set_i]
        by_cases hti:i=t∧i < f.length
        ·rw [if_pos hti]
         have hti':=hti.1
         subst hti'
         exact ⟨erase_pw hpt,by show ((nm (f.getD i d0)).eraseIdx k).length≤1000; rw [List.length_eraseIdx]; split <;> omega,fun e he=>hno e (erase_mem he)⟩
        ·rw [if_neg hti]
         exact ⟨hpt,by omega,hno⟩
       have h105:=p105_eq n (incL (takeE f i k) y (-1)) t y other (by unfold incL takeE; simp only [l1]; exact ht) (by unfold incL takeE; simp only [l1]; exact hyl) hty (by rw [eT]; exact hsub.1) (by rw [eT]; exact hsub.2.1) (by rw [eT]; exact hsub.2.2) (by rw [eY]; omega) hn
       rw [take_put hW.len hi10 hy10 ht10 hiy hty] at h105
       have h75':q75 n (f,(i:Int),name,())=some (((y:Int),()),(incL (takeE f i k) y (-1),())):=h75
       have h105':q105 n (incL (takeE f i k) y (-1),(t:Int),other,(y:Int),())=some ((),(putE (takeE f i k) t (other,(y:Int)),())):=h105
       unfold mvGo
       simp only [h75',Option.bind_some,h105']
      have hfin:¬ (kd (f.getD y d0)=2∧DnR (ids f) (fold f) y t)→mvFin n f (i:Int) name (t:Int) other (y:Int) (nm (f.getD t d0))=some (((bif !decide (i=t)&&decide (6≤((nm (f.getD t d0)).length:Int)) then (f,(7:Int)) else (putE (takeE f i k) t (other,(y:Int)),0)).1,((bif !decide (i=t)&&decide (6≤((nm (f.getD t d0)).length:Int)) then (f,(7:Int)) else (putE (takeE f i k) t (other,(y:Int)),0)).2,())),()):=fun hnd=>by
       unfold mvFin
       rw [hgo hnd]
       by_cases hit:i=t
       ·rw [decide_eq_true hit,decide_eq_true (show (i:Int)=(t:Int) by omega)]; rfl
       ·rw [decide_eq_false hit,decide_eq_false (show ¬ (i:Int)=(t:Int) by omega)]
        by_cases h6:(nm (f.getD t d0)).length=6
        ·rw [decide_eq_true (show ((nm (f.getD t d0)).length:Int)=6 by omega),decide_eq_true (show (6:Int)≤((nm (f.getD t d0)).length:Int) by omega)]; rfl
        ·rw [decide_eq_false (show ¬ ((nm (f.getD t d0)).length:Int)=6 by omega),decide_eq_false (show ¬ (6:Int)≤((nm (f.getD t d0)).length:Int) by omega)]; rfl
      by_cases hyk:kd (f.getD y d0)=2
      ·have hyk':(f.getD y ZN).1=2:=hyk
       obtain ⟨dd,hwt⟩:=hW.tr.wy t ht10 (decide_eq_true hk3)
       have hdd:=hW.tr.bound (by omega) hwt
       have hL:=p50_L19_eq n (by omega) hW (i:Int) name (t:Int) other y (by omega) (f.getD t d0) dd n t hwt (by omega)
       rw [show (f.getD t d0).1=2 from hk3] at hL
       simp only [hyk,hyk',decide_true,cond_true,Bool.true_and]
       by_cases hd:DnR (ids f) (fold f) y t
       ·have:=hL.1 hd
        have hdb:dnB f y t=true:=by unfold dnB; exact @decide_eq_true _ (Classical.propDecidable _) hd
        rw [hdb]
        exact this
       ·have hdb:dnB f y t=false:=by unfold dnB; exact @decide_eq_false _ (Classical.propDecidable _) hd
        rw [hdb]
        exact (hL.2 hd).trans (hfin (fun h=>hd h.2))
      ·have hyk':¬ (f.getD y ZN).1=2:=hyk
       simp only [hyk,hyk',decide_false,cond_false,Bool.false_and]
       exact hfin (fun h=>hyk h.1)
  ·have hk3':¬ (f.getD t ZN).1=2:=hk3
   simp only [hk3,hk3',decide_false,Bool.not_false,cond_true]
 ·have hk2':¬ (f.getD i ZN).1=2:=hk2
  simp only [hk2,hk2',decide_false,Bool.not_false,cond_true]
end Go.Proofs.Ytbjgiioppmkpiaa.Rx.S

namespace Go.Proofs.Ytbjgiioppmkpiaa.Rx.S
open Go Go.Proofs.Ytbjgiioppmkpiaa.Rx.Pu Go.Proofs.Ytbjgiioppmkpiaa.Rx.Fs Go.Proofs.Ytbjgiioppmkpiaa.Rx.Gr
set_option linter.unusedVariables false
set_option linter.unusedSimpArgs false
theorem p49_eq (n:Nat) (hn:2000000 < n) {l:List Int} (hl:∀ x ∈ l,0≤x∧x < 256):∃ (f:List Nd) (c:Cr) (id:Int) (s:ByteArray) (to:Int) (s2:ByteArray),p49 n l=some ((f,(c,(id,(s,(to,(s2,())))))),())∧SzF 2000000 f∧c.2.2.length≤4∧s.size≤10∧s2.size≤10:=by
 show ∃ (f:List Nd) (c:Cr) (id:Int) (s:ByteArray) (to:Int) (s2:ByteArray),st49_top n l=_∧_
 obtain ⟨l',h1,hb⟩:=p55_eq n hl
 obtain ⟨f,p1,h2,h3,h4⟩:=p56_eq n hn hb (pos:=0) (by omega)
 obtain ⟨c,p2,h5,h6,h7⟩:=p57_eq n (by omega) hb (pos:=p1) (by omega)
 obtain ⟨id,p3,h8,h9,_⟩:=p58_eq n hb (pos:=p2) (by omega)
 obtain ⟨s,p4,h10,h11,h12⟩:=p71_eq n hb (pos:=p3) (by omega)
 obtain ⟨to,p5,h13,h14,_⟩:=p58_eq n hb (pos:=p4) (by omega)
 obtain ⟨s2,p6,h15,h16,h17⟩:=p71_eq n hb (pos:=p5) (by omega)
 simp only [st49_top,q55,h1,q56,h2,q57,h5,q58,h8,q71,h10,h13,h15,Option.bind_some]
 exact ⟨_,_,_,_,_,_,rfl,h4,h7,h12,h17⟩
structure MoveOk (f:List Nd) (c:Cr) (name other:ByteArray) (i k t y:Nat):Prop where
 ok:OkF f
 cr:credOk c=true
 n1:nmOk name=true
 n2:nmOk other=true
 hi:i < 10
 ht:t < 10
 hy:y < 10
 y0:y ≠ 0
 iy:i ≠ y
 ty:t ≠ y
 ki:kd (f.getD i d0)=2
 kt:kd (f.getD t d0)=2
 mi:mayN c (f.getD i d0) 3=true
 mt:mayN c (f.getD t d0) 3=true
 has:hasE name (nm (f.getD i d0))=true
 hk:k=posE name (nm (f.getD i d0))
 kl:k < (nm (f.getD i d0)).length
 ent:(nm (f.getD i d0)).getD k e0=(name,(y:Int))
 ky:kd (f.getD y d0) ≠ 0
 no:hasE other (nm (f.getD t d0))=false
 dn:¬ DnR (ids f) (fold f) y t
 len:i ≠ t→(nm (f.getD t d0)).length≤5
 okN:OkF (putE (takeE f i k) t (other,(y:Int)))
theorem moveR_W {f:List Nd} {c:Cr} {id to:Int} {name other:ByteArray}:(OkW (moveR f c id name to other).1∧OkF f)∨moveR f c id name to other=([],1):=by
 unfold moveR
 cases hc:okS f&&(credOk c&&(hasB f id&&(hasB f to&&(nmOk name&&nmOk other)))) with
 | false=>exact .inr rfl
 | true =>
  simp only [Bool.and_eq_true] at hc
  obtain ⟨i,rfl,hi,_⟩:=hasB_kd hc.2.2.1
  obtain ⟨t,rfl,ht,_⟩:=hasB_kd hc.2.2.2.1
  have hF:=(okS_iff f).1 hc.1
  exact .inl ⟨moveD_ok hF.toW hi ht name hc.2.2.2.2.2,hF⟩
theorem moveR_sz {f:List Nd} {c:Cr} {id to:Int} {name other:ByteArray}:SzF 2000000 (moveR f c id name to other).1:=by
 rcases moveR_W (f:=f) (c:=c) (id:=id) (to:=to) (name:=name) (other:=other) with h | h
 ·exact OkW.szF h.1
 ·rw [h]; exact SzF.nil _
theorem moveR_form {f:List Nd} {c:Cr} {id to:Int} {name other:ByteArray} (h:(moveR f c id name to other).2=0):∃ i k t y:Nat,id=(i:Int)∧to=(t:Int)∧MoveOk f c name other i k t y∧(moveR f c id name to other).1=putE (takeE f i k) t (other,(y:Int)):=by
 have hW0:=moveR_W (f:=f) (c:=c) (id:=id) (to:=to) (name:=name) (other:=other)
 unfold moveR at h hW0 ⊢
 cases hc:okS f&&(credOk c&&(hasB f id&&(hasB f to&&(nmOk name&&nmOk other)))) with
 | false=>rw [hc] at h; exact absurd h (show ¬ (1:Int)=0 by decide)
 | true =>
  rw [hc] at h hW0
  simp only [Bool.and_eq_true] at hc
  obtain ⟨i,rfl,hi,_⟩:=hasB_kd hc.2.2.1
  obtain ⟨t,rfl,ht,_⟩:=hasB_kd hc.2.2.2.1
  have hF:=(okS_iff f).1 hc.1
  have hW:=hF.toW
  simp only [cond_true,toNat_cast] at h hW0 ⊢
  unfold moveD at h hW0 ⊢
  by_cases hk1:kd (f.getD i d0)=2
  ·rw [decide_eq_true hk1] at h hW0 ⊢
   by_cases hk2:kd (f.getD t d0)=2
   ·rw [decide_eq_true hk2] at h hW0 ⊢
    simp only [Bool.not_true,cond_false] at h hW0 ⊢
    cases hm:mayN c (f.getD i d0) 3 with
    | false=>rw [hm] at h; exact absurd h (show ¬ (5:Int)=0 by decide)
    | true =>
    cases hmt:mayN c (f.getD t d0) 3 with
    | false=>rw [hm,hmt] at h; exact absurd h (show ¬ (5:Int)=0 by decide)
    | true =>
    rw [hm,hmt] at h hW0
    simp only [Bool.not_true,cond_false] at h hW0 ⊢
    have hat:=atI_pos name (OkW.pw hW hi)
    have hatt:=atI_pos other (OkW.pw hW ht)
    cases hh:hasE name (nm (f.getD i d0)) with
    | false =>
     rw [hh] at hat
     simp only [Bool.false_eq_true,if_false] at hat
     simp only [hat] at h
     exact absurd h (show ¬ (2:Int)=0 by decide)
    | true =>
    rw [hh] at hat
    simp only [if_true] at hat
    cases hht:hasE other (nm (f.getD t d0)) with
    | true =>
     rw [hht] at hatt
     simp only [if_true] at hatt
     simp only [hat,hatt] at h
     rw [decide_eq_false (show ¬ (posE name (nm (f.getD i d0)):Int) < 0 by omega),decide_eq_true (show (0:Int)≤(posE other (nm (f.getD t d0)):Int) by omega)] at h
     exact absurd h (show ¬ (3:Int)=0 by decide)
    | false =>
    rw [hht] at hatt
    simp only [Bool.false_eq_true,if_false] at hatt
    have hlt:posE name (nm (f.getD i d0)) < (nm (f.getD i d0)).length:=by
     have:=hh; simp only [hasE,Bool.and_eq_true,decide_eq_true_eq] at this; exact this.1
    have hnme:((nm (f.getD i d0)).getD (posE name (nm (f.getD i d0))) e0).1=name:=by
     have:=hh; simp only [hasE,Bool.and_eq_true,decide_eq_true_eq] at this; exact this.2
    obtain ⟨k,hkk⟩:∃ k,posE name (nm (f.getD i d0))=k:=⟨_,rfl⟩
    rw [hkk] at hlt hnme hat
    obtain ⟨_,hy9,hky⟩:=(hW.entsOk hi).all _ (mem_getD hlt e0)
    obtain ⟨y,hy⟩:∃ y:Nat,((nm (f.getD i d0)).getD k e0).2=(y:Int):=⟨((nm (f.getD i d0)).getD k e0).2.toNat,by omega⟩
    rw [hy,toNat_cast] at hky
    have htg:tgt f i (k:Int)=y:=by unfold tgt; rw [toNat_cast,hy,toNat_cast]
    have hneg:decide (((k:Nat):Int) < 0)=false:=decide_eq_false (by omega)
    simp only [hat,hatt,hneg,cond_false,htg,toNat_cast,show decide ((0:Int)≤-1)=false from rfl,hy] at h hW0 ⊢
    have hyid:y ∈ ids f i:=List.mem_map.2 ⟨_,mem_getD hlt e0,by rw [hy]; rfl⟩
    have hiy:i ≠ y:=fun e=>by
     subst e
     obtain ⟨dd,hwy⟩:=hW.tr.wy i hi (decide_eq_true hk1)
     have:=hW.tr.uniq (by omega) hwy (.next hwy (List.mem_filter.2 ⟨hyid,decide_eq_true hk1⟩))
     omega
    cases hb:decide (kd (f.getD y d0)=2)&&dnB f y t with
    | true=>rw [hb] at h; exact absurd h (show ¬ (6:Int)=0 by decide)
    | false =>
     rw [hb] at h hW0
     simp only [cond_false] at h hW0 ⊢
     have hdn:¬ DnR (ids f) (fold f) y t:=by
      intro hd
      by_cases hk3:kd (f.getD y d0)=2
      ·rw [decide_eq_true hk3] at hb
       have hdb:dnB f y t=true:=by unfold dnB; exact @decide_eq_true _ (Classical.propDecidable _) hd
       rw [hdb] at hb; cases hb
      ·have:=dn_file hW (by omega) hk3 hd
       subst this
       exact hk3 hk2
     have hty:t ≠ y:=fun e=>hdn (by rw [e]; exact .refl)
     cases hl:!decide (i=t)&&decide (6≤((nm (f.getD t d0)).length:Int)) with
     | true=>rw [hl] at h; exact absurd h (show ¬ (7:Int)=0 by decide)
     | false =>
      rw [hl] at hW0
      have hlen:i ≠ t→(nm (f.getD t d0)).length≤5:=fun hit=>by
       rw [decide_eq_false hit] at hl
       simp only [Bool.not_false,Bool.true_and,decide_eq_false_iff_not] at hl
       omega
      have hN:OkF (putE (takeE f i k) t (other,(y:Int))):=by
       rcases hW0 with hw | hw
       ·have ho:ownAll f:=((okW_iff f).1 hF).2
        exact (okW_iff _).2 ⟨hw.1,(ho.take hi k).put ht _⟩
       ·injection hw with _ hw; exact absurd hw (by decide)
      exact ⟨i,k,t,y,rfl,rfl,⟨hF,hc.2.1,hc.2.2.2.2.1,hc.2.2.2.2.2,hi,ht,by omega,by omega,hiy,hty,hk1,hk2,hm,hmt,hh,hkk.symm,hlt,by rw [← hnme,← hy],hky,hht,hdn,hlen,hN⟩,rfl⟩
   ·rw [decide_eq_false hk2] at h; exact absurd h (show ¬ (4:Int)=0 by decide)
  ·rw [decide_eq_false hk1] at h; exact absurd h (show ¬ (4:Int)=0 by decide)
theorem moveR_err {f:List Nd} {c:Cr} {id to:Int} {name other:ByteArray} (h0:(moveR f c id name to other).2 ≠ 0) (h1:(moveR f c id name to other).2 ≠ 1):(moveR f c id name to other).1=f:=by
 unfold moveR at h0 h1 ⊢
 cases hc:okS f&&(credOk c&&(hasB f id&&(hasB f to&&(nmOk name&&nmOk other)))) with
 | false=>rw [hc] at h1; exact absurd rfl h1
 | true =>
  rw [hc] at h0
  simp only [cond_true] at h0 ⊢
  unfold moveD at h0 ⊢
  cases e1:decide (kd (f.getD id.toNat d0)=2) with
  | false=>rfl
  | true =>
  rw [e1] at h0
  cases e2:decide (kd (f.getD to.toNat d0)=2) with
  | false=>rfl
  | true =>
  rw [e2] at h0
  cases e3:mayN c (f.getD id.toNat d0) 3 with
  | false=>rfl
  | true =>
  rw [e3] at h0
  cases e4:mayN c (f.getD to.toNat d0) 3 with
  | false=>rfl
  | true =>
  rw [e4] at h0
  simp only [Bool.not_true,cond_false] at h0 ⊢
  cases e5:decide (atI name (nm (f.getD id.toNat d0)) 0 < 0) with
  | true=>rfl
  | false =>
  rw [e5] at h0
  cases e6:decide (0≤atI other (nm (f.getD to.toNat d0)) 0) with
  | true=>rfl
  | false =>
  rw [e6] at h0
  simp only [cond_false] at h0 ⊢
  cases e7:decide (kd (f.getD (tgt f id.toNat (atI name (nm (f.getD id.toNat d0)) 0)) d0)=2)&&dnB f (tgt f id.toNat (atI name (nm (f.getD id.toNat d0)) 0)) to.toNat with
  | true=>rfl
  | false =>
  rw [e7] at h0
  simp only [cond_false] at h0 ⊢
  cases e8:!decide (id.toNat=to.toNat)&&decide (6≤((nm (f.getD to.toNat d0)).length:Int)) with
  | true=>rfl
  | false=>rw [e8] at h0; exact absurd rfl h0
theorem no_has {s:ByteArray} {es:List En} (h:∀ e ∈ es,e.1 ≠ s):hasE s es=false:=by
 cases hx:hasE s es with
 | false=>rfl
 | true =>
  simp only [hasE,Bool.and_eq_true,decide_eq_true_eq] at hx
  exact absurd hx.2 (h _ (getD_mem hx.1 e0))
theorem ins_back:∀ (es:List En) (s:ByteArray) (v:Int),es.Pairwise ltE→posE s es < es.length→es.getD (posE s es) e0=(s,v)→insE (s,v) (es.eraseIdx (posE s es))=es
 | [],_,_,_,h,_=>by simp at h
 | y :: ys,s,v,hp,hl,he=>by
  obtain ⟨h1,h2⟩:=List.pairwise_cons.1 hp
  simp only [posE] at hl he ⊢
  cases hlt:lt y.1 s with
  | true =>
   rw [hlt] at hl he
   simp only [cond_true,List.getD_cons_succ,List.length_cons] at hl he
   simp only [cond_true,List.eraseIdx_cons_succ,insE]
   rw [lt_asymm hlt]
   simp only [cond_false]
   rw [ins_back ys s v h2 (by omega) he]
  | false =>
   rw [hlt] at he
   simp only [cond_false,List.getD_cons_zero] at he
   simp only [cond_false,List.eraseIdx_cons_zero]
   subst he
   cases ys with
   | nil=>rfl
   | cons z zs =>
    have h3:lt s z.1=true:=h1 z List.mem_cons_self
    simp only [insE,h3,cond_true]
section
variable {f:List Nd} {c:Cr} {name other:ByteArray} {i k t y:Nat}
noncomputable def mvT (f:List Nd) (i k t:Nat):List En:=if t=i then (nm (f.getD i d0)).eraseIdx k else nm (f.getD t d0)
theorem MoveOk.get (h:MoveOk f c name other i k t y) (j:Nat):(putE (takeE f i k) t (other,(y:Int))).getD j d0=if j=t then setNm (f.getD t d0) (insE (other,(y:Int)) (mvT f i k t)) else if j=i then setNm (f.getD i d0) ((nm (f.getD i d0)).eraseIdx k) else f.getD j d0:=by
 have hif:i < f.length:=by rw [h.ok.len]; exact h.hi
 have htf:t < (takeE f i k).length:=by unfold takeE; rw [List.length_set,h.ok.len]; exact h.ht
 have hg:∀ j,(takeE f i k).getD j d0=if j=i then setNm (f.getD i d0) ((nm (f.getD i d0)).eraseIdx k) else f.getD j d0:=fun j=>by unfold takeE; exact getD_set1 hif _ j
 unfold putE
 rw [getD_set1 htf,hg,hg]
 by_cases hti:t=i
 ·subst hti
  simp only [if_true,mvT]
  by_cases hj:j=t
  ·simp only [if_pos hj]; rfl
  ·simp only [if_neg hj]
 ·simp only [if_neg hti,mvT]
theorem MoveOk.noT (h:MoveOk f c name other i k t y):∀ e ∈ mvT f i k t,e.1 ≠ other:=by
 have hno:=has_no (OkW.pw h.ok.toW h.ht) h.no
 unfold mvT
 split
 ·rename_i e; intro x hx; exact hno x (by rw [e]; exact erase_mem hx)
 ·exact hno
theorem MoveOk.kd' (h:MoveOk f c name other i k t y) (j:Nat):kd ((putE (takeE f i k) t (other,(y:Int))).getD j d0)=kd (f.getD j d0):=by
 rw [h.get]
 by_cases h1:j=t
 ·rw [if_pos h1,h1]; rfl
 ·rw [if_neg h1]
  by_cases h2:j=i
  ·rw [if_pos h2,h2]; rfl
  ·rw [if_neg h2]
theorem MoveOk.may' (h:MoveOk f c name other i k t y) (j:Nat) (w:Int):mayN c ((putE (takeE f i k) t (other,(y:Int))).getD j d0) w=mayN c (f.getD j d0) w:=by
 rw [h.get]
 by_cases h1:j=t
 ·rw [if_pos h1,h1]; rfl
 ·rw [if_neg h1]
  by_cases h2:j=i
  ·rw [if_pos h2,h2]; rfl
  ·rw [if_neg h2]
theorem MoveOk.nmT (h:MoveOk f c name other i k t y):nm ((putE (takeE f i k) t (other,(y:Int))).getD t d0)=insE (other,(y:Int)) (mvT f i k t):=by rw [h.get,if_pos rfl]; rfl
theorem MoveOk.ne (h:MoveOk f c name other i k t y) (hit:i=t):other ≠ name:=fun e=>by
 have h1:=h.no
 rw [← hit,e,h.has] at h1
 cases h1
theorem MoveOk.noN (h:MoveOk f c name other i k t y):∀ e ∈ nm ((putE (takeE f i k) t (other,(y:Int))).getD i d0),e.1 ≠ name:=by
 have her:∀ e ∈ (nm (f.getD i d0)).eraseIdx k,e.1 ≠ name:=by
  have:=has_erase (OkW.pw h.ok.toW h.hi) h.has
  rw [← h.hk] at this
  exact has_no (erase_pw (OkW.pw h.ok.toW h.hi)) this
 rw [h.get]
 by_cases hit:i=t
 ·rw [if_pos hit]
  intro e he
  rcases insE_mem.1 he with rfl | he
  ·exact h.ne hit
  ·unfold mvT at he
   rw [if_pos hit.symm] at he
   exact her e he
 ·rw [if_neg hit,if_pos rfl]
  exact her
theorem MoveOk.dnI (h:MoveOk f c name other i k t y):¬ DnR (ids f) (fold f) y i:=fun hd=>by
 have hyid:y ∈ ids f i:=List.mem_map.2 ⟨_,mem_getD h.kl e0,by rw [h.ent]; rfl⟩
 by_cases hk:kd (f.getD y d0)=2
 ·obtain ⟨d,hw⟩:=h.ok.toW.tr.wy i h.hi (decide_eq_true h.ki)
  have hwy:Gr.Way (ids f) (fold f) y (d + 1):=.next hw (List.mem_filter.2 ⟨hyid,decide_eq_true hk⟩)
  have:∀ {z},DnR (ids f) (fold f) y z→∃ m,Gr.Way (ids f) (fold f) z (d + 1 + m):=fun {z} hz=>by
   induction hz with
   | refl=>exact ⟨0,hwy⟩
   | step _ hz ih=>obtain ⟨m,hm⟩:=ih; exact ⟨m + 1,.next hm hz⟩
  obtain ⟨m,hm⟩:=this hd
  have:=h.ok.toW.tr.uniq (by omega) hw hm
  omega
 ·exact h.iy (dn_file h.ok.toW h.hy hk hd)
theorem MoveOk.dnX (h:MoveOk f c name other i k t y):¬ DnR (ids (putE (takeE f i k) t (other,(y:Int)))) (fold (putE (takeE f i k) t (other,(y:Int)))) y i:=fun hd=>by
 have:∀ {z},DnR (ids (putE (takeE f i k) t (other,(y:Int)))) (fold (putE (takeE f i k) t (other,(y:Int)))) y z→DnR (ids f) (fold f) y z:=fun {z} hz=>by
  induction hz with
  | refl=>exact .refl
  | step _ hz ih =>
   rename_i b z hb
   refine .step ih ?_
   have hbt:b ≠ t:=fun e=>h.dn (e ▸ ih)
   have hbi:b ≠ i:=fun e=>h.dnI (e ▸ ih)
   obtain ⟨h1,h2⟩:=List.mem_filter.1 hz
   refine List.mem_filter.2 ⟨?_,?_⟩
   ·unfold ids at h1 ⊢
    rw [h.get,if_neg hbt,if_neg hbi] at h1
    exact h1
   ·unfold fold at h2 ⊢
    rw [h.kd'] at h2
    exact h2
 exact h.dnI (this hd)
theorem MoveOk.back (h:MoveOk f c name other i k t y):moveR (putE (takeE f i k) t (other,(y:Int))) c (t:Int) other (i:Int) name=(f,0):=by
 have hg:=h.get
 have hki:=h.kd' i
 have hkt:=h.kd' t
 have hky:=h.kd' y
 have hmi:=h.may' i 3
 have hmt:=h.may' t 3
 have hnT:=h.nmT
 have hnN:=h.noN
 have hdX:=h.dnX
 have hok:=h.okN
 obtain ⟨X,hX⟩:∃ X,putE (takeE f i k) t (other,(y:Int))=X:=⟨_,rfl⟩
 rw [hX] at hg hki hkt hky hmi hmt hnT hnN hdX hok ⊢
 rw [h.ki] at hki
 rw [h.kt] at hkt
 rw [h.mi] at hmi
 rw [h.mt] at hmt
 have hat:=atI_pos other (OkW.pw hok.toW h.ht)
 have hati:=atI_pos name (OkW.pw hok.toW h.hi)
 rw [hnT,ins_has _ _ _ h.noT,ins_posE _ _ _ h.noT] at hat
 rw [no_has hnN] at hati
 simp only [if_true] at hat
 simp only [Bool.false_eq_true,if_false] at hati
 unfold moveR
 rw [(okS_iff _).2 hok,h.cr,hasB_of h.ht (by omega),hasB_of h.hi (by omega),h.n1,h.n2]
 simp only [Bool.and_true,cond_true,toNat_cast]
 unfold moveD
 rw [decide_eq_true hki,decide_eq_true hkt,hmi,hmt]
 have hneg:decide (((posE other (mvT f i k t):Nat):Int) < 0)=false:=decide_eq_false (by omega)
 have htg:tgt X t ((posE other (mvT f i k t):Nat):Int)=y:=by unfold tgt; rw [toNat_cast,hnT,ins_get _ _ _ h.noT,toNat_cast]
 have hb:(decide (kd (X.getD y d0)=2)&&dnB X y i)=false:=by
  have:dnB X y i=false:=by unfold dnB; exact @decide_eq_false _ (Classical.propDecidable _) hdX
  rw [this,Bool.and_false]
 have hlen:(!decide (t=i)&&decide (6≤((nm (X.getD i d0)).length:Int)))=false:=by
  by_cases hti:t=i
  ·rw [decide_eq_true hti]; rfl
  ·rw [decide_eq_false hti,hg,if_neg (Ne.symm hti),if_pos rfl]
   have:((nm (f.getD i d0)).eraseIdx k).length + 1=(nm (f.getD i d0)).length:=erase_len h.kl
   have hn:=h.ok.toW.nlen i h.hi
   have hx:¬ (6:Int)≤((nm (setNm (f.getD i d0) ((nm (f.getD i d0)).eraseIdx k))).length:Int):=by
    show ¬ (6:Int)≤(((nm (f.getD i d0)).eraseIdx k).length:Int)
    omega
   rw [decide_eq_false hx]; rfl
 simp only [Bool.not_true,cond_false,hnT,hat,hati,hneg,show decide ((0:Int)≤-1)=false from rfl,htg,hb,hlen,toNat_cast,ins_get _ _ _ h.noT]
 have hx:putE (takeE X t (posE other (mvT f i k t))) i (name,(y:Int))=f:=by
  have l1:∀ (g:List Nd) a (b:Nd),(g.set a b).length=g.length:=fun g a b=>List.length_set
  have htX:t < X.length:=by rw [hok.len]; exact h.ht
  have hg2:∀ j,(takeE X t (posE other (mvT f i k t))).getD j d0=if j=t then setNm (f.getD t d0) (mvT f i k t) else X.getD j d0:=fun j=>by
   unfold takeE
   rw [getD_set1 htX,hnT,ins_erase _ _ _ h.noT,hg t,if_pos rfl]
   rfl
  refine nd_ext (by unfold putE takeE; simp only [l1]; exact hok.len) h.ok.len (fun j hj=>?_)
  have hback:insE (name,(y:Int)) ((nm (f.getD i d0)).eraseIdx k)=nm (f.getD i d0):=by
   have:=ins_back (nm (f.getD i d0)) name (y:Int) (OkW.pw h.ok.toW h.hi) (by rw [← h.hk]; exact h.kl) (by rw [← h.hk]; exact h.ent)
   rw [← h.hk] at this
   exact this
  unfold putE
  rw [getD_set1 (by unfold takeE; rw [l1,hok.len]; exact h.hi),hg2,hg2]
  by_cases hti:t=i
  ·subst hti
   simp only [if_true,mvT]
   by_cases hj1:j=t
   ·subst hj1
    rw [if_pos rfl]
    show setNm (f.getD j d0) (insE (name,(y:Int)) ((nm (f.getD j d0)).eraseIdx k))=_
    rw [hback]; rfl
   ·rw [if_neg hj1,if_neg hj1,hg,if_neg hj1,if_neg hj1]
  ·rw [if_neg (Ne.symm hti),hg i,if_neg (Ne.symm hti),if_pos rfl]
   by_cases hj1:j=i
   ·subst hj1
    rw [if_pos rfl]
    show setNm (f.getD j d0) (insE (name,(y:Int)) ((nm (f.getD j d0)).eraseIdx k))=_
    rw [hback]; rfl
   ·rw [if_neg hj1]
    by_cases hj2:j=t
    ·subst hj2
     rw [if_pos rfl]
     unfold mvT
     rw [if_neg hti]
     rfl
    ·rw [if_neg hj2,hg,if_neg hj2,if_neg hj1]
 rw [hx]
end
theorem p11_L15_eq (n:Nat) (hn:100 < n) {f g:List Nd} (hf:f.length=10) (hg:g.length=10) (y:Int) (htx:∀ j,j < 10→tx (f.getD j d0)=tx (g.getD j d0)∧lk (f.getD j d0)=lk (g.getD j d0)) (hok:okS g=true):∀ (d m k:Nat),k + d=10→d < m→p11_L15 n m y y 0 2 (k:Int) f g=some ((true,()),())
 | _,0,_,_,h=>by omega
 | 0,m + 1,k,hk,_=>by
  have:k=10:=by omega
  subst this
  show st11_L15 n (p11_L15 n m) y y 0 2 ((10:Nat):Int) f g=_
  have hl:decide (((10:Nat):Int) < (f.length:Int))=false:=decide_eq_false (by rw [hf]; omega)
  have h19:=p19_eq' n hn g
  simp only [st11_L15,hl,cond_false,q19,h19,hok,Option.bind_some,decide_true,cond_true]
 | d + 1,m + 1,k,hk,hm=>by
  show st11_L15 n (p11_L15 n m) y y 0 2 (k:Int) f g=_
  have hkf:k < f.length:=by rw [hf]; omega
  have hkg:k < g.length:=by rw [hg]; omega
  have ih:=p11_L15_eq n hn hf hg y htx hok d m (k + 1) (by omega) (by omega)
  obtain ⟨h1,h2⟩:=htx k (by omega)
  simp only [d0,tx,lk] at h1 h2
  simp only [st11_L15,lt_t hkf,lt_t hkg,ge_t,cond_true,toNat_cast,h1,h2,beq_self_eq_true,decide_true,Bool.not_true,cond_false]
  rw [wr_succ (by omega)]
  exact ih
theorem law11 (l:List Int) (hl:∀ x ∈ l,0≤x∧x < 256):p11 3000000 l=some ((true,()),()):=by
 obtain ⟨f,c,id,name,to,other,h0,hf,hc,hs,hs2⟩:=p49_eq 3000000 (by omega) hl
 have hR:SzF 2000000 (moveR f c id name to other).1:=moveR_sz
 have t1:=p50_eq 3000000 f c id name to other hf (by omega) (by omega)
 have t2:=p51_eq 3000000 f c id name to other hf (by omega) (by omega) (by omega) (by omega) (by omega)
 have t3:=p18_refl 3000000 _ hR (by omega)
 have t4:=p18_refl 3000000 f hf (by omega)
 have ec:(c.1,c.2.1,c.2.2)=c:=rfl
 show st11_top 3000000 (p11_L15 3000000 3000000) l=_
 by_cases hlen:(1048576:Int) < (l.length:Int)
 ·simp only [st11_top,hlen,decide_true,cond_true]
 simp only [st11_top,hlen,decide_false,cond_false,q49,h0,Option.bind_some,q50,ec,t1,q51,t2,q18,t3,decide_true,Bool.not_true,Bool.not_not,cond_true]
 by_cases e1:(moveR f c id name to other).2=1
 ·simp only [e1,decide_true,cond_true]
 ·by_cases e0':(moveR f c id name to other).2=0
  ·obtain ⟨i,k,t,y,rfl,rfl,hm,he⟩:=moveR_form e0'
   have t6:=p23_eq 3000000 f c (i:Int) name (by omega) (by omega)
   have t7:=p23_eq 3000000 (putE (takeE f i k) t (other,(y:Int))) c (t:Int) other (by omega) (by omega)
   have t8:=p23_eq 3000000 (putE (takeE f i k) t (other,(y:Int))) c (i:Int) name (by omega) (by omega)
   rw [look_of hm.ok hm.cr hm.hi hm.ki hm.n1 hm.mi,hm.has,← hm.hk,hm.ent] at t6
   rw [look_of hm.okN hm.cr hm.ht (by rw [hm.kd']; exact hm.kt) hm.n2 (by rw [hm.may']; exact hm.mt),hm.nmT,ins_has _ _ _ hm.noT,ins_posE _ _ _ hm.noT,ins_get _ _ _ hm.noT] at t7
   rw [look_of hm.okN hm.cr hm.hi (by rw [hm.kd']; exact hm.ki) hm.n1 (by rw [hm.may']; exact hm.mi),no_has hm.noN] at t8
   simp only [cond_true,cond_false] at t6 t7 t8
   have hg:=hm.get
   have fin:=p11_L15_eq 3000000 (by omega) hm.ok.len hm.okN.len (y:Int) (fun j hj=>by
    rw [hg]
    by_cases h1:j=t
    ·rw [if_pos h1,h1]; exact ⟨rfl,rfl⟩
    ·rw [if_neg h1]
     by_cases h2:j=i
     ·rw [if_pos h2,h2]; exact ⟨rfl,rfl⟩
     ·rw [if_neg h2]; exact ⟨rfl,rfl⟩) ((okS_iff _).2 hm.okN) 10 3000000 0 (by omega) (by omega)
   simp only [he,e0',q23,t6,t7,t8,Option.bind_some,e1,decide_false,Bool.not_false,decide_true,Bool.not_true,cond_false,cond_true]
   exact fin
  ·have hx:=moveR_err e0' e1
   rw [hx]
   simp only [e1,e0',decide_false,Bool.not_false,cond_false,cond_true,t4,Option.bind_some]
theorem pure11 (l:List Int) (h:WfT (.row 5 (.int .u8)) l):∃ n o,q11 n (l,())=some ((true,()),o):=⟨3000000,(),law11 l (bytes_wf h)⟩
end Go.Proofs.Ytbjgiioppmkpiaa.Rx.S

