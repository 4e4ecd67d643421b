/- Plain laws of those functions, no program in sight: the law answers true on all data. No condition. -/
import Derived.Test.YtbjgiioppmkpiaaGP0
set_option linter.unusedVariables false
set_option linter.unusedSimpArgs false
namespace Go.Proofs.Ytbjgiioppmkpiaa.Rx.S
open Go Go.Proofs.Ytbjgiioppmkpiaa.Rx.Pu Go.Proofs.Ytbjgiioppmkpiaa.Rx.Fs
set_option linter.unusedVariables false
set_option linter.unusedSimpArgs false
def Bys (l:List Int):Prop:=(∀ x ∈ l,0≤x∧x < 256)∧l.length≤2000
theorem Bys.get {l:List Int} (h:Bys l) (i:Nat):0≤l.getD i 0∧l.getD i 0 < 256:=by
 rw [List.getD_eq_getElem?_getD]
 cases hi:l[i]? with
 | none=>simp
 | some x=>exact h.1 x (List.mem_of_getElem? hi)
theorem p102_eq (n:Nat) {l:List Int} (hl:Bys l) {pos b:Int} (hp:0≤pos∧pos < 1000000) (hb:1≤b) :
  ∃ v:Int,p102 n (l,pos) b=some ((v,()),((l,pos + 1),()))∧0≤v∧v < b:=by
 have e1:IntKind.i64.wrap (pos + 1)=pos + 1:=wr (by omega) (by omega)
 have e2:IntKind.i64.wrap (pos + 1 - 1)=pos:=(wr (x:=pos + 1 - 1) (by omega) (by omega)).trans (by omega)
 have e3:IntKind.i64.wrap (pos * 7)=pos * 7:=wr (by omega) (by omega)
 have e4:IntKind.i64.wrap (pos * 7 + 3)=pos * 7 + 3:=wr (by omega) (by omega)
 have e5:IntKind.i64.wrap (pos * 29)=pos * 29:=wr (by omega) (by omega)
 have hlen:=hl.2
 show ∃ v:Int,st102_top n (l,pos) b=_∧_
 have hb1:¬ b < 1:=by omega
 have hb2:¬ b=0:=by omega
 simp only [st102_top,e1,e2,e3,e4,e5,hb1,hb2,decide_false,cond_false,Bool.not_false,cond_true]
 by_cases h0:(l.length:Int)=0
 ·simp only [h0,decide_true,cond_true]
  exact ⟨0,rfl,by omega,by omega⟩
 ·have hl1:(1:Int)≤l.length:=by omega
  simp only [h0,decide_false,cond_false,Bool.not_false,cond_true]
  by_cases h1:pos < (l.length:Int)
  ·have hp0:(0:Int)≤pos:=hp.1
   simp only [h1,hp0,decide_true,cond_true]
   have hg:=hl.get pos.toNat
   rw [wr (by omega) (by omega)]
   exact ⟨_,rfl,tmod_range hg.1 hb⟩
  ·simp only [h1,decide_false,cond_false]
   have t1:=tmod_range (a:=pos) (b:=l.length) hp.1 hl1
   have t2:=tmod_range (a:=pos * 7 + 3) (b:=l.length) (by omega) hl1
   have t3:=tdiv_range (a:=pos) (b:=l.length) hp.1 hl1
   simp only [t1.1,t1.2,t2.1,t2.2,decide_true,cond_true]
   have g1:=hl.get (pos.tmod l.length).toNat
   have g2:=hl.get ((pos * 7 + 3).tmod l.length).toNat
   generalize l.getD (pos.tmod l.length).toNat 0=y1 at *
   generalize l.getD ((pos * 7 + 3).tmod l.length).toNat 0=y2 at *
   generalize pos.tdiv l.length=q at *
   have w1:IntKind.i64.wrap y1=y1:=wr (by omega) (by omega)
   have w2:IntKind.i64.wrap (y1 * 131)=y1 * 131:=wr (by omega) (by omega)
   have w3:IntKind.i64.wrap y2=y2:=wr (by omega) (by omega)
   have w4:IntKind.i64.wrap (y2 * 1117)=y2 * 1117:=wr (by omega) (by omega)
   have w5:IntKind.i64.wrap (y1 * 131 + y2 * 1117)=y1 * 131 + y2 * 1117:=wr (by omega) (by omega)
   have w6:IntKind.i64.wrap (y1 * 131 + y2 * 1117 + pos * 29)=y1 * 131 + y2 * 1117 + pos * 29:=wr (by omega) (by omega)
   have w7:IntKind.i64.wrap q=q:=wr (by omega) (by omega)
   have w8:IntKind.i64.wrap (q * 53)=q * 53:=wr (by omega) (by omega)
   have w9:IntKind.i64.wrap (y1 * 131 + y2 * 1117 + pos * 29 + q * 53)=y1 * 131 + y2 * 1117 + pos * 29 + q * 53:=wr (by omega) (by omega)
   simp only [w1,w2,w3,w4,w5,w6,w7,w8,w9]
   have hS:0≤y1 * 131 + y2 * 1117 + pos * 29 + q * 53∧y1 * 131 + y2 * 1117 + pos * 29 + q * 53 < 1000000000000:=by omega
   generalize y1 * 131 + y2 * 1117 + pos * 29 + q * 53=S at *
   have hd:=tdiv_range (a:=S) (b:=64) hS.1 (by omega)
   have w10:IntKind.i64.wrap (S.tdiv 64)=S.tdiv 64:=wr (by omega) (by omega)
   simp only [w10]
   exact ⟨_,rfl,tmod_range (xor_small hS.1 (by omega) hd.1 (by omega)) hb⟩
theorem p55_eq (n:Nat) {l:List Int} (hl:∀ x ∈ l,0≤x∧x < 256):∃ l',p55 n l=some (((l',0),()),())∧Bys l':=by
 show ∃ l',st55_top n l=_∧_
 simp only [st55_top]
 by_cases h:(2000:Int) < l.length
 ·have h2:(2000:Int)≤l.length:=by omega
  simp only [h,h2,decide_true,cond_true]
  refine ⟨_,rfl,fun x hx=>hl x (List.mem_of_mem_take hx),?_⟩
  rw [List.length_take]
  exact Nat.min_le_left _ _
 ·simp only [h,decide_false,cond_false]
  exact ⟨_,rfl,hl,by omega⟩
theorem lst3 {v:Int} (h0:0≤v) (h1:v < 3) {α:Type} (a b c:α):decide (v < (([a,b,c].length:Nat):Int))=true:=decide_eq_true (by simpa using h1)
theorem p58_eq (n:Nat) {l:List Int} (hl:Bys l) {pos:Int} (hp:0≤pos∧pos < 900000):∃ (v pos':Int),p58 n (l,pos)=some ((v,()),((l,pos'),()))∧(pos≤pos'∧pos'≤pos + 2)∧-1≤v∧v≤10:=by
 show ∃ (v pos':Int),st58_top n (l,pos)=_∧_
 obtain ⟨v0,hv0,g0,g1⟩:=p102_eq n hl (pos:=pos) (b:=16) (by omega) (by omega)
 obtain ⟨v1,hv1,g2,g3⟩:=p102_eq n hl (pos:=pos + 1) (b:=3) (by omega) (by omega)
 obtain ⟨v2,hv2,g4,g5⟩:=p102_eq n hl (pos:=pos + 1) (b:=5) (by omega) (by omega)
 simp only [st58_top,q102,hv0,hv1,hv2,Option.bind_some,g2,decide_true,cond_true,lst3 g2 g3]
 by_cases h:v0=0
 ·simp only [h,decide_true,cond_true]
  refine ⟨_,_,rfl,by omega,?_⟩
  have:v1=0∨v1=1∨v1=2:=by omega
  rcases this with h | h | h <;> subst h <;> decide
 ·simp only [h,decide_false,cond_false]
  exact ⟨_,_,rfl,by omega,by omega,by omega⟩
theorem d8 {a:Nat} (h:a≤1000) (b:Nat) (hb:b=1):decide ((a + b) * (8:Nat)≤(140737488355328:Nat))=true:=decide_eq_true (by omega)
theorem p57_L3_eq (n:Nat) {l:List Int} (hl:Bys l) (x3 x4 u r:Int):∀ (m k:Nat) (pos:Int) (g:List Int),k≤5→5 - k < m→0≤pos∧pos + (5 - (k:Int)) < 900000→g.length≤3 →
  ∃ (c:Cr) (pos':Int),p57_L3 n m (k:Int) l pos x3 x4 u r g=some ((c,()),((l,pos'),()))∧(pos≤pos'∧pos'≤pos + (5 - k) + 2)∧c.2.2.length≤4
 | 0,k,pos,g,_,h,_,_=>by omega
 | m + 1,k,pos,g,hk,hm,hp,hg=>by
  show ∃ (c:Cr) (pos':Int),st57_L3 n (p57_L3 n m) (k:Int) l pos x3 x4 u r g=_∧_
  obtain ⟨v0,hv0,g0,g1⟩:=p102_eq n hl (pos:=pos) (b:=4) (by omega) (by omega)
  obtain ⟨v1,hv1,g2,g3⟩:=p102_eq n hl (pos:=pos) (b:=30) (by omega) (by omega)
  obtain ⟨v2,hv2,g4,g5⟩:=p102_eq n hl (pos:=pos + 1) (b:=3) (by omega) (by omega)
  have h03:decide (v2 < ((0 + 1 + 1 + 1:Nat):Int))=true:=decide_eq_true (by omega)
  have hd:=d8 (a:=g.length) (by omega) (0 + 1) rfl
  simp only [st57_L3,q102,hv0,hv1,hv2,Option.bind_some,g4,decide_true,cond_true,List.length_cons,List.length_nil,h03,hd]
  have tail:∀ (b:Bool),b=b→∃ (c:Cr) (pos':Int),(bif decide (v1=0) then some ((([(-1:Int),10,9].getD v2.toNat 0,(r,g)),()),((l,pos + 1 + 1),())) else bif decide (v1=1) then some (((u,(r,g ++ [[(0:Int),9,10].getD v2.toNat 0])),()),((l,pos + 1 + 1),())) else some (((u,(r,g)),()),((l,pos + 1),())))=some ((c,()),((l,pos'),()))∧(pos≤pos'∧pos'≤pos + (5 - k) + 2)∧c.2.2.length≤4:=fun _ _=>by
   cases decide (v1=0) with
   | true=>exact ⟨_,_,rfl,by omega,by show g.length≤4; omega⟩
   | false =>
    cases decide (v1=1) with
    | true=>exact ⟨_,_,rfl,by omega,by show (g ++ _).length≤4; simp; omega⟩
    | false=>exact ⟨_,_,rfl,by omega,by show g.length≤4; omega⟩
  by_cases h1:(k:Int) < 5
  ·simp only [h1,decide_true,cond_true]
   by_cases h2:(g.length:Int) < 3
   ·simp only [h2,decide_true,cond_true]
    rw [succ_wr (by omega)]
    by_cases h3:v0=0
    ·simp only [h3,decide_true,cond_true]
     obtain ⟨c,pos',e1,e2,e3⟩:=p57_L3_eq n hl x3 x4 u r m (k + 1) (pos + 1) (g ++ [(k:Int)]) (by omega) (by omega) (by omega) (by simp; omega)
     exact ⟨c,pos',e1,by omega,e3⟩
    ·simp only [h3,decide_false,cond_false]
     obtain ⟨c,pos',e1,e2,e3⟩:=p57_L3_eq n hl x3 x4 u r m (k + 1) (pos + 1) g (by omega) (by omega) (by omega) hg
     exact ⟨c,pos',e1,by omega,e3⟩
   ·simp only [h2,decide_false,cond_false]
    exact tail true rfl
  ·simp only [h1,decide_false,cond_false]
   exact tail true rfl
theorem p57_eq (n:Nat) (hn:100 < n) {l:List Int} (hl:Bys l) {pos:Int} (hp:0≤pos∧pos < 800000):∃ (c:Cr) (pos':Int),p57 n (l,pos)=some ((c,()),((l,pos'),()))∧(pos≤pos'∧pos'≤pos + 9)∧c.2.2.length≤4:=by
 show ∃ (c:Cr) (pos':Int),st57_top n (p57_L3 n n) (l,pos)=_∧_
 obtain ⟨v0,hv0,g0,g1⟩:=p102_eq n hl (pos:=pos) (b:=4) (by omega) (by omega)
 obtain ⟨v1,hv1,g2,g3⟩:=p102_eq n hl (pos:=pos + 1) (b:=4) (by omega) (by omega)
 simp only [st57_top,q102,hv0,hv1,Option.bind_some]
 obtain ⟨c,pos',e1,e2,e3⟩:=p57_L3_eq n hl 0 0 v0 v1 n 0 (pos + 1 + 1) [] (by omega) (by omega) (by omega) (by simp)
 exact ⟨c,pos',e1,by omega,e3⟩
end Go.Proofs.Ytbjgiioppmkpiaa.Rx.S

namespace Go.Proofs.Ytbjgiioppmkpiaa.Rx.S
open Go Go.Proofs.Ytbjgiioppmkpiaa.Rx.Pu Go.Proofs.Ytbjgiioppmkpiaa.Rx.Fs
set_option linter.unusedVariables false
set_option linter.unusedSimpArgs false
theorem foldl_size:∀ (l:List Int) (r:ByteArray),(l.foldl (fun (r:ByteArray) (n:Int)=>r.push (UInt8.ofNat n.toNat)) r).size=r.size + l.length
 | [],r=>rfl
 | x :: l,r=>by
  rw [List.foldl_cons,foldl_size l,ByteArray.size_push,List.length_cons]; omega
theorem p112_eq (n:Nat) (o m:Int) (ho:0≤o∧o≤9) (hm:0≤m∧m≤511):p112 n o m=some ((((List.replicate 10 d0).set 0 (2,m,o,o,0,0,false,ByteArray.empty,[])),(true,())),()):=by
 show st112_top n o m=_
 simp only [st112_top,q118,p118_eq,q66,p66_eq,Option.bind_some,ho,hm,and_self,decide_true,Bool.not_true,cond_false]
 rfl
def abc:ByteArray:=ByteArray.mk #[(97:UInt8),(98:UInt8),(99:UInt8),(100:UInt8),(101:UInt8),(102:UInt8),(103:UInt8),(104:UInt8),(48:UInt8),(49:UInt8),(32:UInt8),(46:UInt8)]
theorem p145_L3_eq (n:Nat) {l:List Int} (hl:Bys l):∀ (m k:Nat) (pos:Int) (o:List Int),k≤1000→k < m→0≤pos∧pos + k < 900000→o.length≤1000 - k →
  ∃ (s:ByteArray) (pos':Int),p145_L3 n m (k:Int) l pos o=some ((s,()),((l,pos'),()))∧(pos≤pos'∧pos'≤pos + k)∧s.size≤o.length + k
 | 0,k,pos,o,_,h,_,_=>by omega
 | m + 1,k,pos,o,hk,hm,hp,ho=>by
  show ∃ (s:ByteArray) (pos':Int),st145_L3 n (p145_L3 n m) (k:Int) l pos o=_∧_
  cases k with
  | zero =>
   have h0:decide ((0:Int) < ((0:Nat):Int))=false:=rfl
   simp only [st145_L3,h0,cond_false]
   exact ⟨_,_,rfl,by omega,by rw [foldl_size]; show 0 + _≤_; omega⟩
  | succ k =>
   obtain ⟨v0,hv0,g0,g1⟩:=p102_eq n hl (pos:=pos) (b:=12) (by omega) (by omega)
   have h0:decide ((0:Int) < ((k + 1:Nat):Int))=true:=decide_eq_true (by omega)
   have e1:IntKind.i64.wrap (((k + 1:Nat):Int) - 1)=(k:Int):=(wr (by omega) (by omega)).trans (by omega)
   have e2:decide (v0 < ((abc.size:Nat):Int))=true:=decide_eq_true (by have:abc.size=12:=rfl; omega)
   have e3:∀ x:Int,decide ((o.length + [x].length) * (1:Nat)≤(140737488355328:Nat))=true:=fun x=>decide_eq_true (by simp; omega)
   unfold abc at e2
   simp only [st145_L3,h0,cond_true,q102,hv0,Option.bind_some,g0,decide_true,e2,e3,e1]
   obtain ⟨s,pos',h1,h2,h3⟩:=p145_L3_eq n hl m k (pos + 1) (o ++ [(((ByteArray.mk #[(97:UInt8),(98:UInt8),(99:UInt8),(100:UInt8),(101:UInt8),(102:UInt8),(103:UInt8),(104:UInt8),(48:UInt8),(49:UInt8),(32:UInt8),(46:UInt8)]).data.toList.getD (Int.toNat v0) (0:UInt8)).toNat:Int)]) (by omega) (by omega) (by omega) (by simp; omega)
   exact ⟨s,pos',h1,by omega,by simp at h3; omega⟩
theorem p145_eq (n:Nat) (hn:2000 < n) {l:List Int} (hl:Bys l) {pos:Int} (hp:0≤pos∧pos < 800000) (b:Nat) (hb:b≤900):∃ (s:ByteArray) (pos':Int),p145 n (l,pos) (b:Int)=some ((s,()),((l,pos'),()))∧(pos≤pos'∧pos'≤pos + b + 1)∧s.size≤b:=by
 show ∃ (s:ByteArray) (pos':Int),st145_top n (p145_L3 n n) (l,pos) (b:Int)=_∧_
 obtain ⟨v0,hv0,g0,g1⟩:=p102_eq n hl (pos:=pos) (b:=((b + 1:Nat):Int)) (by omega) (by omega)
 obtain ⟨k,rfl⟩:=Int.eq_ofNat_of_zero_le g0
 simp only [st145_top,q102,succ_wr (show b < 4611686018427387904 by omega),hv0,Option.bind_some]
 obtain ⟨s,pos',h1,h2,h3⟩:=p145_L3_eq n hl n k (pos + 1) [] (by omega) (by omega) (by omega) (by simp)
 exact ⟨s,pos',h1,by omega,by simp at h3; omega⟩
end Go.Proofs.Ytbjgiioppmkpiaa.Rx.S

namespace Go.Proofs.Ytbjgiioppmkpiaa.Rx.S
open Go Go.Proofs.Ytbjgiioppmkpiaa.Rx.Pu Go.Proofs.Ytbjgiioppmkpiaa.Rx.Fs
set_option linter.unusedVariables false
set_option linter.unusedSimpArgs false
noncomputable def writeD (f:List Nd) (i k:Nat) (s:ByteArray):List Nd × Int :=
 bif !decide ((f.getD i d0).1=1) then (f,4) else bif decide (40 < (k:Int)) then (f,7) else bif decide (40 < (k:Int) + (s.size:Int)) then (f,7) else bif decide (s.size=0) then (f,0) else
   (f.set i (setTx (f.getD i d0) (wtx (padB (k - (f.getD i d0).2.2.2.2.2.2.2.1.size) (f.getD i d0).2.2.2.2.2.2.2.1) k s)),0)
theorem p144_eq (n:Nat) (f:List Nd) (i k:Nat) (s:ByteArray) (h:OkW f) (hi10:i < 10) (hs:s.size≤1048576) (hk:k≤2000000000) (hn:2000000 < n):p144 n f (i:Int) (k:Int) s=some (((writeD f i k s).1,((writeD f i k s).2,())),()):=by
 have hi:i < f.length:=by rw [h.len]; exact hi10
 unfold writeD
 show st144_top n (p144_L8 n n) f (i:Int) (k:Int) s=_
 simp only [st144_top,lt_t hi,ge_t,cond_true,toNat_cast,empty_iff]
 by_cases hk1:(f.getD i d0).1=1
 ·have hk1':=hk1
  simp only [d0] at hk1'
  simp only [hk1,hk1',decide_true,Bool.not_true,cond_false]
  by_cases hk40:(40:Int) < (k:Int)
  ·simp only [hk40,decide_true,cond_true]
  ·have w:IntKind.i64.wrap ((k:Int) + (s.size:Int))=(k:Int) + (s.size:Int):=wr (by omega) (by omega)
   simp only [hk40,decide_false,cond_false,w]
   by_cases hk2:(40:Int) < (k:Int) + (s.size:Int)
   ·simp only [hk2,decide_true,cond_true]
   ·simp only [hk2,decide_false,cond_false]
    by_cases hs0:s.size=0
    ·simp only [hs0,decide_true,cond_true]
    ·simp only [hs0,decide_false,cond_false]
     have htx:((f.getD i d0).2.2.2.2.2.2.2.1).size≤40:=((h.base i hi10 (by rw [kd,hk1]; decide)).2.2.2.1 hk1).1
     exact p144_L8_eq n f i hi k s (by omega) (by omega) _ n _ (Nat.le_trans htx (by omega)) rfl (by omega)
 ·have hk1':=hk1
  simp only [d0] at hk1'
  simp only [hk1,hk1',decide_false,Bool.not_false,cond_true]
theorem wtx_size (t:ByteArray) (k:Nat) (s:ByteArray) (hk:k + s.size≤40) (ht:t.size≤40):(wtx t k s).size≤40:=by
 unfold wtx endB
 rw [ByteArray.size_append,ByteArray.size_append,ByteArray.size_extract]
 cases hd:decide (k + s.size < t.size) with
 | true =>
  have:=of_decide_eq_true hd
  simp only [cond_true,ByteArray.size_extract]
  omega
 | false =>
  simp only [cond_false]
  have:(ByteArray.mk #[]).size=0:=rfl
  omega
theorem writeD_ok {f:List Nd} (h:OkW f) {i:Nat} (hi:i < 10) (k:Nat) (s:ByteArray):OkW (writeD f i k s).1:=by
 unfold writeD
 by_cases hk1:(f.getD i d0).1=1
 ·rw [decide_eq_true hk1]
  simp only [Bool.not_true,cond_false]
  by_cases hk40:(40:Int) < (k:Int)
  ·rw [decide_eq_true hk40]; exact h
  ·rw [decide_eq_false hk40]
   by_cases hk2:(40:Int) < (k:Int) + (s.size:Int)
   ·rw [decide_eq_true hk2]; exact h
   ·rw [decide_eq_false hk2]
    by_cases hs0:s.size=0
    ·rw [decide_eq_true hs0]; exact h
    ·rw [decide_eq_false hs0]
     simp only [cond_false]
     obtain ⟨b1,b2,b3,b4,b5⟩:=h.base i hi (by rw [kd,hk1]; decide)
     have htx:=(b4 hk1).1
     have hsz:(wtx (padB (k - (f.getD i d0).2.2.2.2.2.2.2.1.size) (f.getD i d0).2.2.2.2.2.2.2.1) k s).size≤40:=by
      refine wtx_size _ _ _ (by omega) ?_
      rw [padB_size]
      simp only [tx] at htx
      omega
     refine h.same hi (by rw [kd,hk1]; decide) rfl rfl rfl ⟨b1,b2,b3,fun _=>⟨hsz,(b4 hk1).2⟩,fun h2=>?_⟩ (fun _=>h.live i hi hk1)
     have:(f.getD i d0).1=2:=h2
     omega
 ·rw [decide_eq_false hk1]; exact h
theorem openD_ok {f:List Nd} (h:OkW f) {i:Nat} (hi:i < 10) (hk:kd (f.getD i d0) ≠ 0) (more:Bool):OkW (openD f i more).1:=by
 unfold openD
 obtain ⟨b1,b2,b3,b4,b5⟩:=h.base i hi hk
 have ho:=h.opens i hi
 simp only [op] at ho b3
 cases more with
 | true =>
  simp only [cond_true]
  by_cases h9:99≤(f.getD i d0).2.2.2.2.2.1
  ·rw [decide_eq_true h9]; exact h
  ·rw [decide_eq_false h9]
   simp only [cond_false]
   refine h.same hi hk rfl rfl rfl ⟨b1,b2,?_,b4,b5⟩ (fun hk1 hv=>?_)
   ·show 0≤(f.getD i d0).2.2.2.2.2.1 + 1∧(f.getD i d0).2.2.2.2.2.1 + 1≤99; omega
   ·have:(f.getD i d0).2.2.2.2.2.1 + 1=0:=hv.2
    omega
 | false =>
  simp only [cond_false]
  by_cases h0:(f.getD i d0).2.2.2.2.2.1=0
  ·rw [decide_eq_true h0]; exact h
  ·rw [decide_eq_false h0]
   simp only [cond_false]
   unfold freeN freeB
   have hif:i < f.length:=by rw [h.len]; exact hi
   rw [getD_set_self hif]
   have e1:(setOp (f.getD i d0) ((f.getD i d0).2.2.2.2.2.1 - 1)).2.2.2.2.1=lk (f.getD i d0):=rfl
   have e2:(setOp (f.getD i d0) ((f.getD i d0).2.2.2.2.2.1 - 1)).2.2.2.2.2.1=(f.getD i d0).2.2.2.2.2.1 - 1:=rfl
   rw [e1,e2,List.set_set]
   cases hb:!decide (i=0)&&(decide (lk (f.getD i d0)=0)&&decide ((f.getD i d0).2.2.2.2.2.1 - 1=0)) with
   | true =>
    simp only [Bool.and_eq_true,Bool.not_eq_true',decide_eq_false_iff_not,decide_eq_true_eq] at hb
    simp only [cond_true]
    refine h.gone hi ?_ hb.2.1
    by_cases hk2:kd (f.getD i d0)=2
    ·have:=h.tr.un i hi (decide_eq_true hk2) hb.1
     have:=h.links i hi hk
     omega
    ·omega
   | false =>
    simp only [cond_false]
    refine h.same hi hk rfl rfl rfl ⟨b1,b2,?_,b4,b5⟩ (fun hk1 hv=>?_)
    ·show 0≤(f.getD i d0).2.2.2.2.2.1 - 1∧(f.getD i d0).2.2.2.2.2.1 - 1≤99; omega
    ·have hv1:lk (f.getD i d0)=0:=hv.1
     have hv2:(f.getD i d0).2.2.2.2.2.1 - 1=0:=hv.2
     have hi0:i ≠ 0:=fun e=>by
      subst e
      have:=h.root
      have hk1':kd (f.getD 0 d0)=1:=hk1
      omega
     rw [decide_eq_true hv1,decide_eq_true hv2,decide_eq_false hi0] at hb
     cases hb
end Go.Proofs.Ytbjgiioppmkpiaa.Rx.S

namespace Go.Proofs.Ytbjgiioppmkpiaa.Rx.S
open Go Go.Proofs.Ytbjgiioppmkpiaa.Rx.Pu Go.Proofs.Ytbjgiioppmkpiaa.Rx.Fs
set_option linter.unusedVariables false
set_option linter.unusedSimpArgs false
theorem OkW.szF {f:List Nd} (h:OkW f):SzF 2000000 f:=⟨by rw [h.len]; omega,fun a ha=>by
 obtain ⟨i,hi,rfl⟩:=List.mem_iff_getElem.1 ha
 rw [← getD_get hi d0]
 rw [h.len] at hi
 refine ⟨?_,by have:=h.nlen i hi; omega,fun e he=>?_⟩
 ·by_cases hk:kd (f.getD i d0)=0
  ·have:=(h.zero i hi hk).2.2.2.2.2.2.2.1; omega
  ·obtain ⟨b1,_,_,b4,b5⟩:=h.base i hi hk
   have:kd (f.getD i d0)=1∨kd (f.getD i d0)=2:=by omega
   rcases this with h1 | h1
   ·have:=(b4 h1).1; omega
   ·have:=(b5 h1).1; omega
 ·have:=((h.entsOk hi).all e he).1
  simp only [nmOk,Bool.and_eq_true,decide_eq_true_eq] at this
  omega⟩
def nl4:List ByteArray:=[ByteArray.mk #[(97:UInt8)],ByteArray.mk #[(98:UInt8)],ByteArray.mk #[(99:UInt8)],ByteArray.mk #[(97:UInt8),(98:UInt8)]]
theorem nl4_ok {v:Int} (h0:0≤v) (h1:v < 4):nmOk (nl4.getD v.toNat ByteArray.empty)=true:=by
 have:v=0∨v=1∨v=2∨v=3:=by omega
 rcases this with h | h | h | h <;> subst h <;> decide
theorem md3 {v:Int} (h0:0≤v) (h1:v < 3):0≤[(493:Int),511,448].getD v.toNat 0∧[(493:Int),511,448].getD v.toNat 0≤511:=by
 have:v=0∨v=1∨v=2:=by omega
 rcases this with h | h | h <;> subst h <;> decide
theorem p113_C10_eq (n:Nat) (hn:2000000 < n) {l:List Int} (hl:Bys l) {pos:Int} (hp:0≤pos∧pos < 700000) (i t:Nat) (hi:i < 10) (ht:t < 10) {f:List Nd} (h:OkW f) (hki:kd (f.getD i d0) ≠ 0) (u r:Int) (g:List Int) (hg:g.length≤4) :
  ∃ (f':List Nd) (pos':Int),p113_C10_0 n (i:Int) (t:Int) l pos u r f g=some ((f',()),((l,pos'),()))∧(pos≤pos'∧pos'≤pos + 20)∧OkW f':=by
 show ∃ (f':List Nd) (pos':Int),st113_C10_0 n (i:Int) (t:Int) l pos u r f g=_∧_
 have hif:i < f.length:=by rw [h.len]; exact hi
 obtain ⟨v7,hv7,a0,a1⟩:=p102_eq n hl (pos:=pos) (b:=4) (by omega) (by omega)
 obtain ⟨v8,hv8,b0,b1⟩:=p102_eq n hl (pos:=pos + 1) (b:=4) (by omega) (by omega)
 obtain ⟨v10,hv10,c0,c1⟩:=p102_eq n hl (pos:=pos + 1 + 1) (b:=10) (by omega) (by omega)
 obtain ⟨w2,hw2,d1,d2⟩:=p102_eq n hl (pos:=pos + 1 + 1 + 1) (b:=2) (by omega) (by omega)
 obtain ⟨w3,hw3,e1,e2⟩:=p102_eq n hl (pos:=pos + 1 + 1 + 1 + 1) (b:=3) (by omega) (by omega)
 obtain ⟨w4,hw4,g1,g2⟩:=p102_eq n hl (pos:=pos + 1 + 1 + 1) (b:=3) (by omega) (by omega)
 obtain ⟨w5,hw5,k1,k2⟩:=p102_eq n hl (pos:=pos + 1 + 1 + 1) (b:=20) (by omega) (by omega)
 obtain ⟨s,ps,hs,hs1,hs2⟩:=p145_eq n (by omega) hl (pos:=pos + 1 + 1 + 1 + 1) (by omega) 9 (by omega)
 have hcp:=p67_eq n f (OkW.szF h) hn
 have hB:=OkW.szB h
 have hlen4:∀ v:Int,v < 4→decide (v < ((nl4.length:Nat):Int))=true:=fun v hv=>decide_eq_true (by have:nl4.length=4:=rfl; omega)
 have q7:=hlen4 v7 a1
 have q8:=hlen4 v8 b1
 have n7:=nl4_ok a0 a1
 have n8:=nl4_ok b0 b1
 have m3:=md3 e1 e2
 have kw:IntKind.i64.wrap (1 + w2)=1 + w2:=wr (by omega) (by omega)
 let c:Cr:=(u,r,g)
 obtain ⟨k5,hk5⟩:=Int.eq_ofNat_of_zero_le k1
 have r67:=p106_eq n f c i (nl4.getD v7.toNat ByteArray.empty) (1 + w2) ([(493:Int),511,448].getD w3.toNat 0) hif hB (by show g.length≤_; omega) hn
 have hlk:=h.links
 have hlt:∀ y,y < 10→0≤lk (f.getD y d0)∧lk (f.getD y d0)≤1000:=fun y hy=>by
  by_cases hk:kd (f.getD y d0)=0
  ·have:=(h.zero y hy hk).2.2.2.2.1; omega
  ·have:=h.links y hy hk; have:=many_le (f:=f) (fun j hj=>h.nlen j hj) y; omega
 have r113:=p111_eq n f c t i (nl4.getD v7.toNat ByteArray.empty) hif (by rw [h.len]; exact ht) hB (by show g.length≤_; omega) (hlt t ht) hn
 have r114:=p77_eq n f c i (nl4.getD v7.toNat ByteArray.empty) h hi (by show g.length≤_; omega) hn
 have r115:=p110_eq n f c i (nl4.getD v7.toNat ByteArray.empty) t (nl4.getD v8.toNat ByteArray.empty) h hi ht (by show g.length≤_; omega) hn
 have ho:=h.opens i hi
 have r83:=p132_eq n f i hif ho.1 ho.2 (decide (0 < w4))
 have r81:=p144_eq n f i k5 s h hi (by omega) (by omega) hn
 have l3:∀ v:Int,v < 3→decide (v < (([(493:Int),511,448].length:Nat):Int))=true:=fun v hv=>decide_eq_true (by simp; omega)
 have l33:=l3 w3 e2
 have o67:=makeD_ok h (c:=c) hi (name:=nl4.getD v7.toNat ByteArray.empty) n7 (kind:=1 + w2) (mode:=[(493:Int),511,448].getD w3.toNat 0) (by omega) m3
 have o113:=linkD_ok h (c:=c) hi ht (name:=nl4.getD v7.toNat ByteArray.empty) n7
 have o114:=dropD_ok h (c:=c) hi (nl4.getD v7.toNat ByteArray.empty)
 have o115:=moveD_ok h (c:=c) hi ht (nl4.getD v7.toNat ByteArray.empty) (other:=nl4.getD v8.toNat ByteArray.empty) n8
 have o83:=openD_ok h hi hki (decide (0 < w4))
 have o81:=writeD_ok h hi k5 s
 unfold nl4 at q7 q8 r67 r113 r114 r115
 simp only [c] at r67 r113 r114 r115
 have hs':p145 n (l,pos + 1 + 1 + 1 + 1) 9=some ((s,()),((l,ps),())):=hs
 simp only [st113_C10_0,q102,hv7,hv8,hv10,hw2,hw3,hw4,hw5,Option.bind_some,a0,b0,e1,decide_true,cond_true,q7,q8,q67,hcp,l33,kw,q106,r67,q111,r113,q77,r114,q110,r115,q132,r83,q145,hs',q144,hk5,r81,ge_t,lt_t hif,toNat_cast]
 cases decide (v10=0) with
 | true=>exact ⟨_,_,rfl,by omega,o67⟩
 | false =>
 cases decide (v10=1) with
 | true=>exact ⟨_,_,rfl,by omega,o67⟩
 | false =>
 cases decide (v10=2) with
 | true=>exact ⟨_,_,rfl,by omega,o67⟩
 | false =>
 cases decide (v10=3) with
 | true=>exact ⟨_,_,rfl,by omega,o113⟩
 | false =>
 cases decide (v10=4) with
 | true=>exact ⟨_,_,rfl,by omega,o114⟩
 | false =>
 cases decide (v10=5) with
 | true=>exact ⟨_,_,rfl,by omega,o115⟩
 | false =>
 cases decide (v10=6) with
 | true=>exact ⟨_,_,rfl,by omega,o83⟩
 | false =>
 cases decide (v10=7) with
 | true =>
  by_cases hk1:kd (f.getD i d0)=1
  ·have hk1':=hk1
   simp only [kd,d0] at hk1'
   simp only [cond_false,cond_true,hk1',decide_true]
   refine ⟨_,_,rfl,by omega,?_⟩
   obtain ⟨b1,b2,b3,b4,b5⟩:=h.base i hi hki
   refine h.same (a:=(1,(f.getD i d0).2.1,(f.getD i d0).2.2.1,(f.getD i d0).2.2.2.1,(f.getD i d0).2.2.2.2.1,(f.getD i d0).2.2.2.2.2.1,decide (w2=0),(f.getD i d0).2.2.2.2.2.2.2)) hi hki hk1.symm rfl rfl ⟨by show (1:Int)≤1∧(1:Int)≤2; omega,b2,b3,fun _=>b4 hk1,fun h2=>?_⟩ (fun _=>h.live i hi hk1)
   exact absurd (show (1:Int)=2 from h2) (by decide)
  ·have hk1':=hk1
   simp only [kd,d0] at hk1'
   simp only [cond_false,cond_true,hk1',decide_false]
   exact ⟨_,_,rfl,by omega,h⟩
 | false=>exact ⟨_,_,rfl,by omega,o81⟩
end Go.Proofs.Ytbjgiioppmkpiaa.Rx.S

namespace Go.Proofs.Ytbjgiioppmkpiaa.Rx.S
open Go Go.Proofs.Ytbjgiioppmkpiaa.Rx.Pu Go.Proofs.Ytbjgiioppmkpiaa.Rx.Fs
set_option linter.unusedVariables false
set_option linter.unusedSimpArgs false
theorem hasB_kd {f:List Nd} {v:Int} (h:hasB f v=true):∃ i:Nat,v=(i:Int)∧i < 10∧kd (f.getD i d0) ≠ 0:=by
 unfold hasB at h
 simp only [Bool.and_eq_true,decide_eq_true_eq,Bool.not_eq_true',decide_eq_false_iff_not] at h
 exact ⟨v.toNat,by omega,by omega,h.2⟩
theorem p113_eq (n:Nat) (hn:2000000 < n) {l:List Int} (hl:Bys l) {pos:Int} (hp:0≤pos∧pos < 600000) {f:List Nd} (h:OkW f) :
  ∃ (f':List Nd) (pos':Int),p113 n (l,pos) f=some ((f',()),((l,pos'),()))∧(pos≤pos'∧pos'≤pos + 40)∧OkW f':=by
 show ∃ (f':List Nd) (pos':Int),st113_top n (p113_C10_0 n) (l,pos) f=_∧_
 obtain ⟨c,p1,hc,hp1,hg⟩:=p57_eq n (by omega) hl (pos:=pos) (by omega)
 obtain ⟨v1,hv1,_,_⟩:=p102_eq n hl (pos:=p1) (b:=2) (by omega) (by omega)
 obtain ⟨v2,hv2,_,_⟩:=p102_eq n hl (pos:=p1 + 1) (b:=6) (by omega) (by omega)
 obtain ⟨v3,hv3,_,_⟩:=p102_eq n hl (pos:=p1 + 1 + 1) (b:=6) (by omega) (by omega)
 have e2:=p65_eq n f h.len v2
 have e3:=p65_eq n f h.len v3
 have hr:=h.root
 have key:∀ (u:Int),∃ (f':List Nd) (pos':Int),(bif !hasB f v2 then (bif !hasB f v3 then p113_C10_0 n 0 0 l (p1 + 1 + 1 + 1) u c.2.1 f c.2.2 else p113_C10_0 n 0 v3 l (p1 + 1 + 1 + 1) u c.2.1 f c.2.2)
   else (bif !hasB f v3 then p113_C10_0 n v2 0 l (p1 + 1 + 1 + 1) u c.2.1 f c.2.2 else p113_C10_0 n v2 v3 l (p1 + 1 + 1 + 1) u c.2.1 f c.2.2))=some ((f',()),((l,pos'),()))∧(pos≤pos'∧pos'≤pos + 40)∧OkW f':=fun u=>by
  have go:∀ i t:Nat,i < 10→t < 10→kd (f.getD i d0) ≠ 0→∃ (f':List Nd) (pos':Int),p113_C10_0 n (i:Int) (t:Int) l (p1 + 1 + 1 + 1) u c.2.1 f c.2.2=some ((f',()),((l,pos'),()))∧(pos≤pos'∧pos'≤pos + 40)∧OkW f':=fun i t hi ht hk=>by
   obtain ⟨f',pos',a1,a2,a3⟩:=p113_C10_eq n hn hl (pos:=p1 + 1 + 1 + 1) (by omega) i t hi ht h hk u c.2.1 c.2.2 hg
   exact ⟨f',pos',a1,by omega,a3⟩
  cases h2:hasB f v2 with
  | true =>
   obtain ⟨i,rfl,hi,hk⟩:=hasB_kd h2
   cases h3:hasB f v3 with
   | true =>
    obtain ⟨t,rfl,ht,_⟩:=hasB_kd h3
    exact go i t hi ht hk
   | false=>exact go i 0 hi (by omega) hk
  | false =>
   cases h3:hasB f v3 with
   | true =>
    obtain ⟨t,rfl,ht,_⟩:=hasB_kd h3
    exact go 0 t (by omega) ht (by omega)
   | false=>exact go 0 0 (by omega) (by omega) (by omega)
 simp only [st113_top,q57,hc,q102,hv1,hv2,hv3,Option.bind_some,q65,e2,e3]
 cases decide (v1=0) with
 | true=>exact key 0
 | false=>exact key c.1
end Go.Proofs.Ytbjgiioppmkpiaa.Rx.S

namespace Go.Proofs.Ytbjgiioppmkpiaa.Rx.S
open Go Go.Proofs.Ytbjgiioppmkpiaa.Rx.Pu Go.Proofs.Ytbjgiioppmkpiaa.Rx.Fs
set_option linter.unusedVariables false
set_option linter.unusedSimpArgs false
def digI (d b:Int):Int:=IntKind.i64.wrap (↑(BitVec.ofInt IntKind.i64.bits (d.fdiv ((2:Int) ^ min (IntKind.i64.wrap ((3:Int) * IntKind.i64.wrap ((2:Int) - b))).toNat IntKind.i64.bits)) &&& BitVec.ofInt IntKind.i64.bits (7:Int)).toNat:Int)
theorem p107_0 (n:Nat) (d:Int):p107 n d 0=some ((digI d 0,()),()):=rfl
theorem p107_1 (n:Nat) (d:Int):p107 n d 1=some ((digI d 1,()),()):=rfl
theorem p107_2 (n:Nat) (d:Int):p107 n d 2=some ((digI d 2,()),()):=rfl
def digs (d:Int):Bool:=decide (digI d 0=IntKind.i64.wrap (d.tdiv 64))&&(decide (digI d 1=(IntKind.i64.wrap (d.tdiv 8)).tmod 8)&&(decide (digI d 2=d.tmod 8) &&
 (decide (IntKind.i64.wrap (↑(BitVec.ofInt IntKind.i64.bits (IntKind.i64.wrap (↑(BitVec.ofInt IntKind.i64.bits (IntKind.i64.wrap (↑(BitVec.ofInt IntKind.i64.bits (digI d 0)|||BitVec.ofInt IntKind.i64.bits (digI d 1)).toNat:Int))|||BitVec.ofInt IntKind.i64.bits (digI d 2)).toNat:Int)) &&& BitVec.ofInt IntKind.i64.bits (1:Int)).toNat:Int)=1) ==
  decide ((0:Int) < IntKind.i64.wrap (IntKind.i64.wrap (d.tmod 2 + (IntKind.i64.wrap (d.tdiv 8)).tmod 2) + (IntKind.i64.wrap (d.tdiv 64)).tmod 2)))))
theorem digs_all:∀ d:Fin 512,digs ((d.1:Nat):Int)=true:=by decide +kernel
def rts (e:Int):Bool:=mayV 7 e&&(mayV 6 e == decide (IntKind.i64.wrap (↑(BitVec.ofInt IntKind.i64.bits e &&& BitVec.ofInt IntKind.i64.bits (1:Int)).toNat:Int)=0))
theorem rts_all:∀ e:Fin 8,e.1 ≠ 0→rts ((e.1:Nat):Int)=true:=by decide +kernel
theorem p141_L2_eq (n:Nat) (l:List Int) (g:Int) (hl:l.length≤2000000):∀ (d m k:Nat),k + d=l.length→d < m→∃ r:Int,p141_L2 n m l g (l.length:Int) (k:Int)=some ((r,()),())∧decide (0≤r)=inB (l.drop k) g
 | _,0,_,_,h=>by omega
 | 0,m + 1,k,hk,_=>by
  have hg:decide ((k:Int) < (l.length:Int))=false:=decide_eq_false (by omega)
  refine ⟨-1,?_,?_⟩
  ·show st141_L2 n (p141_L2 n m) l g (l.length:Int) (k:Int)=_
   simp only [st141_L2,hg,cond_false]
  ·rw [List.drop_of_length_le (by omega)]; rfl
 | d + 1,m + 1,k,hk,hm=>by
  have hlt:k < l.length:=by omega
  obtain ⟨r,h1,h2⟩:=p141_L2_eq n l g hl d m (k + 1) (by omega) (by omega)
  have hd:l.drop k=l.getD k 0 :: l.drop (k + 1):=by rw [getD_get hlt]; exact List.drop_eq_getElem_cons hlt
  by_cases he:g=l.getD k 0
  ·refine ⟨(k:Int),?_,?_⟩
   ·show st141_L2 n (p141_L2 n m) l g (l.length:Int) (k:Int)=_
    simp only [st141_L2,lt_t hlt,ge_t,cond_true,toNat_cast,decide_eq_true he]
   ·rw [hd]
    unfold inB
    rw [List.any_cons,decide_eq_true he.symm,Bool.true_or]
    exact decide_eq_true (by omega)
  ·refine ⟨r,?_,?_⟩
   ·show st141_L2 n (p141_L2 n m) l g (l.length:Int) (k:Int)=_
    simp only [st141_L2,lt_t hlt,ge_t,cond_true,cond_false,toNat_cast,decide_eq_false he]
    rw [wr_succ (by omega)]
    exact h1
   ·rw [hd,h2]
    have:¬ l.getD k 0=g:=fun h=>he h.symm
    unfold inB
    rw [List.any_cons,decide_eq_false this,Bool.false_or]
theorem p108_eq (n:Nat) (l:List Int) (g:Int) (hl:l.length≤2000000) (hn:2000000 < n):p108 n l g=some ((inB l g,()),()):=by
 obtain ⟨r,h1,h2⟩:=p141_L2_eq n l g hl l.length n 0 (by omega) (by omega)
 show st108_top n l g=_
 have h1':q141 n (l,g,())=some ((r,()),()):=h1
 simp only [st108_top,h1',Option.bind_some,h2,List.drop_zero]
theorem p48_eq (n:Nat) (c:Cr) (o g d e:Int) (hc:credOk c=true) (ho:0≤o∧o≤9) (hg:0≤g∧g≤9) (hd:0≤d∧d≤511) (he:1≤e∧e≤7) (hl:c.2.2.length≤2000000) (hn:2000000 < n) :
  p48 n c o g d e=some ((mayS c o g d e,()),()):=by
 have ec:(c.1,c.2.1,c.2.2)=c:=rfl
 have h90:=p79_eq n c hl hn
 have h119:=p108_eq n c.2.2 g hl hn
 obtain ⟨d',rfl⟩:=Int.eq_ofNat_of_zero_le hd.1
 obtain ⟨e',rfl⟩:=Int.eq_ofNat_of_zero_le (show 0≤e by omega)
 have hD:=digs_all ⟨d',by omega⟩
 have hE:=rts_all ⟨e',by omega⟩ (by show e' ≠ 0; omega)
 simp only [digs,Bool.and_eq_true,decide_eq_true_eq,beq_iff_eq] at hD
 obtain ⟨hD0,hD1,hD2,hD3⟩:=hD
 simp only [rts,Bool.and_eq_true,beq_iff_eq] at hE
 obtain ⟨hE0,hE1⟩:=hE
 show st48_top n c o g (d':Int) (e':Int)=_
 unfold mayS
 simp only [st48_top,q79,ec,h90,hc,q61,p61_eq,decide_eq_true ho,decide_eq_true hg,decide_eq_true hd,decide_eq_true he,Option.bind_some,Bool.not_true,cond_false,q107,p107_0,p107_1,p107_2,q108,h119]
 by_cases hu:c.1=0
 ·rw [decide_eq_true hu]
  simp only [cond_true]
  rw [← hE1,hD3,hE0]
  cases decide ((0:Int) < IntKind.i64.wrap (IntKind.i64.wrap ((d':Int).tmod 2 + (IntKind.i64.wrap ((d':Int).tdiv 8)).tmod 2) + (IntKind.i64.wrap ((d':Int).tdiv 64)).tmod 2)) with
  | true=>simp only [cond_true]; cases mayV 6 (e':Int) <;> rfl
  | false=>simp only [cond_false]; cases mayV 6 (e':Int) <;> rfl
 ·rw [decide_eq_false hu]
  simp only [cond_false]
  by_cases hw:c.1=o
  ·rw [decide_eq_true hw]
   simp only [cond_true,hD0]
   rfl
  ·rw [decide_eq_false hw]
   simp only [cond_false,hD1,hD2]
   cases inB c.2.2 g <;> rfl
theorem p72_eq (n:Nat) (a:Nd) (c:Cr) (e:Int) (hc:credOk c=true) (ho:ownW a) (hb:baseW a) (he:1≤e∧e≤7) (hl:c.2.2.length≤2000000) (hn:2000000 < n):p72 n a c e=some ((mayN c a e,()),()):=by
 have h:=p48_eq n c (ow a) (gr a) (md a) e hc ho.1 ho.2 hb.2.1 he hl hn
 have ec:(c.1,c.2.1,c.2.2)=c:=rfl
 show st72_top n a c e=_
 have h':q48 n (c,a.2.2.1,a.2.2.2.1,a.2.1,e,())=some ((mayS c (ow a) (gr a) (md a) e,()),()):=h
 simp only [st72_top,ec,h',Option.bind_some]
 rfl
noncomputable def incL (f:List Nd) (y:Nat) (v:Int):List Nd:=f.set y (setLk (f.getD y d0) (lk (f.getD y d0) + v))
theorem p105_eq (n:Nat) (f:List Nd) (i y:Nat) (s:ByteArray) (hi:i < f.length) (hy:y < f.length) (hiy:i ≠ y) (hp:(nm (f.getD i d0)).Pairwise ltE) (hl:(nm (f.getD i d0)).length≤1000) (hnew:∀ e ∈ nm (f.getD i d0),e.1 ≠ s)
  (hk:0≤lk (f.getD y d0)∧lk (f.getD y d0)≤1000) (hn:2000000 < n):p105 n f (i:Int) s (y:Int)=some ((),(incL (putE f i (s,(y:Int))) y 1,())):=by
 have h59:=p73_eq n (f.getD i d0) s hp (by omega) hn
 have ee:∀ x:Nd,(x.1,x.2.1,x.2.2.1,x.2.2.2.1,x.2.2.2.2.1,x.2.2.2.2.2.1,x.2.2.2.2.2.2.1,x.2.2.2.2.2.2.2.1,x.2.2.2.2.2.2.2.2)=x:=fun _=>rfl
 have hpl:=posE_le s (nm (f.getD i d0))
 have hx:=insE_pos (s,(y:Int)) (nm (f.getD i d0)) hnew
 have h99:p139 n (nm (f.getD i d0)) (posE s (nm (f.getD i d0)):Int) [(s,(y:Int))]=some ((insE (s,(y:Int)) (nm (f.getD i d0)),()),()):=by
  unfold p139
  rw [decide_eq_true (show (0:Int)≤(posE s (nm (f.getD i d0)):Int) by omega),decide_eq_true (show (posE s (nm (f.getD i d0)):Int)≤((nm (f.getD i d0)).length:Int) by omega),decide_eq_true (show 1≤([(s,(y:Int))]:List En).length by simp),
   decide_eq_true (show ((nm (f.getD i d0)).length + ([(s,(y:Int))]:List En).length) * 24≤140737488355328 by show (_ + 1) * 24≤_; omega)]
  simp only [cond_true,toNat_cast]
  rw [hx]
 have hw:IntKind.i64.wrap (lk (f.getD y d0) + 1)=lk (f.getD y d0) + 1:=wr (by omega) (by omega)
 have hg:(putE f i (s,(y:Int))).getD y d0=f.getD y d0:=by unfold putE; rw [getD_set_i,if_neg (fun h=>hiy h.1)]
 have hset:f.set i ((f.getD i d0).1,(f.getD i d0).2.1,(f.getD i d0).2.2.1,(f.getD i d0).2.2.2.1,(f.getD i d0).2.2.2.2.1,(f.getD i d0).2.2.2.2.2.1,(f.getD i d0).2.2.2.2.2.2.1,(f.getD i d0).2.2.2.2.2.2.2.1,insE (s,(y:Int)) (nm (f.getD i d0)))=putE f i (s,(y:Int)):=rfl
 show st105_top n f (i:Int) s (y:Int)=_
 have h99':q139 n ((f.getD i d0).2.2.2.2.2.2.2.2,(posE s (nm (f.getD i d0)):Int),[(s,(y:Int))],())=some ((insE (s,(y:Int)) (nm (f.getD i d0)),()),()):=h99
 have hg':=hg
 have hw':=hw
 simp only [d0] at h59 h99' hset hg' hw'
 simp only [st105_top,lt_t hi,ge_t,cond_true,toNat_cast,ee,q73,h59,h99',Option.bind_some,decide_true,hset,hg',lk]
 rw [show (putE f i (s,(y:Int))).length=f.length by unfold putE; rw [List.length_set]]
 simp only [lt_t hy,cond_true,lk] at hw' ⊢
 simp only [hw']
 rw [incL,hg]
 rfl
theorem p75_eq (n:Nat) (f:List Nd) (i:Nat) (s:ByteArray) (hi:i < f.length) (hp:(nm (f.getD i d0)).Pairwise ltE) (hl:(nm (f.getD i d0)).length≤1000) (hh:hasE s (nm (f.getD i d0))=true)
  (y:Nat) (hy:((nm (f.getD i d0)).getD (posE s (nm (f.getD i d0))) e0).2=(y:Int)) (hyl:y < f.length) (hiy:i ≠ y) (hk:0≤lk (f.getD y d0)∧lk (f.getD y d0)≤1000) (hn:2000000 < n) :
  p75 n f (i:Int) s=some (((y:Int),()),(incL (takeE f i (posE s (nm (f.getD i d0)))) y (-1),())):=by
 have h59:=p73_eq n (f.getD i d0) s hp (by omega) hn
 have ee:∀ x:Nd,(x.1,x.2.1,x.2.2.1,x.2.2.2.1,x.2.2.2.2.1,x.2.2.2.2.2.1,x.2.2.2.2.2.2.1,x.2.2.2.2.2.2.2.1,x.2.2.2.2.2.2.2.2)=x:=fun _=>rfl
 have hlt:posE s (nm (f.getD i d0)) < (nm (f.getD i d0)).length:=by
  simp only [hasE,Bool.and_eq_true,decide_eq_true_eq] at hh; exact hh.1
 have h105:p124 n (nm (f.getD i d0)) (posE s (nm (f.getD i d0)):Int) ((posE s (nm (f.getD i d0)) + 1:Nat):Int)=some (((nm (f.getD i d0)).eraseIdx (posE s (nm (f.getD i d0))),()),()):=by
  unfold p124
  rw [decide_eq_true (show (0:Int)≤(posE s (nm (f.getD i d0)):Int) by omega),decide_eq_true (show (posE s (nm (f.getD i d0)):Int) < ((nm (f.getD i d0)).length:Int) by omega),decide_eq_true (show ((posE s (nm (f.getD i d0)) + 1:Nat):Int)=(posE s (nm (f.getD i d0)):Int) + 1 by omega)]
  simp only [cond_true,toNat_cast]
  rw [List.eraseIdx_eq_take_drop_succ]
 have hws:IntKind.i64.wrap ((posE s (nm (f.getD i d0)):Int) + 1)=((posE s (nm (f.getD i d0)) + 1:Nat):Int):=wr_succ (by omega)
 have hw:IntKind.i64.wrap (lk (f.getD y d0) - 1)=lk (f.getD y d0) + (-1):=(wr (by omega) (by omega)).trans (by omega)
 have hg:(takeE f i (posE s (nm (f.getD i d0)))).getD y d0=f.getD y d0:=by unfold takeE; rw [getD_set_i,if_neg (fun h=>hiy h.1)]
 have hset:f.set i ((f.getD i d0).1,(f.getD i d0).2.1,(f.getD i d0).2.2.1,(f.getD i d0).2.2.2.1,(f.getD i d0).2.2.2.2.1,(f.getD i d0).2.2.2.2.2.1,(f.getD i d0).2.2.2.2.2.2.1,(f.getD i d0).2.2.2.2.2.2.2.1,(nm (f.getD i d0)).eraseIdx (posE s (nm (f.getD i d0))))=takeE f i (posE s (nm (f.getD i d0))):=rfl
 show st75_top n f (i:Int) s=_
 have h105':q124 n ((f.getD i d0).2.2.2.2.2.2.2.2,(posE s (nm (f.getD i d0)):Int),((posE s (nm (f.getD i d0)) + 1:Nat):Int),())=some (((nm (f.getD i d0)).eraseIdx (posE s (nm (f.getD i d0))),()),()):=h105
 have hy':((f.getD i d0).2.2.2.2.2.2.2.2.getD (posE s (nm (f.getD i d0))) ((ByteArray.empty:ByteArray),(0:Int))).2=(y:Int):=hy
 have hlt':decide ((posE s (nm (f.getD i d0)):Int) < (((f.getD i d0).2.2.2.2.2.2.2.2).length:Int))=true:=decide_eq_true (by have:=hlt; simp only [nm] at this ⊢; omega)
 have hg':=hg
 have hw':=hw
 simp only [d0] at h59 h105' hset hg' hw' hws hy' hlt'
 simp only [st75_top,lt_t hi,ge_t,cond_true,toNat_cast,ee,q73,h59,hlt',hws,h105',Option.bind_some,decide_true,hset,hy',hg',lk]
 rw [show (takeE f i (posE s (nm (f.getD i ZN)))).length=f.length by unfold takeE; rw [List.length_set]]
 simp only [lt_t hyl,cond_true,lk] at hw' ⊢
 simp only [hw']
 rw [incL,hg]
 rfl
end Go.Proofs.Ytbjgiioppmkpiaa.Rx.S

namespace Go.Proofs.Ytbjgiioppmkpiaa.Rx.S
open Go Go.Proofs.Ytbjgiioppmkpiaa.Rx.Pu Go.Proofs.Ytbjgiioppmkpiaa.Rx.Fs
set_option linter.unusedVariables false
set_option linter.unusedSimpArgs false
noncomputable def linkR (f:List Nd) (c:Cr) (y i:Int) (name:ByteArray):List Nd × Int :=
 bif okS f&&(credOk c&&(hasB f y&&(hasB f i&&nmOk name))) then linkD f c y.toNat i.toNat name else ([],1)
noncomputable def dropR (f:List Nd) (c:Cr) (i:Int) (name:ByteArray):List Nd × Int :=
 bif okS f&&(credOk c&&(hasB f i&&nmOk name)) then dropD f c i.toNat name else ([],1)
theorem OkW.pw {f:List Nd} (h:OkW f) {i:Nat} (hi:i < 10):(nm (f.getD i d0)).Pairwise ltE:=(sorted_pw _).1 (fun k hk=>(h.ents i k hi hk).2.2.2)
theorem OkW.lkB {f:List Nd} (h:OkW f) {i:Nat} (hi:i < 10):0≤lk (f.getD i d0)∧lk (f.getD i d0)≤60:=by
 by_cases hk:kd (f.getD i d0)=0
 ·have:=(h.zero i hi hk).2.2.2.2.1; omega
 ·have:=h.links i hi hk; have:=many_le (f:=f) (fun j hj=>h.nlen j hj) i; omega
theorem has_no {s:ByteArray} {es:List En} (hp:es.Pairwise ltE) (h:hasE s es=false):∀ e ∈ es,e.1 ≠ s:=by
 have h1:=atI_pos s hp
 rw [h] at h1
 rcases atI_spec s es 0 with ⟨_,h2⟩ | ⟨j,h1',h2,h3⟩
 ·exact h2
 ·rw [h2] at h1
  have h1:((0 + j:Nat):Int) = -1:=h1
  omega
end Go.Proofs.Ytbjgiioppmkpiaa.Rx.S

namespace Go.Proofs.Ytbjgiioppmkpiaa.Rx.S
open Go Go.Proofs.Ytbjgiioppmkpiaa.Rx.Pu Go.Proofs.Ytbjgiioppmkpiaa.Rx.Fs
set_option linter.unusedVariables false
set_option linter.unusedSimpArgs false
theorem p53_eq (n:Nat) (f:List Nd) (c:Cr) (id to:Int) (name:ByteArray) (h:SzF 2000000 f) (hl:c.2.2.length≤2000000) (hn:2000000 < n) :
  p53 n f c id to name=some (((linkR f c id to name).1,((linkR f c id to name).2,())),()):=by
 have h1:=p60_eq n f c [id,to] hl (by simp) hn
 have e:(c.1,c.2.1,c.2.2)=c:=rfl
 have h3:=p62_eq n f h hn
 show st53_top n f c id to name=_
 unfold linkR
 simp only [st53_top,q60,e,h1,Option.bind_some,q70,p70_eq n (by omega) name,q62,h3,List.all_cons,List.all_nil,Bool.and_true]
 cases hok:okS f; · rfl
 cases hcr:credOk c; · rfl
 cases hh:hasB f id; · rfl
 cases hh2:hasB f to; · rfl
 obtain ⟨y,rfl,hy10,hky⟩:=hasB_kd hh
 obtain ⟨i,rfl,hi10,hk⟩:=hasB_kd hh2
 have hF:=(okS_iff f).1 hok
 have hW:=hF.toW
 have hi:i < f.length:=by rw [hW.len]; exact hi10
 have hy:y < f.length:=by rw [hW.len]; exact hy10
 cases hnm:nmOk name; · rfl
 have ee:∀ x:Nd,(x.1,x.2.1,x.2.2.1,x.2.2.2.1,x.2.2.2.2.1,x.2.2.2.2.2.1,x.2.2.2.2.2.2.1,x.2.2.2.2.2.2.2.1,x.2.2.2.2.2.2.2.2)=x:=fun _=>rfl
 have hpw:=OkW.pw hW hi10
 have hnl:=hW.nlen i hi10
 have hlb:=OkW.lkB hW hy10
 have h59:=p73_eq n (f.getD i d0) name hpw (by omega) hn
 have h60:=p72_eq n (f.getD i d0) c 3 hcr (((okW_iff f).1 hF).2 i hi10 hk) (hW.base i hi10 hk) (by omega) hl hn
 have hat:=atI_pos name hpw
 unfold linkD inF
 simp only [Bool.not_true,Bool.true_and,cond_false,cond_true,toNat_cast]
 simp only [hat]
 have h59':=h59
 have h60':=h60
 simp only [d0] at h59' h60'
 simp only [lt_t hi,lt_t hy,ge_t,cond_true,Option.bind_some,ee,q73,h59',q72,h60']
 by_cases hk1:kd (f.getD y d0)=1
 ·have hk1':(f.getD y ZN).1=1:=hk1
  simp only [hk1,hk1',decide_true,Bool.not_true,cond_false]
  by_cases hk2:kd (f.getD i d0)=2
  ·have hk2':(f.getD i ZN).1=2:=hk2
   simp only [hk2,hk2',decide_true,Bool.not_true,cond_false]
   cases hm:mayN c (f.getD i d0) 3 with
   | false =>
    have hm':=hm
    simp only [d0] at hm'
    simp only [hm',Bool.not_false,cond_true]
    rfl
   | true =>
    have hm':=hm
    simp only [d0] at hm'
    simp only [hm',Bool.not_true,cond_false,decide_true]
    cases hhs:hasE name (nm (f.getD i d0)) with
    | true =>
     have hhs':=hhs
     simp only [d0] at hhs'
     simp only [hhs',cond_true,if_true]
     rw [decide_eq_true (show (0:Int)≤(posE name (nm (f.getD i d0)):Int) by omega)]
     rfl
    | false =>
     have hhs':=hhs
     simp only [d0] at hhs'
     have hno:=has_no hpw hhs
     simp only [hhs',cond_false,Bool.false_eq_true,if_false,show decide ((0:Int)≤-1)=false from rfl]
     have hiy:i ≠ y:=fun e=>by subst e; omega
     by_cases h6:(nm (f.getD i d0)).length=6
     ·have h6':decide ((((f.getD i ZN).2.2.2.2.2.2.2.2).length:Int)=6)=true:=decide_eq_true (show ((nm (f.getD i d0)).length:Int)=6 by omega)
      rw [decide_eq_true (show (6:Int)≤((nm (f.getD i d0)).length:Int) by omega)]
      simp only [h6',cond_true]
     ·have h6':decide ((((f.getD i ZN).2.2.2.2.2.2.2.2).length:Int)=6)=false:=decide_eq_false (show ¬ ((nm (f.getD i d0)).length:Int)=6 by omega)
      have h9':decide ((f.getD y ZN).2.2.2.2.1=99)=false:=decide_eq_false (show ¬ lk (f.getD y d0)=99 by omega)
      rw [decide_eq_false (show ¬ (6:Int)≤((nm (f.getD i d0)).length:Int) by omega),decide_eq_false (show ¬ (99:Int)≤lk (f.getD y d0) by omega)]
      have h61:=p105_eq n f i y name hi hy hiy hpw (by omega) hno (by omega) hn
      have hx:incL (putE f i (name,(y:Int))) y 1=putE (f.set y (setLk (f.getD y d0) (lk (f.getD y d0) + 1))) i (name,(y:Int)):=by
       unfold incL putE
       rw [getD_set_i,getD_set_i,if_neg (fun h=>hiy h.1),if_neg (fun h=>hiy h.1.symm),List.set_comm _ _ hiy]
      rw [hx] at h61
      have h61':q105 n (f,(i:Int),name,(y:Int),())=some ((),(putE (f.set y (setLk (f.getD y d0) (lk (f.getD y d0) + 1))) i (name,(y:Int)),())):=h61
      simp only [h6',h9',cond_false,h61',Option.bind_some]
  ·have hk2':¬ (f.getD i ZN).1=2:=hk2
   simp only [hk2,hk2',decide_false,Bool.not_false,cond_true]
   rfl
 ·have hk1':¬ (f.getD y ZN).1=1:=hk1
  simp only [hk1,hk1',decide_false,Bool.not_false,cond_true]
theorem p21_eq (n:Nat) (f:List Nd) (c:Cr) (id:Int) (name:ByteArray) (h:SzF 2000000 f) (hl:c.2.2.length≤2000000) (hn:2000000 < n) :
  p21 n f c id name=some (((dropR f c id name).1,((dropR f c id name).2,())),()):=by
 have h1:=p60_eq n f c [id] hl (by simp) hn
 have e:(c.1,c.2.1,c.2.2)=c:=rfl
 have h3:=p62_eq n f h hn
 show st21_top n f c id name=_
 unfold dropR
 simp only [st21_top,q60,e,h1,Option.bind_some,q70,p70_eq n (by omega) name,q62,h3,List.all_cons,List.all_nil,Bool.and_true]
 cases hok:okS f; · rfl
 cases hcr:credOk c; · rfl
 cases hh:hasB f id; · rfl
 obtain ⟨i,rfl,hi10,hk⟩:=hasB_kd hh
 have hF:=(okS_iff f).1 hok
 have hW:=hF.toW
 have hi:i < f.length:=by rw [hW.len]; exact hi10
 cases hnm:nmOk name; · rfl
 have ee:∀ x:Nd,(x.1,x.2.1,x.2.2.1,x.2.2.2.1,x.2.2.2.2.1,x.2.2.2.2.2.1,x.2.2.2.2.2.2.1,x.2.2.2.2.2.2.2.1,x.2.2.2.2.2.2.2.2)=x:=fun _=>rfl
 have hpw:=OkW.pw hW hi10
 have hnl:=hW.nlen i hi10
 have h59:=p73_eq n (f.getD i d0) name hpw (by omega) hn
 have h60:=p72_eq n (f.getD i d0) c 3 hcr (((okW_iff f).1 hF).2 i hi10 hk) (hW.base i hi10 hk) (by omega) hl hn
 have hat:=atI_pos name hpw
 unfold dropD inF
 simp only [Bool.not_true,Bool.true_and,cond_false,cond_true,toNat_cast]
 simp only [hat]
 have h59':=h59
 have h60':=h60
 simp only [d0] at h59' h60'
 simp only [lt_t hi,ge_t,cond_true,Option.bind_some,ee,q73,h59',q72,h60']
 by_cases hk2:kd (f.getD i d0)=2
 ·have hk2':(f.getD i ZN).1=2:=hk2
  simp only [hk2,hk2',decide_true,Bool.not_true,cond_false]
  cases hm:mayN c (f.getD i d0) 3 with
  | false =>
   have hm':=hm
   simp only [d0] at hm'
   simp only [hm',Bool.not_false,cond_true]
   rfl
  | true =>
   have hm':=hm
   simp only [d0] at hm'
   simp only [hm',Bool.not_true,cond_false,decide_true]
   cases hhs:hasE name (nm (f.getD i d0)) with
   | false =>
    have hhs':=hhs
    simp only [d0] at hhs'
    simp only [hhs',Bool.not_false,cond_true,Bool.false_eq_true,if_false]
    rfl
   | true =>
    have hhs':=hhs
    simp only [d0] at hhs'
    have hlt:posE name (nm (f.getD i d0)) < (nm (f.getD i d0)).length:=by
     simp only [hasE,Bool.and_eq_true,decide_eq_true_eq] at hhs; exact hhs.1
    obtain ⟨k,hkk⟩:∃ k,posE name (nm (f.getD i d0))=k:=⟨_,rfl⟩
    rw [hkk] at hlt
    obtain ⟨_,hy9,hky⟩:=(hW.entsOk hi10).all _ (mem_getD hlt e0)
    obtain ⟨y,hy⟩:∃ y:Nat,((nm (f.getD i d0)).getD k e0).2=(y:Int):=⟨((nm (f.getD i d0)).getD k e0).2.toNat,by omega⟩
    rw [hy,toNat_cast] at hky
    have hy10:y < 10:=by omega
    have hyl:y < f.length:=by rw [hW.len]; exact hy10
    have hlb:=OkW.lkB hW hy10
    have ht:tgt f i (k:Int)=y:=by unfold tgt; rw [toNat_cast,hy,toNat_cast]
    have hneg:decide (((k:Nat):Int) < 0)=false:=decide_eq_false (by omega)
    have hkk':=hkk
    have hy':((f.getD i d0).2.2.2.2.2.2.2.2.getD k ((ByteArray.empty:ByteArray),(0:Int))).2=(y:Int):=hy
    have hlt':decide (((k:Nat):Int) < (((f.getD i d0).2.2.2.2.2.2.2.2).length:Int))=true:=decide_eq_true (by have:=hlt; simp only [nm] at this ⊢; omega)
    simp only [d0] at hkk' hy' hlt'
    simp only [hhs',if_true,Bool.not_true,cond_false,hkk,hkk',hneg,ge_t,hlt',cond_true,toNat_cast,hy',lt_t hyl,ht]
    have fin:nm (f.getD y d0)=[]→(q75 n (f,(i:Int),name,())).bind (fun r5=>(q74 n (r5.2.1,r5.1.1,())).bind fun r6=>some ((r6.2.1,((0:Int),())),())) =
      some ((freeF (takeE (f.set y (setLk (f.getD y d0) (lk (f.getD y d0) - 1))) i k) y,((0:Int),())),()):=fun hny=>by
     have hiy:i ≠ y:=fun e=>by rw [← e] at hny; rw [hny] at hlt; simp at hlt
     have h71:=p75_eq n f i name hi hpw (by omega) hhs y (by rw [hkk]; exact hy) hyl hiy (by omega) hn
     rw [hkk] at h71
     have hx:incL (takeE f i k) y (-1)=takeE (f.set y (setLk (f.getD y d0) (lk (f.getD y d0) - 1))) i k:=by
      unfold incL takeE
      rw [getD_set_i,getD_set_i,if_neg (fun h=>hiy h.1),if_neg (fun h=>hiy h.1.symm),List.set_comm _ _ hiy]
      rfl
     rw [hx] at h71
     have h70:=p74_eq n (takeE (f.set y (setLk (f.getD y d0) (lk (f.getD y d0) - 1))) i k) y (by unfold takeE; rw [List.length_set,List.length_set]; exact hyl)
     have h71':q75 n (f,(i:Int),name,())=some (((y:Int),()),(takeE (f.set y (setLk (f.getD y d0) (lk (f.getD y d0) - 1))) i k,())):=h71
     have h70':q74 n (takeE (f.set y (setLk (f.getD y d0) (lk (f.getD y d0) - 1))) i k,(y:Int),())=some ((),(freeN (takeE (f.set y (setLk (f.getD y d0) (lk (f.getD y d0) - 1))) i k) y,())):=h70
     simp only [h71',Option.bind_some,h70']
     rfl
    by_cases hyk:kd (f.getD y d0)=2
    ·have hyk':(f.getD y ZN).1=2:=hyk
     simp only [hyk,hyk',decide_true,cond_true,Bool.true_and]
     by_cases hn0:0 < ((nm (f.getD y d0)).length:Int)
     ·have hn0':decide ((0:Int) < (((f.getD y ZN).2.2.2.2.2.2.2.2).length:Int))=true:=decide_eq_true hn0
      rw [decide_eq_true hn0]
      simp only [hn0',Bool.true_or,cond_true]
     ·have hn0':decide ((0:Int) < (((f.getD y ZN).2.2.2.2.2.2.2.2).length:Int))=false:=decide_eq_false hn0
      rw [decide_eq_false hn0]
      simp only [hn0',Bool.false_or,cond_false]
      by_cases hop:0 < op (f.getD y d0)
      ·have hop':decide ((0:Int) < (f.getD y ZN).2.2.2.2.2.1)=true:=decide_eq_true hop
       rw [decide_eq_true hop]
       simp only [hop',cond_true]
      ·have hop':decide ((0:Int) < (f.getD y ZN).2.2.2.2.2.1)=false:=decide_eq_false hop
       rw [decide_eq_false hop]
       simp only [hop',cond_false]
       exact fin (List.eq_nil_of_length_eq_zero (by omega))
    ·have hyk':¬ (f.getD y ZN).1=2:=hyk
     simp only [hyk,hyk',decide_false,cond_false,Bool.false_and]
     exact fin (hW.nm_file hy10 hyk)
 ·have hk2':¬ (f.getD i ZN).1=2:=hk2
  simp only [hk2,hk2',decide_false,Bool.not_false,cond_true]
  rfl
end Go.Proofs.Ytbjgiioppmkpiaa.Rx.S

namespace Go.Proofs.Ytbjgiioppmkpiaa.Rx.S
open Go Go.Proofs.Ytbjgiioppmkpiaa.Rx.Pu Go.Proofs.Ytbjgiioppmkpiaa.Rx.Fs
set_option linter.unusedVariables false
set_option linter.unusedSimpArgs false
theorem new_ok (o m:Int) (hm:0≤m∧m≤511):OkW ((List.replicate 10 d0).set 0 (2,m,o,o,0,0,false,ByteArray.empty,[])):=by
 generalize hf:(List.replicate 10 d0).set 0 (2,m,o,o,0,0,false,ByteArray.empty,[])=f
 have hg:∀ j,f.getD j d0=if j=0 then (2,m,o,o,0,0,false,ByteArray.empty,[]) else d0:=fun j=>by
  rw [← hf,getD_set1 (by simp)]
  split
  ·rfl
  ·rw [List.getD_eq_getElem?_getD,List.getElem?_replicate]
   split <;> rfl
 have hn:∀ j,nm (f.getD j d0)=[]:=fun j=>by rw [hg]; split <;> rfl
 have hids:∀ j,ids f j=[]:=fun j=>by simp only [ids,hn]; rfl
 have hm0:∀ x,Gr.many (ids f) 10 x=0:=fun x=>by
  rw [Gr.many_congr (e:=fun _=>[]) (e':=ids f) (fun j _=>by rw [hids])]
  rfl
 refine OkW.of (by rw [← hf]; simp) (by rw [hg]; rfl) (fun j hj hk=>?_) (fun j hj hk=>?_) (fun j hj=>?_) (fun j hj hk=>?_) (fun j hj hk=>?_) (fun x hx hf' hx0=>?_) (fun x hx hf'=>?_)
 ·rw [hg] at hk ⊢
  split
  ·exact ⟨by show (1:Int)≤2∧(2:Int)≤2; omega,hm,by show (0:Int)≤0∧(0:Int)≤99; omega,fun _=>⟨Nat.zero_le _,rfl⟩,fun _=>⟨rfl,rfl,Nat.zero_le _⟩⟩
  ·rename_i e; rw [if_neg e] at hk; exact absurd rfl hk
 ·rw [hg] at hk ⊢
  split
  ·rename_i e; rw [if_pos e] at hk; cases hk
  ·exact zr_d0
 ·rw [hn]; exact ⟨fun e he=>(List.not_mem_nil he).elim,List.Pairwise.nil⟩
 ·rw [hm0,hg]
  split <;> rfl
 ·rw [hg] at hk
  split at hk <;> cases hk
 ·simp only [fold,hg,if_neg hx0] at hf'
  cases hf'
 ·by_cases e:x=0
  ·subst e; exact ⟨0,.root⟩
  ·simp only [fold,hg,if_neg e] at hf'
   cases hf'
theorem p71_eq (n:Nat) {l:List Int} (hl:Bys l) {pos:Int} (hp:0≤pos∧pos < 900000):∃ (s:ByteArray) (pos':Int),p71 n (l,pos)=some ((s,()),((l,pos'),()))∧(pos≤pos'∧pos'≤pos + 2)∧s.size≤10:=by
 show ∃ (s:ByteArray) (pos':Int),st71_top n (l,pos)=_∧_
 obtain ⟨v0,hv0,g0,g1⟩:=p102_eq n hl (pos:=pos) (b:=24) (by omega) (by omega)
 obtain ⟨v1,hv1,g2,g3⟩:=p102_eq n hl (pos:=pos + 1) (b:=5) (by omega) (by omega)
 obtain ⟨v2,hv2,g4,g5⟩:=p102_eq n hl (pos:=pos + 1) (b:=4) (by omega) (by omega)
 have e5:∀ (a b c d e:ByteArray),decide (v1 < (([a,b,c,d,e].length:Nat):Int))=true:=fun _ _ _ _ _=>decide_eq_true (by simp; omega)
 have e4:∀ (a b c d:ByteArray),decide (v2 < (([a,b,c,d].length:Nat):Int))=true:=fun _ _ _ _=>decide_eq_true (by simp; omega)
 simp only [st71_top,q102,hv0,hv1,hv2,Option.bind_some,g2,g4,decide_true,cond_true,e5,e4]
 cases decide (v0=0) with
 | true =>
  refine ⟨_,_,rfl,by omega,?_⟩
  have:v1=0∨v1=1∨v1=2∨v1=3∨v1=4:=by omega
  rcases this with h | h | h | h | h <;> subst h <;> decide
 | false =>
  refine ⟨_,_,rfl,by omega,?_⟩
  have:v2=0∨v2=1∨v2=2∨v2=3:=by omega
  rcases this with h | h | h | h <;> subst h <;> decide
theorem p56_L3_eq (n:Nat) (hn:2000000 < n) {l:List Int} (hl:Bys l):∀ (m k:Nat) (pos:Int) (f:List Nd),k≤100→k < m→0≤pos∧pos + 50 * k < 500000→OkW f →
  ∃ (f':List Nd) (pos':Int),p56_L3 n m (k:Int) l pos f=some ((f',()),((l,pos'),()))∧(pos≤pos'∧pos'≤pos + 50 * k + 10)∧SzF 2000000 f'
 | 0,k,pos,f,_,h,_,_=>by omega
 | m + 1,k,pos,f,hk,hm,hp,h=>by
  show ∃ (f':List Nd) (pos':Int),st56_L3 n (p56_L3 n m) (k:Int) l pos f=_∧_
  cases k with
  | succ k =>
   obtain ⟨f1,p1,h1,h2,h3⟩:=p113_eq n hn hl (pos:=pos) (by omega) h
   have h0:decide ((0:Int) < ((k + 1:Nat):Int))=true:=decide_eq_true (by omega)
   have e1:IntKind.i64.wrap (((k + 1:Nat):Int) - 1)=(k:Int):=(wr (by omega) (by omega)).trans (by omega)
   simp only [st56_L3,h0,cond_true,q113,h1,Option.bind_some,e1]
   obtain ⟨f',pos',a1,a2,a3⟩:=p56_L3_eq n hn hl m k p1 f1 (by omega) (by omega) (by omega) h3
   exact ⟨f',pos',a1,by omega,a3⟩
  | zero =>
   have h0:decide ((0:Int) < ((0:Nat):Int))=false:=rfl
   obtain ⟨v6,hv6,_,_⟩:=p102_eq n hl (pos:=pos) (b:=24) (by omega) (by omega)
   obtain ⟨a,ha,a0,a1⟩:=p102_eq n hl (pos:=pos + 1) (b:=5) (by omega) (by omega)
   obtain ⟨b3,hb3,_,_⟩:=p102_eq n hl (pos:=pos + 1 + 1) (b:=3) (by omega) (by omega)
   obtain ⟨b5,hb5,c0,c1⟩:=p102_eq n hl (pos:=pos + 1 + 1) (b:=5) (by omega) (by omega)
   obtain ⟨b4,hb4,d0',d1⟩:=p102_eq n hl (pos:=pos + 1 + 1) (b:=4) (by omega) (by omega)
   obtain ⟨s,ps,hs,hs1,hs2⟩:=p71_eq n hl (pos:=pos + 1 + 1 + 1) (by omega)
   obtain ⟨w,hw,_,_⟩:=p102_eq n hl (pos:=ps) (b:=11) (by omega) (by omega)
   have hz:=OkW.szF h
   have hlen:=h.len
   obtain ⟨ia,rfl⟩:=Int.eq_ofNat_of_zero_le a0
   obtain ⟨ib,rfl⟩:=Int.eq_ofNat_of_zero_le c0
   have la:ia < f.length:=by omega
   have lb:ib < f.length:=by omega
   have hnb:=h.nlen ib (by omega)
   have e24:decide (((nm (f.getD ib d0)).length + [(s,w)].length) * (24:Nat)≤(140737488355328:Nat))=true:=decide_eq_true (by simp only [List.length_cons,List.length_nil]; omega)
   have e4:decide (b4 < (([(99:Int),100,-1,0].length:Nat):Int))=true:=decide_eq_true (by simp; omega)
   have e1:decide ((1:Int)≤(f.length:Int))=true:=decide_eq_true (by omega)
   have hga:=hz.getD la
   have hgb:=hz.getD lb
   simp only [nm,d0] at e24
   simp only [st56_L3,h0,cond_false,q102,hv6,ha,hb3,hb5,hb4,hw,q71,hs,Option.bind_some,ge_t,lt_t la,lt_t lb,cond_true,toNat_cast,e24,d0',decide_true,e4,e1]
   cases decide (v6=0) with
   | true=>exact ⟨_,_,rfl,by omega,hz.set ⟨hga.tx,hga.nm,hga.en⟩⟩
   | false =>
   cases decide (v6=1) with
   | true =>
    refine ⟨_,_,rfl,by omega,hz.set ⟨hga.tx,?_,fun e he=>?_⟩⟩
    ·show ((nm (f.getD ib d0)) ++ [(s,w)]).length≤_
     rw [List.length_append,List.length_singleton]; omega
    ·have he':e ∈ (nm (f.getD ib d0)) ++ [(s,w)]:=he
     rcases List.mem_append.1 he' with he' | he'
     ·exact hgb.en e he'
     ·rw [List.mem_singleton.1 he']; show s.size≤_; omega
   | false =>
   cases decide (v6=2) with
   | true=>exact ⟨_,_,rfl,by omega,hz.set ⟨hga.tx,hga.nm,hga.en⟩⟩
   | false =>
   cases decide (v6=3) with
   | true =>
    refine ⟨_,_,rfl,by omega,⟨?_,fun x hx=>hz.nd x (List.mem_of_mem_drop (List.mem_of_mem_take hx))⟩⟩
    simp only [List.length_take,List.length_drop]; omega
   | false =>
   cases decide (v6=4) with
   | true=>exact ⟨_,_,rfl,by omega,hz.set ⟨hga.tx,hga.nm,hga.en⟩⟩
   | false=>exact ⟨_,_,rfl,by omega,hz⟩
theorem p56_eq (n:Nat) (hn:2000000 < n) {l:List Int} (hl:Bys l) {pos:Int} (hp:0≤pos∧pos < 100000) :
  ∃ (f:List Nd) (pos':Int),p56 n (l,pos)=some ((f,()),((l,pos'),()))∧(pos≤pos'∧pos'≤pos + 1000)∧SzF 2000000 f:=by
 show ∃ (f:List Nd) (pos':Int),st56_top n (p56_L3 n n) (l,pos)=_∧_
 obtain ⟨v0,hv0,g0,g1⟩:=p102_eq n hl (pos:=pos) (b:=3) (by omega) (by omega)
 obtain ⟨v1,hv1,g2,g3⟩:=p102_eq n hl (pos:=pos + 1) (b:=3) (by omega) (by omega)
 obtain ⟨v2,hv2,g4,g5⟩:=p102_eq n hl (pos:=pos + 1 + 1) (b:=16) (by omega) (by omega)
 have e3:decide (v1 < (([(493:Int),511,448].length:Nat):Int))=true:=decide_eq_true (by simp; omega)
 have hm:=md3 g2 g3
 have h88:=p112_eq n v0 ([(493:Int),511,448].getD v1.toNat 0) (by omega) hm
 obtain ⟨k,rfl⟩:=Int.eq_ofNat_of_zero_le g4
 simp only [st56_top,q102,hv0,hv1,hv2,Option.bind_some,g2,decide_true,cond_true,e3,q112,h88]
 obtain ⟨f,pos',a1,a2,a3⟩:=p56_L3_eq n hn hl n k (pos + 1 + 1 + 1) _ (by omega) (by omega) (by omega) (new_ok v0 _ hm)
 exact ⟨f,pos',a1,by omega,a3⟩
end Go.Proofs.Ytbjgiioppmkpiaa.Rx.S

namespace Go.Proofs.Ytbjgiioppmkpiaa.Rx.S
open Go Go.Proofs.Ytbjgiioppmkpiaa.Rx.Pu Go.Proofs.Ytbjgiioppmkpiaa.Rx.Fs
set_option linter.unusedVariables false
set_option linter.unusedSimpArgs false
theorem bb (b:Bool):(!(b == b))=false:=by cases b <;> rfl
theorem bb2 (b:Bool):(!b == b)=false:=by cases b <;> rfl
theorem p68_refl (n:Nat) (a:Nd) (hl:(nm a).length≤2000000) (hn:(nm a).length < n):p68 n a a=some ((true,()),()):=by
 show st68_top n (p68_L4 n n) a a=_
 simp only [st68_top,decide_true,Bool.not_true,cond_false,beq_self_eq_true,bb2]
 exact round_loop (F:=fun k i=>p68_L4 n k i a.1 a.2.1 a.2.2.1 a.2.2.2.1 a.2.2.2.2.1 a.2.2.2.2.2.1 a.2.2.2.2.2.2.1 a.2.2.2.2.2.2.2.1 (nm a) a.1 a.2.1 a.2.2.1 a.2.2.2.1 a.2.2.2.2.1 a.2.2.2.2.2.1 a.2.2.2.2.2.2.1 a.2.2.2.2.2.2.2.1 (nm a)) (r:=some ((true,()),())) (nm a).length (fun k i hi=>by
  show st68_L4 n (p68_L4 n k) i a.1 a.2.1 a.2.2.1 a.2.2.2.1 a.2.2.2.2.1 a.2.2.2.2.2.1 a.2.2.2.2.2.2.1 a.2.2.2.2.2.2.2.1 (nm a) a.1 a.2.1 a.2.2.1 a.2.2.2.1 a.2.2.2.2.1 a.2.2.2.2.2.1 a.2.2.2.2.2.2.1 a.2.2.2.2.2.2.2.1 (nm a)=_
  simp only [st68_L4,lt_t hi,ge_t,cond_true,toNat_cast,beq_self_eq_true,decide_true,Bool.and_true,Bool.not_true,cond_false]
  rw [wr_succ (by omega)]) (fun k=>by
  show st68_L4 n (p68_L4 n k) ((nm a).length:Int) a.1 a.2.1 a.2.2.1 a.2.2.2.1 a.2.2.2.2.1 a.2.2.2.2.2.1 a.2.2.2.2.2.2.1 a.2.2.2.2.2.2.2.1 (nm a) a.1 a.2.1 a.2.2.1 a.2.2.2.1 a.2.2.2.2.1 a.2.2.2.2.2.1 a.2.2.2.2.2.2.1 a.2.2.2.2.2.2.2.1 (nm a)=_
  simp only [st68_L4,lt_f,cond_false]) (nm a).length n 0 (by omega) hn
theorem p18_refl (n:Nat) (l:List Nd) (h:SzF 2000000 l) (hn:2000000 < n):p18 n l l=some ((true,()),()):=by
 have hlen:=h.len
 show st18_top n (p18_L4 n n) l l=_
 simp only [st18_top,decide_true,Bool.not_true,cond_false]
 exact round_loop (F:=fun k i=>p18_L4 n k i l l) (r:=some ((true,()),())) l.length (fun k i hi=>by
  show st18_L4 n (p18_L4 n k) i l l=_
  have hc:=p68_refl n (l.getD i d0) (h.nd _ (getD_mem hi d0)).nm (by have:=(h.nd _ (getD_mem hi d0)).nm; omega)
  simp only [d0] at hc
  simp only [st18_L4,lt_t hi,ge_t,cond_true,toNat_cast,q68,hc,Option.bind_some,Bool.not_true,cond_false]
  rw [wr_succ (by omega)]) (fun k=>by
  show st18_L4 n (p18_L4 n k) l.length l l=_
  simp only [st18_L4,lt_f,cond_false]) l.length n 0 (by omega) (by omega)
end Go.Proofs.Ytbjgiioppmkpiaa.Rx.S

namespace Go.Proofs.Ytbjgiioppmkpiaa.Rx.S
open Go Go.Proofs.Ytbjgiioppmkpiaa.Rx.Pu Go.Proofs.Ytbjgiioppmkpiaa.Rx.Fs
set_option linter.unusedVariables false
theorem u8_wf {x:Int} (h:(Lit.int .u8 x).wf=true):0≤x∧x < 256:=by
 simp only [Lit.wf,Bool.and_eq_true,decide_eq_true_eq,IntKind.min,IntKind.max,IntKind.signed,IntKind.bits,Bool.false_eq_true,if_false] at h
 omega
theorem bytes_wf {xs:List Int} (h:WfT (.row 5 (.int .u8)) xs):∀ x ∈ xs,0≤x∧x < 256:=fun x hx=>u8_wf (h.2 x hx)
end Go.Proofs.Ytbjgiioppmkpiaa.Rx.S

namespace Go.Proofs.Ytbjgiioppmkpiaa.Rx.S
open Go Go.Proofs.Ytbjgiioppmkpiaa.Rx.Pu Go.Proofs.Ytbjgiioppmkpiaa.Rx.Fs Go.Proofs.Ytbjgiioppmkpiaa.Rx.Gr
set_option linter.unusedVariables false
set_option linter.unusedSimpArgs false
theorem linkR_W {f:List Nd} {c:Cr} {y i:Int} {name:ByteArray}:(OkW (linkR f c y i name).1∧OkF f)∨linkR f c y i name=([],1):=by
 unfold linkR
 cases hc:okS f&&(credOk c&&(hasB f y&&(hasB f i&&nmOk name))) with
 | false=>exact .inr rfl
 | true =>
  simp only [Bool.and_eq_true] at hc
  obtain ⟨y,rfl,hy,_⟩:=hasB_kd hc.2.2.1
  obtain ⟨i,rfl,hi,_⟩:=hasB_kd hc.2.2.2.1
  have hF:=(okS_iff f).1 hc.1
  exact .inl ⟨linkD_ok hF.toW hi hy hc.2.2.2.2,hF⟩
theorem linkR_sz {f:List Nd} {c:Cr} {y i:Int} {name:ByteArray}:SzF 2000000 (linkR f c y i name).1:=by
 rcases linkR_W (f:=f) (c:=c) (y:=y) (i:=i) (name:=name) with h | h
 ·exact OkW.szF h.1
 ·rw [h]; exact SzF.nil _
end Go.Proofs.Ytbjgiioppmkpiaa.Rx.S

namespace Go.Proofs.Ytbjgiioppmkpiaa.Rx.S
open Go Go.Proofs.Ytbjgiioppmkpiaa.Rx.Pu Go.Proofs.Ytbjgiioppmkpiaa.Rx.Fs
set_option linter.unusedVariables false
set_option linter.unusedSimpArgs false
theorem p54_eq (n:Nat) (f:List Nd) (c:Cr) (id to:Int) (name:ByteArray) (h:SzF 2000000 f) (hl:c.2.2.length≤2000000) (hs:name.size≤2000000) (hn:2000000 < n) (hn2:n < 4611686018427387904) :
  p54 n f c id to name=some (((linkR f c id to name).1,((linkR f c id to name).2,())),()):=by
 have h1:=p63_eq n f (h.sm hn (by omega) hn2)
 have h2:=p64_eq n c hl hn
 have e:(c.1,c.2.1,c.2.2)=c:=rfl
 have h3:=p67_eq n f h hn
 have h5:=p76_eq n name (by omega) (by omega)
 show st54_top n f c id to name=_
 unfold linkR
 simp only [st54_top,q63,h1,Option.bind_some,q64,e,h2,q76,h5,q67,h3]
 cases hok:okS f; · rfl
 cases credOk c; · rfl
 simp only [Bool.not_true,cond_false,q65,p65_eq n f (okS_len hok),Option.bind_some,Bool.true_and]
 cases hh:hasB f id; · rfl
 cases hh2:hasB f to; · rfl
 obtain ⟨y,rfl,hy,hy10⟩:=hasB_ge hh (okS_len hok)
 obtain ⟨i,rfl,hi,hi10⟩:=hasB_ge hh2 (okS_len hok)
 cases nmOk name; · rfl
 have hW:=((okS_iff f).1 hok).toW
 have hb:=OkW.lkB hW hy10
 have h111:=p111_eq n f c y i name hi hy (OkW.szB hW) hl (by omega) hn
 simp only [Bool.not_true,cond_false,q111,h111,Option.bind_some,Bool.true_and,cond_true,toNat_cast]
end Go.Proofs.Ytbjgiioppmkpiaa.Rx.S

namespace Go.Proofs.Ytbjgiioppmkpiaa.Rx.S
open Go Go.Proofs.Ytbjgiioppmkpiaa.Rx.Pu Go.Proofs.Ytbjgiioppmkpiaa.Rx.Fs
set_option linter.unusedVariables false
set_option linter.unusedSimpArgs false
theorem p52_eq (n:Nat) (hn:2000000 < n) {l:List Int} (hl:∀ x ∈ l,0≤x∧x < 256):∃ (f:List Nd) (c:Cr) (id to:Int) (s:ByteArray),p52 n l=some ((f,(c,(id,(to,(s,()))))),())∧SzF 2000000 f∧c.2.2.length≤4∧s.size≤10:=by
 show ∃ (f:List Nd) (c:Cr) (id to:Int) (s:ByteArray),st52_top n l=_∧_
 obtain ⟨l',h1,hb⟩:=p55_eq n hl
 obtain ⟨f,p1,h2,h3,h4⟩:=p56_eq n hn hb (pos:=0) (by omega)
 obtain ⟨c,p2,h5,h6,h7⟩:=p57_eq n (by omega) hb (pos:=p1) (by omega)
 obtain ⟨id,p3,h8,h9,_⟩:=p58_eq n hb (pos:=p2) (by omega)
 obtain ⟨to,p4,h13,h14,_⟩:=p58_eq n hb (pos:=p3) (by omega)
 obtain ⟨s,p5,h10,h11,h12⟩:=p71_eq n hb (pos:=p4) (by omega)
 simp only [st52_top,q55,h1,q56,h2,q57,h5,q58,h8,h13,q71,h10,Option.bind_some]
 exact ⟨_,_,_,_,_,rfl,h4,h7,h12⟩
def ownAll (f:List Nd):Prop:=∀ j,j < 10→kd (f.getD j d0) ≠ 0→ownW (f.getD j d0)
theorem ownAll.set {f:List Nd} (h:ownAll f) {i:Nat} {a:Nd} (ha:kd a ≠ 0→ownW a):ownAll (f.set i a):=fun j hj hk=>by
 rw [getD_set_i] at hk ⊢
 split
 ·rename_i e; rw [if_pos e] at hk; exact ha hk
 ·rename_i e; rw [if_neg e] at hk; exact h j hj hk
end Go.Proofs.Ytbjgiioppmkpiaa.Rx.S

namespace Go.Proofs.Ytbjgiioppmkpiaa.Rx.S
open Go Go.Proofs.Ytbjgiioppmkpiaa.Rx.Pu Go.Proofs.Ytbjgiioppmkpiaa.Rx.Fs
set_option linter.unusedVariables false
set_option linter.unusedSimpArgs false
theorem ownAll.take {f:List Nd} (h:ownAll f) {i:Nat} (hi:i < 10) (k:Nat):ownAll (takeE f i k):=h.set (a:=setNm (f.getD i d0) ((nm (f.getD i d0)).eraseIdx k)) (fun hk=>h i hi hk)
theorem ownAll.put {f:List Nd} (h:ownAll f) {i:Nat} (hi:i < 10) (x:En):ownAll (putE f i x):=h.set (a:=setNm (f.getD i d0) (insE x (nm (f.getD i d0)))) (fun hk=>h i hi hk)
theorem ownAll.lk {f:List Nd} (h:ownAll f) {y:Nat} (hy:y < 10) (v:Int):ownAll (f.set y (setLk (f.getD y d0) v)):=h.set (a:=setLk (f.getD y d0) v) (fun hk=>h y hy hk)
theorem ownAll.free {f:List Nd} (h:ownAll f) (y:Nat):ownAll (freeF f y):=by
 unfold freeF
 cases freeBf f y with
 | true=>exact h.set (fun hk=>absurd rfl hk)
 | false=>exact h
def m31 (d:Int):Bool:=(!mayV (IntKind.i64.wrap (d.tdiv 64)) 3 || mayV (IntKind.i64.wrap (d.tdiv 64)) 1)&&((!mayV ((IntKind.i64.wrap (d.tdiv 8)).tmod 8) 3 || mayV ((IntKind.i64.wrap (d.tdiv 8)).tmod 8) 1)&&(!mayV (d.tmod 8) 3 || mayV (d.tmod 8) 1))
theorem m31_all:∀ d:Fin 512,m31 ((d.1:Nat):Int)=true:=by decide +kernel
theorem may31 {c:Cr} {a:Nd} (hb:baseW a) (h:mayN c a 3=true):mayN c a 1=true:=by
  unfold mayN mayS at h ⊢
  obtain ⟨d,hd⟩:=Int.eq_ofNat_of_zero_le hb.2.1.1
  have hm:=m31_all ⟨d,by have:=hb.2.1.2; omega⟩
  rw [hd] at h ⊢
  simp only [m31,Bool.and_eq_true,Bool.or_eq_true,Bool.not_eq_true'] at hm
  obtain ⟨h1,h2,h3⟩:=hm
  revert h
  cases decide (c.1=0) with
  | true =>
    simp only [cond_true]
    cases decide ((0:Int) < IntKind.i64.wrap (IntKind.i64.wrap (((d:Nat):Int).tmod 2 + (IntKind.i64.wrap (((d:Nat):Int).tdiv 8)).tmod 2) + (IntKind.i64.wrap (((d:Nat):Int).tdiv 64)).tmod 2)) with
    | true=>intro _; exact (by decide:mayV 7 1=true)
    | false=>intro h; exact absurd h (by decide)
  | false =>
    simp only [cond_false]
    cases decide (c.1=ow a) with
    | true => simp only [cond_true]; intro h; rcases h1 with h1 | h1
              · rw [h] at h1; cases h1
              · exact h1
    | false =>
      simp only [cond_false]
      cases inB c.2.2 (gr a) with
      | true =>
        simp only [cond_true]; intro h
        rcases h2 with h2 | h2
        · rw [h] at h2; cases h2
        · exact h2
      | false =>
        simp only [cond_false]; intro h
        rcases h3 with h3 | h3
        · rw [h] at h3; cases h3
        · exact h3
noncomputable def lookD (f:List Nd) (c:Cr) (i:Nat) (name:ByteArray):Int × Int :=
 bif !decide (kd (f.getD i d0)=2) then (-1,4) else bif !mayN c (f.getD i d0) 1 then (-1,5) else bif !hasE name (nm (f.getD i d0)) then (-1,2) else (((nm (f.getD i d0)).getD (posE name (nm (f.getD i d0))) e0).2,0)
noncomputable def lookR (f:List Nd) (c:Cr) (id:Int) (name:ByteArray):Int × Int:=bif okS f&&(credOk c&&(hasB f id&&nmOk name)) then lookD f c id.toNat name else (-1,1)
theorem p23_eq (n:Nat) (f:List Nd) (c:Cr) (id:Int) (name:ByteArray) (hl:c.2.2.length≤2000000) (hn:2000000 < n):p23 n f c id name=some (((lookR f c id name).1,((lookR f c id name).2,())),()):=by
 have h1:=p60_eq n f c [id] hl (by simp) hn
 have e:(c.1,c.2.1,c.2.2)=c:=rfl
 show st23_top n f c id name=_
 unfold lookR
 simp only [st23_top,q60,e,h1,Option.bind_some,q70,p70_eq n (by omega) name,List.all_cons,List.all_nil,Bool.and_true]
 cases hok:okS f; · rfl
 cases hcr:credOk c; · rfl
 cases hh:hasB f id; · rfl
 obtain ⟨i,rfl,hi10,hk⟩:=hasB_kd hh
 have hF:=(okS_iff f).1 hok
 have hW:=hF.toW
 have hi:i < f.length:=by rw [hW.len]; exact hi10
 cases hnm:nmOk name; · rfl
 have ee:∀ x:Nd,(x.1,x.2.1,x.2.2.1,x.2.2.2.1,x.2.2.2.2.1,x.2.2.2.2.2.1,x.2.2.2.2.2.2.1,x.2.2.2.2.2.2.2.1,x.2.2.2.2.2.2.2.2)=x:=fun _=>rfl
 have hpw:=OkW.pw hW hi10
 have hnl:=hW.nlen i hi10
 have h73:=p73_eq n (f.getD i d0) name hpw (by omega) hn
 have h72:=p72_eq n (f.getD i d0) c 1 hcr (((okW_iff f).1 hF).2 i hi10 hk) (hW.base i hi10 hk) (by omega) hl hn
 unfold lookD
 simp only [Bool.not_true,Bool.true_and,cond_false,cond_true,toNat_cast]
 have h73':=h73
 have h72':=h72
 simp only [d0] at h73' h72'
 simp only [lt_t hi,ge_t,cond_true,Option.bind_some,ee,q73,h73',q72,h72']
 by_cases hk2:kd (f.getD i d0)=2
 ·have hk2':(f.getD i ZN).1=2:=hk2
  simp only [hk2,hk2',decide_true,Bool.not_true,cond_false]
  cases hm:mayN c (f.getD i d0) 1 with
  | false =>
   have hm':=hm
   simp only [d0] at hm'
   simp only [hm',Bool.not_false,cond_true]
  | true =>
   have hm':=hm
   simp only [d0] at hm'
   simp only [hm',Bool.not_true,cond_false]
   cases hhs:hasE name (nm (f.getD i d0)) with
   | false =>
    have hhs':=hhs
    simp only [d0] at hhs'
    simp only [hhs',Bool.not_false,cond_true]
   | true =>
    have hlt:posE name (nm (f.getD i d0)) < (nm (f.getD i d0)).length:=by
     simp only [hasE,Bool.and_eq_true,decide_eq_true_eq] at hhs; exact hhs.1
    have hlt':decide ((posE name (nm (f.getD i d0)):Int) < (((f.getD i d0).2.2.2.2.2.2.2.2).length:Int))=true:=decide_eq_true (by have:=hlt; simp only [nm] at this ⊢; omega)
    have hhs':=hhs
    simp only [d0] at hhs' hlt'
    simp only [hhs',Bool.not_true,cond_false,ge_t,hlt',cond_true,toNat_cast]
 ·have hk2':¬ (f.getD i ZN).1=2:=hk2
  simp only [hk2,hk2',decide_false,Bool.not_false,cond_true]
theorem hasB_of {f:List Nd} {i:Nat} (hi:i < 10) (hk:kd (f.getD i d0) ≠ 0):hasB f (i:Int)=true:=by
 unfold hasB
 simp only [Bool.and_eq_true,decide_eq_true_eq,Bool.not_eq_true',decide_eq_false_iff_not]
 exact ⟨by omega,hk⟩
theorem look_of {f:List Nd} (h:OkF f) {c:Cr} (hc:credOk c=true) {i:Nat} (hi:i < 10) (hk:kd (f.getD i d0)=2) {name:ByteArray} (hn:nmOk name=true) (hm:mayN c (f.getD i d0) 3=true) :
  lookR f c (i:Int) name=bif hasE name (nm (f.getD i d0)) then (((nm (f.getD i d0)).getD (posE name (nm (f.getD i d0))) e0).2,0) else (-1,2):=by
 unfold lookR lookD
 rw [(okS_iff f).2 h,hc,hasB_of hi (by omega),hn]
 simp only [Bool.and_true,cond_true,toNat_cast]
 rw [decide_eq_true hk,may31 (h.toW.base i hi (by omega)) hm]
 simp only [Bool.not_true,cond_false]
 cases hasE name (nm (f.getD i d0)) <;> rfl
structure DropOk (f:List Nd) (c:Cr) (name:ByteArray) (i k y:Nat):Prop where
 ok:OkF f
 cr:credOk c=true
 nmk:nmOk name=true
 hi:i < 10
 hy:y < 10
 y0:y ≠ 0
 iy:i ≠ y
 ki:kd (f.getD i d0)=2
 may:mayN c (f.getD i d0) 3=true
 has:hasE name (nm (f.getD i d0))=true
 hk:k=posE name (nm (f.getD i d0))
 kl:k < (nm (f.getD i d0)).length
 ent:(nm (f.getD i d0)).getD k e0=(name,(y:Int))
 ky:kd (f.getD y d0) ≠ 0
 emp:kd (f.getD y d0)=2→nm (f.getD y d0)=[]∧op (f.getD y d0)=0
noncomputable def dropN (f:List Nd) (i k y:Nat):List Nd:=freeF (takeE (f.set y (setLk (f.getD y d0) (lk (f.getD y d0) - 1))) i k) y
theorem dropN_get {f:List Nd} (hlen:f.length=10) {i k y:Nat} (hi:i < 10) (hy:y < 10) (hiy:i ≠ y) (hy0:y ≠ 0) (j:Nat):(dropN f i k y).getD j d0 =
  if j=y then (if lk (f.getD y d0) - 1=0∧op (f.getD y d0)=0 then d0 else setLk (f.getD y d0) (lk (f.getD y d0) - 1)) else if j=i then setNm (f.getD i d0) ((nm (f.getD i d0)).eraseIdx k) else f.getD j d0:=by
 have hg:(f.set y (setLk (f.getD y d0) (lk (f.getD y d0) - 1))).getD i d0=f.getD i d0:=by rw [getD_set1 (by rw [hlen]; exact hy),if_neg hiy]
 have ht:takeE (f.set y (setLk (f.getD y d0) (lk (f.getD y d0) - 1))) i k=(f.set y (setLk (f.getD y d0) (lk (f.getD y d0) - 1))).set i (setNm (f.getD i d0) ((nm (f.getD i d0)).eraseIdx k)):=by unfold takeE; rw [hg]
 have h2:=ids_set2 hlen hi hy hiy (setLk (f.getD y d0) (lk (f.getD y d0) - 1)) (setNm (f.getD i d0) ((nm (f.getD i d0)).eraseIdx k))
 have hyn:((f.set y (setLk (f.getD y d0) (lk (f.getD y d0) - 1))).set i (setNm (f.getD i d0) ((nm (f.getD i d0)).eraseIdx k))).getD y d0=setLk (f.getD y d0) (lk (f.getD y d0) - 1):=by rw [h2,if_neg (Ne.symm hiy),if_pos rfl]
 unfold dropN freeF freeBf
 rw [ht,hyn,decide_eq_false hy0]
 have e1:lk (setLk (f.getD y d0) (lk (f.getD y d0) - 1))=lk (f.getD y d0) - 1:=rfl
 have e2:op (setLk (f.getD y d0) (lk (f.getD y d0) - 1))=op (f.getD y d0):=rfl
 rw [e1,e2]
 by_cases hb:lk (f.getD y d0) - 1=0∧op (f.getD y d0)=0
 ·rw [decide_eq_true hb.1,decide_eq_true hb.2,if_pos hb]
  simp only [Bool.not_false,Bool.and_true,cond_true]
  rw [getD_set1 (by rw [List.length_set,List.length_set,hlen]; exact hy),h2]
  by_cases e:j=y
  ·rw [if_pos e,if_pos e]
  ·rw [if_neg e,if_neg e,if_neg e]
 ·rw [if_neg hb]
  have:(!false&&(decide (lk (f.getD y d0) - 1=0)&&decide (op (f.getD y d0)=0)))=false:=by
   cases h:(decide (lk (f.getD y d0) - 1=0)&&decide (op (f.getD y d0)=0)) with
   | false=>rfl
   | true=>simp only [Bool.and_eq_true,decide_eq_true_eq] at h; exact absurd h hb
  rw [this]
  simp only [cond_false]
  rw [h2]
  by_cases e:j=y
  ·subst e; rw [if_neg (Ne.symm hiy),if_pos rfl,if_pos rfl]
  ·by_cases e':j=i
   ·simp only [if_neg e,if_pos e']
   ·simp only [if_neg e,if_neg e']
end Go.Proofs.Ytbjgiioppmkpiaa.Rx.S

namespace Go.Proofs.Ytbjgiioppmkpiaa.Rx.S
open Go Go.Proofs.Ytbjgiioppmkpiaa.Rx.Pu Go.Proofs.Ytbjgiioppmkpiaa.Rx.Fs
set_option linter.unusedVariables false
set_option linter.unusedSimpArgs false
theorem ins_posE (s:ByteArray) (v:Int):∀ es:List En,(∀ e ∈ es,e.1 ≠ s)→posE s (insE (s,v) es)=posE s es
 | [],_=>by simp [insE,posE,lt_irrefl]
 | y :: ys,h=>by
  simp only [insE]
  rcases lt_total s y.1 with h1 | h1 | h1
  ·rw [h1]
   simp only [cond_true,posE,lt_irrefl,lt_asymm h1,cond_false]
  ·exact absurd h1.symm (h y List.mem_cons_self)
  ·rw [lt_asymm h1]
   simp only [cond_false,posE,h1,cond_true]
   rw [ins_posE s v ys (fun e he=>h e (List.mem_cons_of_mem _ he))]
theorem ins_erase (s:ByteArray) (v:Int):∀ es:List En,(∀ e ∈ es,e.1 ≠ s)→(insE (s,v) es).eraseIdx (posE s es)=es
 | [],_=>rfl
 | y :: ys,h=>by
  simp only [insE]
  rcases lt_total s y.1 with h1 | h1 | h1
  ·rw [h1]
   simp only [cond_true,posE,lt_asymm h1,cond_false,List.eraseIdx_cons_zero]
  ·exact absurd h1.symm (h y List.mem_cons_self)
  ·rw [lt_asymm h1]
   simp only [cond_false,posE,h1,cond_true,List.eraseIdx_cons_succ]
   rw [ins_erase s v ys (fun e he=>h e (List.mem_cons_of_mem _ he))]
theorem ins_get (s:ByteArray) (v:Int):∀ es:List En,(∀ e ∈ es,e.1 ≠ s)→(insE (s,v) es).getD (posE s es) e0=(s,v)
 | [],_=>rfl
 | y :: ys,h=>by
  simp only [insE]
  rcases lt_total s y.1 with h1 | h1 | h1
  ·rw [h1]
   simp only [cond_true,posE,lt_asymm h1,cond_false,List.getD_cons_zero]
  ·exact absurd h1.symm (h y List.mem_cons_self)
  ·rw [lt_asymm h1]
   simp only [cond_false,posE,h1,cond_true,List.getD_cons_succ]
   exact ins_get s v ys (fun e he=>h e (List.mem_cons_of_mem _ he))
theorem ins_has (s:ByteArray) (v:Int) (es:List En) (h:∀ e ∈ es,e.1 ≠ s):hasE s (insE (s,v) es)=true:=by
 unfold hasE
 rw [ins_posE s v es h,ins_get s v es h,decide_eq_true (by rw [insE_len]; have:=posE_le s es; omega)]
 simp
theorem nd_ext {f g:List Nd} (hf:f.length=10) (hg:g.length=10) (h:∀ j,j < 10→f.getD j d0=g.getD j d0):f=g:=by
 apply List.ext_getElem (by rw [hf,hg])
 intro j h1 h2
 have:=h j (by omega)
 rw [getD_get h1,getD_get h2] at this
 exact this
structure PutOk (f:List Nd) (c:Cr) (name:ByteArray) (i y:Nat) (A:Nd):Prop where
 ok:OkF f
 cr:credOk c=true
 nmk:nmOk name=true
 hi:i < 10
 hy:y < 10
 y0:y ≠ 0
 iy:i ≠ y
 ki:kd (f.getD i d0)=2
 may:mayN c (f.getD i d0) 3=true
 no:hasE name (nm (f.getD i d0))=false
 kA:kd A ≠ 0
 nA:nm A=[]
 oA:kd A=2→op A=0
 okN:OkF (putE (f.set y A) i (name,(y:Int)))
theorem put_get {f:List Nd} (hlen:f.length=10) {i y:Nat} (hi:i < 10) (hy:y < 10) (hiy:i ≠ y) (A:Nd) (x:En) (j:Nat):(putE (f.set y A) i x).getD j d0=if j=i then setNm (f.getD i d0) (insE x (nm (f.getD i d0))) else if j=y then A else f.getD j d0:=by
 have hg:(f.set y A).getD i d0=f.getD i d0:=by rw [getD_set1 (by rw [hlen]; exact hy),if_neg hiy]
 unfold putE
 rw [hg]
 exact ids_set2 hlen hi hy hiy _ _ j
theorem PutOk.look {f:List Nd} {c:Cr} {name:ByteArray} {i y:Nat} {A:Nd} (h:PutOk f c name i y A):lookR (putE (f.set y A) i (name,(y:Int))) c (i:Int) name=((y:Int),0):=by
 have hg:=put_get h.ok.len h.hi h.hy h.iy A (name,(y:Int))
 have gi:=hg i
 rw [if_pos rfl] at gi
 have hno:=has_no (OkW.pw h.ok.toW h.hi) h.no
 rw [look_of h.okN h.cr h.hi (by rw [gi]; exact h.ki) h.nmk (by rw [gi]; exact h.may),gi]
 have e:nm (setNm (f.getD i d0) (insE (name,(y:Int)) (nm (f.getD i d0))))=insE (name,(y:Int)) (nm (f.getD i d0)):=rfl
 rw [e,ins_has _ _ _ hno,ins_posE _ _ _ hno,ins_get _ _ _ hno]
 rfl
theorem PutOk.drop {f:List Nd} {c:Cr} {name:ByteArray} {i y:Nat} {A:Nd} (h:PutOk f c name i y A) (hback:(if lk A - 1=0∧op A=0 then d0 else setLk A (lk A - 1))=f.getD y d0) :
  dropR (putE (f.set y A) i (name,(y:Int))) c (i:Int) name=(f,0):=by
 have hg:=put_get h.ok.len h.hi h.hy h.iy A (name,(y:Int))
 have gi:=hg i
 rw [if_pos rfl] at gi
 have gy:=hg y
 rw [if_neg (Ne.symm h.iy),if_pos rfl] at gy
 have hno:=has_no (OkW.pw h.ok.toW h.hi) h.no
 obtain ⟨F,hF⟩:∃ F,putE (f.set y A) i (name,(y:Int))=F:=⟨_,rfl⟩
 have hok:=h.okN
 rw [hF] at hg gi gy hok ⊢
 have e:nm (F.getD i d0)=insE (name,(y:Int)) (nm (f.getD i d0)):=by rw [gi]; rfl
 have hat:=atI_pos name (OkW.pw hok.toW h.hi)
 rw [e,ins_has _ _ _ hno,ins_posE _ _ _ hno] at hat
 simp only [if_true] at hat
 have hki:kd (F.getD i d0)=2:=by rw [gi]; exact h.ki
 have hm:mayN c (F.getD i d0) 3=true:=by rw [gi]; exact h.may
 unfold dropR
 rw [(okS_iff _).2 hok,h.cr,hasB_of h.hi (by omega),h.nmk]
 simp only [Bool.and_true,cond_true,toNat_cast]
 unfold dropD
 have hin:inF c (F.getD i d0) 3=0:=by unfold inF; rw [decide_eq_true hki,hm]; rfl
 rw [decide_eq_true hin]
 have hneg:decide (((posE name (nm (f.getD i d0)):Nat):Int) < 0)=false:=decide_eq_false (by omega)
 have ht:tgt F i ((posE name (nm (f.getD i d0)):Nat):Int)=y:=by unfold tgt; rw [toNat_cast,e,ins_get _ _ _ hno,toNat_cast]
 have hb:(decide (kd (F.getD y d0)=2)&&(decide (0 < ((nm (F.getD y d0)).length:Int)) || decide (0 < op (F.getD y d0))))=false:=by
  rw [gy,h.nA]
  by_cases hk2:kd A=2
  ·rw [h.oA hk2]; simp
  ·rw [decide_eq_false hk2]; rfl
 simp only [Bool.not_true,cond_false,e,hat,hneg,ht,hb,toNat_cast]
 have hx:dropN F i (posE name (nm (f.getD i d0))) y=f:=by
  refine nd_ext ?_ h.ok.len (fun j hj=>?_)
  ·unfold dropN freeF takeE
   cases freeBf ((F.set y (setLk (F.getD y d0) (lk (F.getD y d0) - 1))).set i (setNm ((F.set y (setLk (F.getD y d0) (lk (F.getD y d0) - 1))).getD i d0) ((nm ((F.set y (setLk (F.getD y d0) (lk (F.getD y d0) - 1))).getD i d0)).eraseIdx (posE name (nm (f.getD i d0)))))) y <;> simp [hok.len]
  ·rw [dropN_get hok.len h.hi h.hy h.iy h.y0]
   by_cases e1:j=y
   ·subst e1; rw [if_pos rfl,gy]; exact hback
   ·by_cases e2:j=i
    ·subst e2
     rw [if_neg e1,if_pos rfl,e,ins_erase _ _ _ hno,gi]
     rfl
    ·rw [if_neg e1,if_neg e2,hg,if_neg e2,if_neg e1]
 unfold dropN at hx
 rw [hx]
theorem linkR_form {f:List Nd} {c:Cr} {id to:Int} {name:ByteArray} (h:(linkR f c id to name).2=0):∃ i y:Nat,id=(y:Int)∧to=(i:Int)∧kd (f.getD y d0)=1∧PutOk f c name i y (setLk (f.getD y d0) (lk (f.getD y d0) + 1)) ∧
  (linkR f c id to name).1=putE (f.set y (setLk (f.getD y d0) (lk (f.getD y d0) + 1))) i (name,(y:Int)):=by
 have hW0:=linkR_W (f:=f) (c:=c) (y:=id) (i:=to) (name:=name)
 unfold linkR at h hW0 ⊢
 cases hc:okS f&&(credOk c&&(hasB f id&&(hasB f to&&nmOk name))) with
 | false=>rw [hc] at h; exact absurd h (show ¬ (1:Int)=0 by decide)
 | true =>
  rw [hc] at h hW0
  simp only [Bool.and_eq_true,decide_eq_true_eq] at hc
  obtain ⟨y,rfl,hy,hky⟩:=hasB_kd hc.2.2.1
  obtain ⟨i,rfl,hi,hk⟩:=hasB_kd hc.2.2.2.1
  have hF:=(okS_iff f).1 hc.1
  have hW:=hF.toW
  simp only [cond_true,toNat_cast] at h hW0 ⊢
  unfold linkD at h hW0 ⊢
  by_cases hk1:kd (f.getD y d0)=1
  ·rw [decide_eq_true hk1] at h hW0 ⊢
   by_cases h1:inF c (f.getD i d0) 3=0
   ·obtain ⟨hki,hm⟩:=inF_kd h1
    rw [decide_eq_true h1] at h hW0 ⊢
    simp only [Bool.not_true,cond_false] at h hW0 ⊢
    have hat:=atI_pos name (OkW.pw hW hi)
    cases hh:hasE name (nm (f.getD i d0)) with
    | true =>
     rw [hh] at hat
     simp only [if_true] at hat
     simp only [hat] at h
     rw [decide_eq_true (show (0:Int)≤(posE name (nm (f.getD i d0)):Int) by omega)] at h
     exact absurd h (show ¬ (3:Int)=0 by decide)
    | false =>
     rw [hh] at hat
     simp only [Bool.false_eq_true,if_false] at hat
     simp only [hat,show decide ((0:Int)≤-1)=false from rfl,cond_false] at h hW0 ⊢
     have hiy:i ≠ y:=fun e=>by subst e; omega
     by_cases h6:(6:Int)≤((nm (f.getD i d0)).length:Int)
     ·rw [decide_eq_true h6] at h; exact absurd h (show ¬ (7:Int)=0 by decide)
     ·rw [decide_eq_false h6] at h hW0 ⊢
      by_cases h9:99≤lk (f.getD y d0)
      ·rw [decide_eq_true h9] at h; exact absurd h (show ¬ (7:Int)=0 by decide)
      ·rw [decide_eq_false h9] at h hW0 ⊢
       simp only [cond_false] at h hW0 ⊢
       have hy0:y ≠ 0:=fun e=>by subst e; have:=hW.root; omega
       have hN:OkF (putE (f.set y (setLk (f.getD y d0) (lk (f.getD y d0) + 1))) i (name,(y:Int))):=by
        rcases hW0 with hw | hw
        ·have ho:ownAll f:=((okW_iff f).1 hF).2
         exact (okW_iff _).2 ⟨hw.1,(ho.lk hy _).put hi _⟩
        ·injection hw with _ hw; exact absurd hw (by decide)
       exact ⟨i,y,rfl,rfl,hk1,⟨hF,hc.2.1,hc.2.2.2.2,hi,hy,hy0,hiy,hki,hm,hh,hky,hW.nm_file hy (by omega),fun h2=>absurd (show kd (f.getD y d0)=2 from h2) (by omega),hN⟩,rfl⟩
   ·rw [decide_eq_false h1] at h
    exact absurd h h1
  ·rw [decide_eq_false hk1] at h; exact absurd h (show ¬ (4:Int)=0 by decide)
theorem linkR_err {f:List Nd} {c:Cr} {id to:Int} {name:ByteArray} (h0:(linkR f c id to name).2 ≠ 0) (h1:(linkR f c id to name).2 ≠ 1):(linkR f c id to name).1=f:=by
 unfold linkR at h0 h1 ⊢
 cases hc:okS f&&(credOk c&&(hasB f id&&(hasB f to&&nmOk name))) with
 | false=>rw [hc] at h1; exact absurd rfl h1
 | true =>
  rw [hc] at h0
  simp only [cond_true] at h0 ⊢
  unfold linkD at h0 ⊢
  cases hz:decide (kd (f.getD id.toNat d0)=1) with
  | false=>rfl
  | true =>
   rw [hz] at h0
   simp only [Bool.not_true,cond_false] at h0 ⊢
   cases ha:decide (inF c (f.getD to.toNat d0) 3=0) with
   | false=>rfl
   | true =>
    rw [ha] at h0
    simp only [Bool.not_true,cond_false] at h0 ⊢
    cases hb:decide (0≤atI name (nm (f.getD to.toNat d0)) 0) with
    | true=>rfl
    | false =>
     rw [hb] at h0
     simp only [cond_false] at h0 ⊢
     cases hd:decide ((6:Int)≤((nm (f.getD to.toNat d0)).length:Int)) with
     | true=>rfl
     | false =>
      rw [hd] at h0
      simp only [cond_false] at h0 ⊢
      cases he:decide (99≤lk (f.getD id.toNat d0)) with
      | true=>rfl
      | false=>rw [he] at h0; exact absurd rfl h0
theorem law12 (l:List Int) (hl:∀ x ∈ l,0≤x∧x < 256):p12 3000000 l=some ((true,()),()):=by
 obtain ⟨f,c,id,to,name,h0,hf,hc,hs⟩:=p52_eq 3000000 (by omega) hl
 have hR:SzF 2000000 (linkR f c id to name).1:=linkR_sz
 have t1:=p53_eq 3000000 f c id to name hf (by omega) (by omega)
 have t2:=p54_eq 3000000 f c id to name hf (by omega) (by omega) (by omega) (by omega)
 have t3:=p18_refl 3000000 _ hR (by omega)
 have t4:=p18_refl 3000000 f hf (by omega)
 have t5:=p21_eq 3000000 _ c to name hR (by omega) (by omega)
 have ec:(c.1,c.2.1,c.2.2)=c:=rfl
 show st12_top 3000000 l=_
 by_cases hlen:(1048576:Int) < (l.length:Int)
 ·simp only [st12_top,hlen,decide_true,cond_true]
 simp only [st12_top,hlen,decide_false,cond_false,q52,h0,Option.bind_some,q53,ec,t1,q54,t2,q18,t3,decide_true,Bool.not_true,Bool.not_not,cond_true]
 by_cases e1:(linkR f c id to name).2=1
 ·simp only [e1,decide_true,cond_true]
 ·by_cases e0':(linkR f c id to name).2=0
  ·obtain ⟨i,y,rfl,rfl,hk1,hp,he⟩:=linkR_form e0'
   have t6:=p23_eq 3000000 (putE (f.set y (setLk (f.getD y d0) (lk (f.getD y d0) + 1))) i (name,(y:Int))) c (i:Int) name (by omega) (by omega)
   rw [hp.look] at t6
   have t7:=p19_eq' 3000000 (by omega) (putE (f.set y (setLk (f.getD y d0) (lk (f.getD y d0) + 1))) i (name,(y:Int)))
   rw [(okS_iff _).2 hp.okN] at t7
   have hlive:=hp.ok.live y hp.hy hk1
   have hlb:=OkW.lkB hp.ok.toW hp.hy
   rw [he] at t5
   rw [hp.drop (by
    have a1:lk (setLk (f.getD y d0) (lk (f.getD y d0) + 1))=lk (f.getD y d0) + 1:=rfl
    have a2:op (setLk (f.getD y d0) (lk (f.getD y d0) + 1))=op (f.getD y d0):=rfl
    rw [a1,a2,if_neg (fun hx=>hlive ⟨by omega,hx.2⟩),show lk (f.getD y d0) + 1 - 1=lk (f.getD y d0) by omega]
    rfl)] at t5
   have hg:=put_get hp.ok.len hp.hi hp.hy hp.iy (setLk (f.getD y d0) (lk (f.getD y d0) + 1)) (name,(y:Int))
   have gy:=hg y
   rw [if_neg (Ne.symm hp.iy),if_pos rfl] at gy
   have hyf:y < f.length:=by rw [hp.ok.len]; exact hp.hy
   have hyl:y < (putE (f.set y (setLk (f.getD y d0) (lk (f.getD y d0) + 1))) i (name,(y:Int))).length:=by rw [hp.okN.len]; exact hp.hy
   have hw:IntKind.i64.wrap (lk (f.getD y d0) + 1)=lk (f.getD y d0) + 1:=wr (by omega) (by omega)
   have ha:(setLk (f.getD y d0) (lk (f.getD y d0) + 1)).2.2.2.2.1=IntKind.i64.wrap (lk (f.getD y d0) + 1):=hw.symm
   obtain ⟨G,hG⟩:∃ G,putE (f.set y (setLk (f.getD y d0) (lk (f.getD y d0) + 1))) i (name,(y:Int))=G:=⟨_,rfl⟩
   rw [hG] at t5 t6 t7 gy hyl he
   have gl:decide ((G.getD y d0).2.2.2.2.1=IntKind.i64.wrap ((f.getD y d0).2.2.2.2.1 + 1))=true:=decide_eq_true (by rw [gy]; exact ha)
   simp only [d0] at gl
   simp only [he,e0',q23,t6,t7,q19,q21,t5,t4,Option.bind_some,e1,decide_false,Bool.not_false,decide_true,Bool.not_true,cond_false,cond_true,ge_t,lt_t hyf,lt_t hyl,toNat_cast,gl]
   rfl
  ·have hx:=linkR_err e0' e1
   rw [hx]
   simp only [e1,e0',decide_false,Bool.not_false,cond_false,cond_true,t4,Option.bind_some]
theorem pure12 (l:List Int) (h:WfT (.row 5 (.int .u8)) l):∃ n o,q12 n (l,())=some ((true,()),o):=⟨3000000,(),law12 l (bytes_wf h)⟩
end Go.Proofs.Ytbjgiioppmkpiaa.Rx.S

