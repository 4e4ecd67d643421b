/- Plain laws of those functions, no program in sight: the law answers true on all data. No condition. -/
import Derived.Test.YthhopbicmaipgaaWP0
set_option linter.unusedVariables false
set_option linter.unusedSimpArgs false
namespace Go.Proofs.Ythhopbicmaipgaa.Rx.S
open Go Go.Proofs.Ythhopbicmaipgaa.Rx.Pu Go.Proofs.Ythhopbicmaipgaa.Rx.Fs
set_option linter.unusedVariables false
set_option linter.unusedSimpArgs false
def padB:Nat→ByteArray→ByteArray
 | 0,s=>s
 | d + 1,s=>padB d (s ++ ByteArray.mk #[(0:UInt8)])
theorem padB_size:∀ (d:Nat) (s:ByteArray),(padB d s).size=s.size + d
 | 0,s=>rfl
 | d + 1,s=>by
  rw [padB,padB_size d,ByteArray.size_append]
  have:(ByteArray.mk #[(0:UInt8)]).size=1:=rfl
  omega
def endB (t:ByteArray) (k:Nat):ByteArray:=bif decide (k < t.size) then t.extract k t.size else ByteArray.mk #[]
def wtx (t:ByteArray) (at_:Nat) (s:ByteArray):ByteArray:=(t.extract 0 at_ ++ s) ++ endB t (at_ + s.size)
theorem ext_all (t:ByteArray):t.extract t.size t.size=ByteArray.mk #[]:=by
 have h:(t.extract t.size t.size).size=0:=by rw [ByteArray.size_extract]; omega
 cases hx:t.extract t.size t.size with
 | mk x =>
  congr 1
  rw [hx] at h
  exact Array.eq_empty_of_size_eq_zero h
theorem zero1:(List.foldl (fun (r:ByteArray) (n:Int)=>r.push (UInt8.ofNat n.toNat)) ByteArray.empty [(0:Int)])=ByteArray.mk #[(0:UInt8)]:=rfl
noncomputable def setTx (a:Nd) (t:ByteArray):Nd:=(a.1,a.2.1,a.2.2.1,a.2.2.2.1,a.2.2.2.2.1,a.2.2.2.2.2.1,a.2.2.2.2.2.2.1,t,a.2.2.2.2.2.2.2.2)
noncomputable def writeR (f:List Nd) (id at_:Int) (s:ByteArray):List Nd × Int :=
 bif okS f&&(hasB f id&&!decide (at_ < 0)) then
  (bif !decide ((f.getD id.toNat d0).1=1) then (f,4) else bif decide (40 < at_) then (f,7) else bif decide (40 < at_ + (s.size:Int)) then (f,7) else bif decide (s.size=0) then (f,0) else
   (f.set id.toNat (setTx (f.getD id.toNat d0) (wtx (padB (at_.toNat - (f.getD id.toNat d0).2.2.2.2.2.2.2.1.size) (f.getD id.toNat d0).2.2.2.2.2.2.2.1) at_.toNat s)),0)) else ([],1)
theorem wr_add {a:Nat} {b:Nat} (h:a + b < 4611686018427387904):IntKind.i64.wrap ((a:Int) + (b:Int))=((a + b:Nat):Int):=(wr (x:=(a:Int) + (b:Int)) (by omega) (by omega)).trans (by omega)
theorem min_if {a b:Nat}:(if ((a:Nat):Int) < (b:Int) then ((a:Nat):Int) else (b:Int))=((min a b:Nat):Int):=by
 simp only [Nat.min_def]
 split <;> split <;> omega
theorem p81_L8_eq (n:Nat) (f:List Nd) (i:Nat) (hi:i < f.length) (k:Nat) (s:ByteArray) (hs:s.size≤2000000) (hk:k≤40):∀ (d m:Nat) (t:ByteArray),t.size≤1000→d=k - t.size→d < m →
  p81_L8 n m (i:Int) (k:Int) s t f=some ((f.set i (setTx (f.getD i d0) (wtx (padB d t) k s)),(0,())),())
 | _,0,_,_,_,h=>by omega
 | d + 1,m + 1,t,ht,hd,hm=>by
  show st81_L8 n (p81_L8 n m) (i:Int) (k:Int) s t f=_
  have e1:decide ((t.size:Int) < (k:Int))=true:=decide_eq_true (by omega)
  have hz:(ByteArray.mk #[(0:UInt8)]).size=1:=rfl
  have e2:decide (t.size + (List.foldl (fun (r:ByteArray) (n:Int)=>r.push (UInt8.ofNat n.toNat)) ByteArray.empty [(0:Int)]).size≤(9223372036854775807:Nat))=true:=decide_eq_true (by rw [zero1,hz]; omega)
  simp only [st81_L8,e1,e2,cond_true]
  exact p81_L8_eq n f i hi k s hs hk d m (t ++ ByteArray.mk #[(0:UInt8)]) (by rw [ByteArray.size_append,hz]; omega) (by rw [ByteArray.size_append,hz]; omega) (by omega)
 | 0,m + 1,t,ht,hd,hm=>by
  show st81_L8 n (p81_L8 n m) (i:Int) (k:Int) s t f=_
  have e1:decide ((t.size:Int) < (k:Int))=false:=decide_eq_false (by omega)
  have e2:decide ((k:Int)≤(t.size:Int))=true:=decide_eq_true (by omega)
  have x1:(t.extract 0 k).size≤1000:=by rw [ByteArray.size_extract]; omega
  have e3:decide ((t.extract (Int.toNat 0) k).size + s.size≤(9223372036854775807:Nat))=true:=decide_eq_true (by show (t.extract 0 k).size + _≤_; omega)
  have e4:decide ((0:Int)≤((min (k + s.size) t.size:Nat):Int))=true:=decide_eq_true (by omega)
  have e5:decide (((min (k + s.size) t.size:Nat):Int)≤(t.size:Int))=true:=decide_eq_true (by have:=Nat.min_le_right (k + s.size) t.size; omega)
  have x2:(t.extract (min (k + s.size) t.size) t.size).size≤1000:=by rw [ByteArray.size_extract]; omega
  have e6:decide ((t.extract (Int.toNat 0) k ++ s).size + (t.extract (min (k + s.size) t.size) t.size).size≤(9223372036854775807:Nat))=true:=decide_eq_true (by rw [ByteArray.size_append]; show (t.extract 0 k).size + _ + _≤_; omega)
  have hend:t.extract (min (k + s.size) t.size) t.size=endB t (k + s.size):=by
   unfold endB
   by_cases h:k + s.size < t.size
   ·rw [decide_eq_true h,Nat.min_eq_left (by omega)]; rfl
   ·rw [decide_eq_false h,Nat.min_eq_right (by omega)]; exact ext_all t
  simp only [st81_L8,e1,e2,ge_t,cond_true,cond_false,toNat_cast,e3,wr_add (show k + s.size < 4611686018427387904 by omega),min_if,e4,e5,e6,lt_t hi]
  rw [hend]
  rfl
theorem p30_eq (n:Nat) (f:List Nd) (id at_:Int) (s:ByteArray) (hs:s.size≤1048576) (h:SzF 2000000 f) (hn:2000000 < n) (hn2:n < 4611686018427387904):p30 n f id at_ s=some (((writeR f id at_ s).1,((writeR f id at_ s).2,())),()):=by
 have h1:=p62_eq n f (h.sm hn (by omega) hn2)
 have h3:=p68_eq n f h hn
 show st30_top n f id at_ s=_
 unfold writeR
 simp only [st30_top,q62,h1,Option.bind_some,q68,h3]
 cases hok:okS f; · rfl
 simp only [Bool.not_true,cond_false,q64,p64_eq n f (okS_len hok),Option.bind_some,Bool.true_and]
 cases hh:hasB f id; · rfl
 obtain ⟨i,rfl,hi,hi10⟩:=hasB_ge hh (okS_len hok)
 have hokF:=(okS_iff f).1 hok
 by_cases hneg:at_ < 0
 ·simp only [hneg,decide_true,cond_true,Bool.not_true,Bool.and_false,cond_false]
 ·obtain ⟨k,rfl⟩:=Int.eq_ofNat_of_zero_le (show 0≤at_ by omega)
  simp only [hneg,decide_false,Bool.not_true,Bool.not_false,Bool.true_and,cond_true,cond_false]
  have h81:p81 n f (i:Int) (k:Int) s=some (((bif !decide ((f.getD i d0).1=1) then (f,(4:Int)) else bif decide (40 < (k:Int)) then (f,7) else bif decide (40 < (k:Int) + (s.size:Int)) then (f,7) else bif decide (s.size=0) then (f,0) else
   (f.set i (setTx (f.getD i d0) (wtx (padB (k - (f.getD i d0).2.2.2.2.2.2.2.1.size) (f.getD i d0).2.2.2.2.2.2.2.1) k s)),0)).1,((bif !decide ((f.getD i d0).1=1) then (f,(4:Int)) else bif decide (40 < (k:Int)) then (f,7) else bif decide (40 < (k:Int) + (s.size:Int)) then (f,7) else bif decide (s.size=0) then (f,0) else
   (f.set i (setTx (f.getD i d0) (wtx (padB (k - (f.getD i d0).2.2.2.2.2.2.2.1.size) (f.getD i d0).2.2.2.2.2.2.2.1) k s)),0)).2,())),()):=by
   show st81_top n (p81_L8 n n) f (i:Int) (k:Int) s=_
   simp only [st81_top,lt_t hi,ge_t,cond_true,toNat_cast,empty_iff]
   by_cases hk1:(f.getD i d0).1=1
   ·have hk1':=hk1
    simp only [d0] at hk1'
    simp only [hk1,hk1',decide_true,Bool.not_true,cond_false]
    by_cases hk40:(40:Int) < (k:Int)
    ·simp only [hk40,decide_true,cond_true]
    ·have w:IntKind.i64.wrap ((k:Int) + (s.size:Int))=(k:Int) + (s.size:Int):=wr (by omega) (by omega)
     simp only [hk40,decide_false,cond_false,w]
     by_cases hk2:(40:Int) < (k:Int) + (s.size:Int)
     ·simp only [hk2,decide_true,cond_true]
     ·simp only [hk2,decide_false,cond_false]
      by_cases hs0:s.size=0
      ·simp only [hs0,decide_true,cond_true]
      ·simp only [hs0,decide_false,cond_false]
       have hb:=hokF.base i hi10 (by rw [kd,hk1]; decide)
       simp only [baseI,kd,hk1,decide_true,cond_true,Bool.and_eq_true,Bool.not_eq_true',decide_eq_false_iff_not] at hb
       have htx:((f.getD i d0).2.2.2.2.2.2.2.1).size≤40:=by
        have:=hb.2.2.2.2.2.1.1
        simp only [tx] at this
        omega
       exact p81_L8_eq n f i hi k s (by omega) (by omega) _ n _ (Nat.le_trans htx (by omega)) rfl (by omega)
   ·have hk1':=hk1
    simp only [d0] at hk1'
    simp only [hk1,hk1',decide_false,Bool.not_false,cond_true]
  simp only [q81,h81,Option.bind_some,toNat_cast]
theorem p31_L11_eq (n:Nat) (k:Nat) (s:ByteArray) (hs:s.size≤2000000) (hk:k≤40) (i:Nat):∀ (d m:Nat) (f:List Nd),i < f.length→(f.getD i d0).2.2.2.2.2.2.2.1.size≤1000→d=k - (f.getD i d0).2.2.2.2.2.2.2.1.size→d < m →
  p31_L11 n m (k:Int) s i f=some ((f.set i (setTx (f.getD i d0) (wtx (padB d (f.getD i d0).2.2.2.2.2.2.2.1) k s)),(0,())),())
 | _,0,_,_,_,_,h=>by omega
 | d + 1,m + 1,f,hi,ht,hd,hm=>by
  show st31_L11 n (p31_L11 n m) (k:Int) s i f=_
  have e1:decide ((((f.getD i d0).2.2.2.2.2.2.2.1).size:Int) < (k:Int))=true:=decide_eq_true (by omega)
  have hz:(ByteArray.mk #[(0:UInt8)]).size=1:=rfl
  have e2:decide (((f.getD i d0).2.2.2.2.2.2.2.1).size + (ByteArray.mk #[(0:UInt8)]).size≤(9223372036854775807:Nat))=true:=decide_eq_true (by rw [hz]; omega)
  have ih:=p31_L11_eq n k s hs hk i d m (f.set i (setTx (f.getD i d0) ((f.getD i d0).2.2.2.2.2.2.2.1 ++ ByteArray.mk #[(0:UInt8)]))) (by rw [List.length_set]; exact hi)
  have hg:(f.set i (setTx (f.getD i d0) ((f.getD i d0).2.2.2.2.2.2.2.1 ++ ByteArray.mk #[(0:UInt8)]))).getD i d0=setTx (f.getD i d0) ((f.getD i d0).2.2.2.2.2.2.2.1 ++ ByteArray.mk #[(0:UInt8)]):=by rw [getD_set_i,if_pos ⟨rfl,hi⟩]
  rw [hg] at ih
  have ih2:=ih (by show ((f.getD i d0).2.2.2.2.2.2.2.1 ++ ByteArray.mk #[(0:UInt8)]).size≤_; rw [ByteArray.size_append,hz]; omega) (by show d=k - ((f.getD i d0).2.2.2.2.2.2.2.1 ++ ByteArray.mk #[(0:UInt8)]).size; rw [ByteArray.size_append,hz]; omega) (by omega)
  simp only [d0] at e1 e2
  simp only [st31_L11,e1,e2,cond_true]
  refine Eq.trans ih2 ?_
  rw [List.set_set]
  rfl
 | 0,m + 1,f,hi,ht,hd,hm=>by
  show st31_L11 n (p31_L11 n m) (k:Int) s i f=_
  obtain ⟨t,htt⟩:∃ t,(f.getD i d0).2.2.2.2.2.2.2.1=t:=⟨_,rfl⟩
  have htt':=htt
  simp only [d0] at htt'
  rw [htt] at ht hd
  have e1:decide ((t.size:Int) < (k:Int))=false:=decide_eq_false (by omega)
  have e2:decide ((k:Int)≤(t.size:Int))=true:=decide_eq_true (by omega)
  have x1:(t.extract 0 k).size≤1000:=by rw [ByteArray.size_extract]; omega
  have e3:decide ((t.extract (Int.toNat 0) k).size + s.size≤(9223372036854775807:Nat))=true:=decide_eq_true (by show (t.extract 0 k).size + _≤_; omega)
  have x2:(t.extract (k + s.size) t.size).size≤1000:=by rw [ByteArray.size_extract]; omega
  have e6:decide ((t.extract (Int.toNat 0) k ++ s).size + (t.extract (k + s.size) t.size).size≤(9223372036854775807:Nat))=true:=decide_eq_true (by rw [ByteArray.size_append]; show (t.extract 0 k).size + _ + _≤_; omega)
  have hz:(ByteArray.mk #[]).size=0:=rfl
  have e7:decide ((t.extract (Int.toNat 0) k ++ s).size + (ByteArray.mk #[]).size≤(9223372036854775807:Nat))=true:=decide_eq_true (by rw [ByteArray.size_append,hz]; show (t.extract 0 k).size + _ + _≤_; omega)
  simp only [st31_L11,htt',htt,e1,e2,ge_t,cond_true,cond_false,toNat_cast,e3,wr_add (show k + s.size < 4611686018427387904 by omega),e6,e7]
  by_cases hlt:k + s.size < t.size
  ·have y1:decide (((k + s.size:Nat):Int) < (t.size:Int))=true:=decide_eq_true (by omega)
   have y2:decide (((k + s.size:Nat):Int)≤(t.size:Int))=true:=decide_eq_true (by omega)
   have y3:endB t (k + s.size)=t.extract (k + s.size) t.size:=by unfold endB; rw [decide_eq_true hlt]; rfl
   simp only [y1,y2,cond_true,padB,wtx,y3]
   rfl
  ·have y1:decide (((k + s.size:Nat):Int) < (t.size:Int))=false:=decide_eq_false (by omega)
   have y3:endB t (k + s.size)=ByteArray.mk #[]:=by unfold endB; rw [decide_eq_false hlt]; rfl
   simp only [y1,cond_false,padB,wtx,y3]
   rfl
theorem p31_eq (n:Nat) (f:List Nd) (id at_:Int) (s:ByteArray) (hs:s.size≤1048576) (h:SzF 2000000 f) (hn:2000000 < n):p31 n f id at_ s=some (((writeR f id at_ s).1,((writeR f id at_ s).2,())),()):=by
 have h1:=p36_eq' n (show 100 < n by omega) f
 have h3:=p56_eq n f h hn
 show st31_top n (p31_L11 n n) f id at_ s=_
 unfold writeR
 simp only [st31_top,q36,h1,Option.bind_some,q56,h3]
 cases hok:okS f; · rfl
 simp only [Bool.not_true,cond_false,q82,p82_eq n f (okS_len hok),Option.bind_some,Bool.true_and]
 cases hh:hasB f id; · rfl
 obtain ⟨i,rfl,hi,hi10⟩:=hasB_ge hh (okS_len hok)
 have hokF:=(okS_iff f).1 hok
 by_cases hneg:at_ < 0
 ·simp only [hneg,decide_true,cond_true,Bool.not_true,Bool.and_false,cond_false]
 ·obtain ⟨k,rfl⟩:=Int.eq_ofNat_of_zero_le (show 0≤at_ by omega)
  simp only [hneg,decide_false,Bool.not_true,Bool.not_false,Bool.true_and,cond_true,cond_false,lt_t hi,ge_t,toNat_cast,empty_iff]
  by_cases hk1:(f.getD i d0).1=1
  ·have hk1':=hk1
   simp only [d0] at hk1'
   simp only [hk1,hk1',decide_true,Bool.not_true,cond_false]
   by_cases hk40:(40:Int) < (k:Int)
   ·simp only [hk40,decide_true,cond_true]
   ·have w:IntKind.i64.wrap ((k:Int) + (s.size:Int))=(k:Int) + (s.size:Int):=wr (by omega) (by omega)
    simp only [hk40,decide_false,cond_false,w]
    by_cases hk2:(40:Int) < (k:Int) + (s.size:Int)
    ·simp only [hk2,decide_true,cond_true]
    ·simp only [hk2,decide_false,cond_false]
     by_cases hs0:s.size=0
     ·simp only [hs0,decide_true,cond_true]
     ·simp only [hs0,decide_false,cond_false]
      have hb:=hokF.base i hi10 (by rw [kd,hk1]; decide)
      simp only [baseI,kd,hk1,decide_true,cond_true,Bool.and_eq_true,Bool.not_eq_true',decide_eq_false_iff_not] at hb
      have htx:((f.getD i d0).2.2.2.2.2.2.2.1).size≤40:=by
       have:=hb.2.2.2.2.2.1.1
       simp only [tx] at this
       omega
      exact p31_L11_eq n k s (by omega) (by omega) i _ n f hi (Nat.le_trans htx (by omega)) rfl (by omega)
  ·have hk1':=hk1
   simp only [d0] at hk1'
   simp only [hk1,hk1',decide_false,Bool.not_false,cond_true]
theorem writeR_sz {f:List Nd} (h:SzF 2000000 f) (id at_:Int) (s:ByteArray) (hs:s.size≤1048576):SzF 2000000 (writeR f id at_ s).1:=by
 unfold writeR
 cases hok:okS f&&(hasB f id&&!decide (at_ < 0)) with
 | false=>exact SzF.nil _
 | true =>
  simp only [Bool.and_eq_true,Bool.not_eq_true',decide_eq_false_iff_not] at hok
  obtain ⟨i,rfl,hi,hi10⟩:=hasB_ge hok.2.1 (okS_len hok.1)
  have hokF:=(okS_iff f).1 hok.1
  obtain ⟨k,rfl⟩:=Int.eq_ofNat_of_zero_le (show 0≤at_ by omega)
  simp only [cond_true,toNat_cast]
  by_cases hk1:(f.getD i d0).1=1
  ·simp only [hk1,decide_true,Bool.not_true,cond_false]
   cases hk40:decide ((40:Int) < (k:Int)) with
   | true=>exact h
   | false =>
    cases decide ((40:Int) < (k:Int) + (s.size:Int)) with
    | true=>exact h
    | false =>
     cases decide (s.size=0) with
     | true=>exact h
     | false =>
      have hk:=of_decide_eq_false hk40
      have hb:=hokF.base i hi10 (by rw [kd,hk1]; decide)
      simp only [baseI,kd,hk1,decide_true,cond_true,Bool.and_eq_true,Bool.not_eq_true',decide_eq_false_iff_not] at hb
      have htx:((f.getD i d0).2.2.2.2.2.2.2.1).size≤40:=by
       have:=hb.2.2.2.2.2.1.1
       simp only [tx] at this
       omega
      refine h.set ⟨?_,(h.getD hi).nm,(h.getD hi).en⟩
      show (wtx _ _ _).size≤_
      have hp:=padB_size (k - (f.getD i d0).2.2.2.2.2.2.2.1.size) (f.getD i d0).2.2.2.2.2.2.2.1
      have x1:∀ a b,((padB (k - (f.getD i d0).2.2.2.2.2.2.2.1.size) (f.getD i d0).2.2.2.2.2.2.2.1).extract a b).size≤1000:=fun a b=>by rw [ByteArray.size_extract]; omega
      have x2:∀ a,(endB (padB (k - (f.getD i d0).2.2.2.2.2.2.2.1.size) (f.getD i d0).2.2.2.2.2.2.2.1) a).size≤1000:=fun a=>by
       unfold endB
       cases decide (a < (padB (k - (f.getD i d0).2.2.2.2.2.2.2.1.size) (f.getD i d0).2.2.2.2.2.2.2.1).size) with
       | true=>exact x1 _ _
       | false=>show (0:Nat)≤_; omega
      unfold wtx
      rw [ByteArray.size_append,ByteArray.size_append]
      have:=x1 0 k
      have:=x2 (k + s.size)
      omega
  ·simp only [hk1,decide_false,Bool.not_false,cond_true]
   exact h
end Go.Proofs.Ythhopbicmaipgaa.Rx.S

namespace Go.Proofs.Ythhopbicmaipgaa.Rx.S
open Go Go.Proofs.Ythhopbicmaipgaa.Rx.Pu Go.Proofs.Ythhopbicmaipgaa.Rx.Fs
set_option linter.unusedVariables false
set_option linter.unusedSimpArgs false
theorem foldl_size:∀ (l:List Int) (r:ByteArray),(l.foldl (fun (r:ByteArray) (n:Int)=>r.push (UInt8.ofNat n.toNat)) r).size=r.size + l.length
 | [],r=>rfl
 | x :: l,r=>by
  rw [List.foldl_cons,foldl_size l,ByteArray.size_push,List.length_cons]; omega
theorem p88_eq (n:Nat) (o m:Int) (ho:0≤o∧o≤9) (hm:0≤m∧m≤511):p88 n o m=some ((((List.replicate 10 d0).set 0 (2,m,o,o,0,0,false,ByteArray.empty,[])),(true,())),()):=by
 show st88_top n o m=_
 simp only [st88_top,q87,p87_eq,q66,p66_eq,Option.bind_some,ho,hm,and_self,decide_true,Bool.not_true,cond_false]
 rfl
def abc:ByteArray:=ByteArray.mk #[(97:UInt8),(98:UInt8),(99:UInt8),(100:UInt8),(101:UInt8),(102:UInt8),(103:UInt8),(104:UInt8),(48:UInt8),(49:UInt8),(32:UInt8),(46:UInt8)]
theorem p85_L3_eq (n:Nat) {l:List Int} (hl:Bys l):∀ (m k:Nat) (pos:Int) (o:List Int),k≤1000→k < m→0≤pos∧pos + k < 900000→o.length≤1000 - k →
  ∃ (s:ByteArray) (pos':Int),p85_L3 n m (k:Int) l pos o=some ((s,()),((l,pos'),()))∧(pos≤pos'∧pos'≤pos + k)∧s.size≤o.length + k
 | 0,k,pos,o,_,h,_,_=>by omega
 | m + 1,k,pos,o,hk,hm,hp,ho=>by
  show ∃ (s:ByteArray) (pos':Int),st85_L3 n (p85_L3 n m) (k:Int) l pos o=_∧_
  cases k with
  | zero =>
   have h0:decide ((0:Int) < ((0:Nat):Int))=false:=rfl
   simp only [st85_L3,h0,cond_false]
   exact ⟨_,_,rfl,by omega,by rw [foldl_size]; show 0 + _≤_; omega⟩
  | succ k =>
   obtain ⟨v0,hv0,g0,g1⟩:=p51_eq n hl (pos:=pos) (b:=12) (by omega) (by omega)
   have h0:decide ((0:Int) < ((k + 1:Nat):Int))=true:=decide_eq_true (by omega)
   have e1:IntKind.i64.wrap (((k + 1:Nat):Int) - 1)=(k:Int):=(wr (by omega) (by omega)).trans (by omega)
   have e2:decide (v0 < ((abc.size:Nat):Int))=true:=decide_eq_true (by have:abc.size=12:=rfl; omega)
   have e3:∀ x:Int,decide ((o.length + [x].length) * (1:Nat)≤(140737488355328:Nat))=true:=fun x=>decide_eq_true (by simp; omega)
   unfold abc at e2
   simp only [st85_L3,h0,cond_true,q51,hv0,Option.bind_some,g0,decide_true,e2,e3,e1]
   obtain ⟨s,pos',h1,h2,h3⟩:=p85_L3_eq n hl m k (pos + 1) (o ++ [(((ByteArray.mk #[(97:UInt8),(98:UInt8),(99:UInt8),(100:UInt8),(101:UInt8),(102:UInt8),(103:UInt8),(104:UInt8),(48:UInt8),(49:UInt8),(32:UInt8),(46:UInt8)]).data.toList.getD (Int.toNat v0) (0:UInt8)).toNat:Int)]) (by omega) (by omega) (by omega) (by simp; omega)
   exact ⟨s,pos',h1,by omega,by simp at h3; omega⟩
theorem p85_eq (n:Nat) (hn:2000 < n) {l:List Int} (hl:Bys l) {pos:Int} (hp:0≤pos∧pos < 800000) (b:Nat) (hb:b≤900):∃ (s:ByteArray) (pos':Int),p85 n (l,pos) (b:Int)=some ((s,()),((l,pos'),()))∧(pos≤pos'∧pos'≤pos + b + 1)∧s.size≤b:=by
 show ∃ (s:ByteArray) (pos':Int),st85_top n (p85_L3 n n) (l,pos) (b:Int)=_∧_
 obtain ⟨v0,hv0,g0,g1⟩:=p51_eq n hl (pos:=pos) (b:=((b + 1:Nat):Int)) (by omega) (by omega)
 obtain ⟨k,rfl⟩:=Int.eq_ofNat_of_zero_le g0
 simp only [st85_top,q51,succ_wr (show b < 4611686018427387904 by omega),hv0,Option.bind_some]
 obtain ⟨s,pos',h1,h2,h3⟩:=p85_L3_eq n hl n k (pos + 1) [] (by omega) (by omega) (by omega) (by simp)
 exact ⟨s,pos',h1,by omega,by simp at h3; omega⟩
end Go.Proofs.Ythhopbicmaipgaa.Rx.S

namespace Go.Proofs.Ythhopbicmaipgaa.Rx.S
open Go Go.Proofs.Ythhopbicmaipgaa.Rx.Pu Go.Proofs.Ythhopbicmaipgaa.Rx.Fs
set_option linter.unusedVariables false
set_option linter.unusedSimpArgs false
noncomputable def writeD (f:List Nd) (i k:Nat) (s:ByteArray):List Nd × Int :=
 bif !decide ((f.getD i d0).1=1) then (f,4) else bif decide (40 < (k:Int)) then (f,7) else bif decide (40 < (k:Int) + (s.size:Int)) then (f,7) else bif decide (s.size=0) then (f,0) else
   (f.set i (setTx (f.getD i d0) (wtx (padB (k - (f.getD i d0).2.2.2.2.2.2.2.1.size) (f.getD i d0).2.2.2.2.2.2.2.1) k s)),0)
theorem p81_eq (n:Nat) (f:List Nd) (i k:Nat) (s:ByteArray) (h:OkW f) (hi10:i < 10) (hs:s.size≤1048576) (hk:k≤2000000000) (hn:2000000 < n):p81 n f (i:Int) (k:Int) s=some (((writeD f i k s).1,((writeD f i k s).2,())),()):=by
 have hi:i < f.length:=by rw [h.len]; exact hi10
 unfold writeD
 show st81_top n (p81_L8 n n) f (i:Int) (k:Int) s=_
 simp only [st81_top,lt_t hi,ge_t,cond_true,toNat_cast,empty_iff]
 by_cases hk1:(f.getD i d0).1=1
 ·have hk1':=hk1
  simp only [d0] at hk1'
  simp only [hk1,hk1',decide_true,Bool.not_true,cond_false]
  by_cases hk40:(40:Int) < (k:Int)
  ·simp only [hk40,decide_true,cond_true]
  ·have w:IntKind.i64.wrap ((k:Int) + (s.size:Int))=(k:Int) + (s.size:Int):=wr (by omega) (by omega)
   simp only [hk40,decide_false,cond_false,w]
   by_cases hk2:(40:Int) < (k:Int) + (s.size:Int)
   ·simp only [hk2,decide_true,cond_true]
   ·simp only [hk2,decide_false,cond_false]
    by_cases hs0:s.size=0
    ·simp only [hs0,decide_true,cond_true]
    ·simp only [hs0,decide_false,cond_false]
     have htx:((f.getD i d0).2.2.2.2.2.2.2.1).size≤40:=((h.base i hi10 (by rw [kd,hk1]; decide)).2.2.2.1 hk1).1
     exact p81_L8_eq n f i hi k s (by omega) (by omega) _ n _ (Nat.le_trans htx (by omega)) rfl (by omega)
 ·have hk1':=hk1
  simp only [d0] at hk1'
  simp only [hk1,hk1',decide_false,Bool.not_false,cond_true]
theorem wtx_size (t:ByteArray) (k:Nat) (s:ByteArray) (hk:k + s.size≤40) (ht:t.size≤40):(wtx t k s).size≤40:=by
 unfold wtx endB
 rw [ByteArray.size_append,ByteArray.size_append,ByteArray.size_extract]
 cases hd:decide (k + s.size < t.size) with
 | true =>
  have:=of_decide_eq_true hd
  simp only [cond_true,ByteArray.size_extract]
  omega
 | false =>
  simp only [cond_false]
  have:(ByteArray.mk #[]).size=0:=rfl
  omega
theorem writeD_ok {f:List Nd} (h:OkW f) {i:Nat} (hi:i < 10) (k:Nat) (s:ByteArray):OkW (writeD f i k s).1:=by
 unfold writeD
 by_cases hk1:(f.getD i d0).1=1
 ·rw [decide_eq_true hk1]
  simp only [Bool.not_true,cond_false]
  by_cases hk40:(40:Int) < (k:Int)
  ·rw [decide_eq_true hk40]; exact h
  ·rw [decide_eq_false hk40]
   by_cases hk2:(40:Int) < (k:Int) + (s.size:Int)
   ·rw [decide_eq_true hk2]; exact h
   ·rw [decide_eq_false hk2]
    by_cases hs0:s.size=0
    ·rw [decide_eq_true hs0]; exact h
    ·rw [decide_eq_false hs0]
     simp only [cond_false]
     obtain ⟨b1,b2,b3,b4,b5⟩:=h.base i hi (by rw [kd,hk1]; decide)
     have htx:=(b4 hk1).1
     have hsz:(wtx (padB (k - (f.getD i d0).2.2.2.2.2.2.2.1.size) (f.getD i d0).2.2.2.2.2.2.2.1) k s).size≤40:=by
      refine wtx_size _ _ _ (by omega) ?_
      rw [padB_size]
      simp only [tx] at htx
      omega
     refine h.same hi (by rw [kd,hk1]; decide) rfl rfl rfl ⟨b1,b2,b3,fun _=>⟨hsz,(b4 hk1).2⟩,fun h2=>?_⟩ (fun _=>h.live i hi hk1)
     have:(f.getD i d0).1=2:=h2
     omega
 ·rw [decide_eq_false hk1]; exact h
theorem openD_ok {f:List Nd} (h:OkW f) {i:Nat} (hi:i < 10) (hk:kd (f.getD i d0) ≠ 0) (more:Bool):OkW (openD f i more).1:=by
 unfold openD
 obtain ⟨b1,b2,b3,b4,b5⟩:=h.base i hi hk
 have ho:=h.opens i hi
 simp only [op] at ho b3
 cases more with
 | true =>
  simp only [cond_true]
  by_cases h9:99≤(f.getD i d0).2.2.2.2.2.1
  ·rw [decide_eq_true h9]; exact h
  ·rw [decide_eq_false h9]
   simp only [cond_false]
   refine h.same hi hk rfl rfl rfl ⟨b1,b2,?_,b4,b5⟩ (fun hk1 hv=>?_)
   ·show 0≤(f.getD i d0).2.2.2.2.2.1 + 1∧(f.getD i d0).2.2.2.2.2.1 + 1≤99; omega
   ·have:(f.getD i d0).2.2.2.2.2.1 + 1=0:=hv.2
    omega
 | false =>
  simp only [cond_false]
  by_cases h0:(f.getD i d0).2.2.2.2.2.1=0
  ·rw [decide_eq_true h0]; exact h
  ·rw [decide_eq_false h0]
   simp only [cond_false]
   unfold freeN freeB
   have hif:i < f.length:=by rw [h.len]; exact hi
   rw [getD_set_self hif]
   have e1:(setOp (f.getD i d0) ((f.getD i d0).2.2.2.2.2.1 - 1)).2.2.2.2.1=lk (f.getD i d0):=rfl
   have e2:(setOp (f.getD i d0) ((f.getD i d0).2.2.2.2.2.1 - 1)).2.2.2.2.2.1=(f.getD i d0).2.2.2.2.2.1 - 1:=rfl
   rw [e1,e2,List.set_set]
   cases hb:!decide (i=0)&&(decide (lk (f.getD i d0)=0)&&decide ((f.getD i d0).2.2.2.2.2.1 - 1=0)) with
   | true =>
    simp only [Bool.and_eq_true,Bool.not_eq_true',decide_eq_false_iff_not,decide_eq_true_eq] at hb
    simp only [cond_true]
    refine h.gone hi ?_ hb.2.1
    by_cases hk2:kd (f.getD i d0)=2
    ·have:=h.tr.un i hi (decide_eq_true hk2) hb.1
     have:=h.links i hi hk
     omega
    ·omega
   | false =>
    simp only [cond_false]
    refine h.same hi hk rfl rfl rfl ⟨b1,b2,?_,b4,b5⟩ (fun hk1 hv=>?_)
    ·show 0≤(f.getD i d0).2.2.2.2.2.1 - 1∧(f.getD i d0).2.2.2.2.2.1 - 1≤99; omega
    ·have hv1:lk (f.getD i d0)=0:=hv.1
     have hv2:(f.getD i d0).2.2.2.2.2.1 - 1=0:=hv.2
     have hi0:i ≠ 0:=fun e=>by
      subst e
      have:=h.root
      have hk1':kd (f.getD 0 d0)=1:=hk1
      omega
     rw [decide_eq_true hv1,decide_eq_true hv2,decide_eq_false hi0] at hb
     cases hb
end Go.Proofs.Ythhopbicmaipgaa.Rx.S

namespace Go.Proofs.Ythhopbicmaipgaa.Rx.S
open Go Go.Proofs.Ythhopbicmaipgaa.Rx.Pu Go.Proofs.Ythhopbicmaipgaa.Rx.Fs
set_option linter.unusedVariables false
set_option linter.unusedSimpArgs false
theorem OkW.szF {f:List Nd} (h:OkW f):SzF 2000000 f:=⟨by rw [h.len]; omega,fun a ha=>by
 obtain ⟨i,hi,rfl⟩:=List.mem_iff_getElem.1 ha
 rw [← getD_get hi d0]
 rw [h.len] at hi
 refine ⟨?_,by have:=h.nlen i hi; omega,fun e he=>?_⟩
 ·by_cases hk:kd (f.getD i d0)=0
  ·have:=(h.zero i hi hk).2.2.2.2.2.2.2.1; omega
  ·obtain ⟨b1,_,_,b4,b5⟩:=h.base i hi hk
   have:kd (f.getD i d0)=1∨kd (f.getD i d0)=2:=by omega
   rcases this with h1 | h1
   ·have:=(b4 h1).1; omega
   ·have:=(b5 h1).1; omega
 ·have:=((h.entsOk hi).all e he).1
  simp only [nmOk,Bool.and_eq_true,decide_eq_true_eq] at this
  omega⟩
def nl4:List ByteArray:=[ByteArray.mk #[(97:UInt8)],ByteArray.mk #[(98:UInt8)],ByteArray.mk #[(99:UInt8)],ByteArray.mk #[(97:UInt8),(98:UInt8)]]
theorem nl4_ok {v:Int} (h0:0≤v) (h1:v < 4):nmOk (nl4.getD v.toNat ByteArray.empty)=true:=by
 have:v=0∨v=1∨v=2∨v=3:=by omega
 rcases this with h | h | h | h <;> subst h <;> decide
theorem md3 {v:Int} (h0:0≤v) (h1:v < 3):0≤[(493:Int),511,448].getD v.toNat 0∧[(493:Int),511,448].getD v.toNat 0≤511:=by
 have:v=0∨v=1∨v=2:=by omega
 rcases this with h | h | h <;> subst h <;> decide
theorem p89_C10_eq (n:Nat) (hn:2000000 < n) {l:List Int} (hl:Bys l) {pos:Int} (hp:0≤pos∧pos < 700000) (i t:Nat) (hi:i < 10) (ht:t < 10) {f:List Nd} (h:OkW f) (hki:kd (f.getD i d0) ≠ 0) (u r:Int) (g:List Int) (hg:g.length≤4) :
  ∃ (f':List Nd) (pos':Int),p89_C10_0 n (i:Int) (t:Int) l pos u r f g=some ((f',()),((l,pos'),()))∧(pos≤pos'∧pos'≤pos + 20)∧OkW f':=by
 show ∃ (f':List Nd) (pos':Int),st89_C10_0 n (i:Int) (t:Int) l pos u r f g=_∧_
 have hif:i < f.length:=by rw [h.len]; exact hi
 obtain ⟨v7,hv7,a0,a1⟩:=p51_eq n hl (pos:=pos) (b:=4) (by omega) (by omega)
 obtain ⟨v8,hv8,b0,b1⟩:=p51_eq n hl (pos:=pos + 1) (b:=4) (by omega) (by omega)
 obtain ⟨v10,hv10,c0,c1⟩:=p51_eq n hl (pos:=pos + 1 + 1) (b:=10) (by omega) (by omega)
 obtain ⟨w2,hw2,d1,d2⟩:=p51_eq n hl (pos:=pos + 1 + 1 + 1) (b:=2) (by omega) (by omega)
 obtain ⟨w3,hw3,e1,e2⟩:=p51_eq n hl (pos:=pos + 1 + 1 + 1 + 1) (b:=3) (by omega) (by omega)
 obtain ⟨w4,hw4,g1,g2⟩:=p51_eq n hl (pos:=pos + 1 + 1 + 1) (b:=3) (by omega) (by omega)
 obtain ⟨w5,hw5,k1,k2⟩:=p51_eq n hl (pos:=pos + 1 + 1 + 1) (b:=20) (by omega) (by omega)
 obtain ⟨s,ps,hs,hs1,hs2⟩:=p85_eq n (by omega) hl (pos:=pos + 1 + 1 + 1 + 1) (by omega) 9 (by omega)
 have hcp:=p68_eq n f (OkW.szF h) hn
 have hB:=OkW.szB h
 have hlen4:∀ v:Int,v < 4→decide (v < ((nl4.length:Nat):Int))=true:=fun v hv=>decide_eq_true (by have:nl4.length=4:=rfl; omega)
 have q7:=hlen4 v7 a1
 have q8:=hlen4 v8 b1
 have n7:=nl4_ok a0 a1
 have n8:=nl4_ok b0 b1
 have m3:=md3 e1 e2
 have kw:IntKind.i64.wrap (1 + w2)=1 + w2:=wr (by omega) (by omega)
 let c:Cr:=(u,r,g)
 obtain ⟨k5,hk5⟩:=Int.eq_ofNat_of_zero_le k1
 have r67:=p67_eq n f c i (nl4.getD v7.toNat ByteArray.empty) (1 + w2) ([(493:Int),511,448].getD w3.toNat 0) hif hB (by show g.length≤_; omega) hn
 have hlk:=h.links
 have hlt:∀ y,y < 10→0≤lk (f.getD y d0)∧lk (f.getD y d0)≤1000:=fun y hy=>by
  by_cases hk:kd (f.getD y d0)=0
  ·have:=(h.zero y hy hk).2.2.2.2.1; omega
  ·have:=h.links y hy hk; have:=many_le (f:=f) (fun j hj=>h.nlen j hj) y; omega
 have r113:=p113_eq n f c t i (nl4.getD v7.toNat ByteArray.empty) hif (by rw [h.len]; exact ht) hB (by show g.length≤_; omega) (hlt t ht) hn
 have r114:=p114_eq n f c i (nl4.getD v7.toNat ByteArray.empty) h hi (by show g.length≤_; omega) hn
 have r115:=p115_eq n f c i (nl4.getD v7.toNat ByteArray.empty) t (nl4.getD v8.toNat ByteArray.empty) h hi ht (by show g.length≤_; omega) hn
 have ho:=h.opens i hi
 have r83:=p83_eq n f i hif ho.1 ho.2 (decide (0 < w4))
 have r81:=p81_eq n f i k5 s h hi (by omega) (by omega) hn
 have l3:∀ v:Int,v < 3→decide (v < (([(493:Int),511,448].length:Nat):Int))=true:=fun v hv=>decide_eq_true (by simp; omega)
 have l33:=l3 w3 e2
 have o67:=makeD_ok h (c:=c) hi (name:=nl4.getD v7.toNat ByteArray.empty) n7 (kind:=1 + w2) (mode:=[(493:Int),511,448].getD w3.toNat 0) (by omega) m3
 have o113:=linkD_ok h (c:=c) hi ht (name:=nl4.getD v7.toNat ByteArray.empty) n7
 have o114:=dropD_ok h (c:=c) hi (nl4.getD v7.toNat ByteArray.empty)
 have o115:=moveD_ok h (c:=c) hi ht (nl4.getD v7.toNat ByteArray.empty) (other:=nl4.getD v8.toNat ByteArray.empty) n8
 have o83:=openD_ok h hi hki (decide (0 < w4))
 have o81:=writeD_ok h hi k5 s
 unfold nl4 at q7 q8 r67 r113 r114 r115
 simp only [c] at r67 r113 r114 r115
 have hs':p85 n (l,pos + 1 + 1 + 1 + 1) 9=some ((s,()),((l,ps),())):=hs
 simp only [st89_C10_0,q51,hv7,hv8,hv10,hw2,hw3,hw4,hw5,Option.bind_some,a0,b0,e1,decide_true,cond_true,q7,q8,q68,hcp,l33,kw,q67,r67,q113,r113,q114,r114,q115,r115,q83,r83,q85,hs',q81,hk5,r81,ge_t,lt_t hif,toNat_cast]
 cases decide (v10=0) with
 | true=>exact ⟨_,_,rfl,by omega,o67⟩
 | false =>
 cases decide (v10=1) with
 | true=>exact ⟨_,_,rfl,by omega,o67⟩
 | false =>
 cases decide (v10=2) with
 | true=>exact ⟨_,_,rfl,by omega,o67⟩
 | false =>
 cases decide (v10=3) with
 | true=>exact ⟨_,_,rfl,by omega,o113⟩
 | false =>
 cases decide (v10=4) with
 | true=>exact ⟨_,_,rfl,by omega,o114⟩
 | false =>
 cases decide (v10=5) with
 | true=>exact ⟨_,_,rfl,by omega,o115⟩
 | false =>
 cases decide (v10=6) with
 | true=>exact ⟨_,_,rfl,by omega,o83⟩
 | false =>
 cases decide (v10=7) with
 | true =>
  by_cases hk1:kd (f.getD i d0)=1
  ·have hk1':=hk1
   simp only [kd,d0] at hk1'
   simp only [cond_false,cond_true,hk1',decide_true]
   refine ⟨_,_,rfl,by omega,?_⟩
   obtain ⟨b1,b2,b3,b4,b5⟩:=h.base i hi hki
   refine h.same (a:=(1,(f.getD i d0).2.1,(f.getD i d0).2.2.1,(f.getD i d0).2.2.2.1,(f.getD i d0).2.2.2.2.1,(f.getD i d0).2.2.2.2.2.1,decide (w2=0),(f.getD i d0).2.2.2.2.2.2.2)) hi hki hk1.symm rfl rfl ⟨by show (1:Int)≤1∧(1:Int)≤2; omega,b2,b3,fun _=>b4 hk1,fun h2=>?_⟩ (fun _=>h.live i hi hk1)
   exact absurd (show (1:Int)=2 from h2) (by decide)
  ·have hk1':=hk1
   simp only [kd,d0] at hk1'
   simp only [cond_false,cond_true,hk1',decide_false]
   exact ⟨_,_,rfl,by omega,h⟩
 | false=>exact ⟨_,_,rfl,by omega,o81⟩
end Go.Proofs.Ythhopbicmaipgaa.Rx.S

namespace Go.Proofs.Ythhopbicmaipgaa.Rx.S
open Go Go.Proofs.Ythhopbicmaipgaa.Rx.Pu Go.Proofs.Ythhopbicmaipgaa.Rx.Fs
set_option linter.unusedVariables false
set_option linter.unusedSimpArgs false
theorem hasB_kd {f:List Nd} {v:Int} (h:hasB f v=true):∃ i:Nat,v=(i:Int)∧i < 10∧kd (f.getD i d0) ≠ 0:=by
 unfold hasB at h
 simp only [Bool.and_eq_true,decide_eq_true_eq,Bool.not_eq_true',decide_eq_false_iff_not] at h
 exact ⟨v.toNat,by omega,by omega,h.2⟩
theorem p89_eq (n:Nat) (hn:2000000 < n) {l:List Int} (hl:Bys l) {pos:Int} (hp:0≤pos∧pos < 600000) {f:List Nd} (h:OkW f) :
  ∃ (f':List Nd) (pos':Int),p89 n (l,pos) f=some ((f',()),((l,pos'),()))∧(pos≤pos'∧pos'≤pos + 40)∧OkW f':=by
 show ∃ (f':List Nd) (pos':Int),st89_top n (p89_C10_0 n) (l,pos) f=_∧_
 obtain ⟨c,p1,hc,hp1,hg⟩:=p48_eq n (by omega) hl (pos:=pos) (by omega)
 obtain ⟨v1,hv1,_,_⟩:=p51_eq n hl (pos:=p1) (b:=2) (by omega) (by omega)
 obtain ⟨v2,hv2,_,_⟩:=p51_eq n hl (pos:=p1 + 1) (b:=6) (by omega) (by omega)
 obtain ⟨v3,hv3,_,_⟩:=p51_eq n hl (pos:=p1 + 1 + 1) (b:=6) (by omega) (by omega)
 have e2:=p64_eq n f h.len v2
 have e3:=p64_eq n f h.len v3
 have hr:=h.root
 have key:∀ (u:Int),∃ (f':List Nd) (pos':Int),(bif !hasB f v2 then (bif !hasB f v3 then p89_C10_0 n 0 0 l (p1 + 1 + 1 + 1) u c.2.1 f c.2.2 else p89_C10_0 n 0 v3 l (p1 + 1 + 1 + 1) u c.2.1 f c.2.2)
   else (bif !hasB f v3 then p89_C10_0 n v2 0 l (p1 + 1 + 1 + 1) u c.2.1 f c.2.2 else p89_C10_0 n v2 v3 l (p1 + 1 + 1 + 1) u c.2.1 f c.2.2))=some ((f',()),((l,pos'),()))∧(pos≤pos'∧pos'≤pos + 40)∧OkW f':=fun u=>by
  have go:∀ i t:Nat,i < 10→t < 10→kd (f.getD i d0) ≠ 0→∃ (f':List Nd) (pos':Int),p89_C10_0 n (i:Int) (t:Int) l (p1 + 1 + 1 + 1) u c.2.1 f c.2.2=some ((f',()),((l,pos'),()))∧(pos≤pos'∧pos'≤pos + 40)∧OkW f':=fun i t hi ht hk=>by
   obtain ⟨f',pos',a1,a2,a3⟩:=p89_C10_eq n hn hl (pos:=p1 + 1 + 1 + 1) (by omega) i t hi ht h hk u c.2.1 c.2.2 hg
   exact ⟨f',pos',a1,by omega,a3⟩
  cases h2:hasB f v2 with
  | true =>
   obtain ⟨i,rfl,hi,hk⟩:=hasB_kd h2
   cases h3:hasB f v3 with
   | true =>
    obtain ⟨t,rfl,ht,_⟩:=hasB_kd h3
    exact go i t hi ht hk
   | false=>exact go i 0 hi (by omega) hk
  | false =>
   cases h3:hasB f v3 with
   | true =>
    obtain ⟨t,rfl,ht,_⟩:=hasB_kd h3
    exact go 0 t (by omega) ht (by omega)
   | false=>exact go 0 0 (by omega) (by omega) (by omega)
 simp only [st89_top,q48,hc,q51,hv1,hv2,hv3,Option.bind_some,q64,e2,e3]
 cases decide (v1=0) with
 | true=>exact key 0
 | false=>exact key c.1
end Go.Proofs.Ythhopbicmaipgaa.Rx.S

namespace Go.Proofs.Ythhopbicmaipgaa.Rx.S
open Go Go.Proofs.Ythhopbicmaipgaa.Rx.Pu Go.Proofs.Ythhopbicmaipgaa.Rx.Fs
set_option linter.unusedVariables false
set_option linter.unusedSimpArgs false
theorem new_ok (o m:Int) (hm:0≤m∧m≤511):OkW ((List.replicate 10 d0).set 0 (2,m,o,o,0,0,false,ByteArray.empty,[])):=by
 generalize hf:(List.replicate 10 d0).set 0 (2,m,o,o,0,0,false,ByteArray.empty,[])=f
 have hg:∀ j,f.getD j d0=if j=0 then (2,m,o,o,0,0,false,ByteArray.empty,[]) else d0:=fun j=>by
  rw [← hf,getD_set1 (by simp)]
  split
  ·rfl
  ·rw [List.getD_eq_getElem?_getD,List.getElem?_replicate]
   split <;> rfl
 have hn:∀ j,nm (f.getD j d0)=[]:=fun j=>by rw [hg]; split <;> rfl
 have hids:∀ j,ids f j=[]:=fun j=>by simp only [ids,hn]; rfl
 have hm0:∀ x,Gr.many (ids f) 10 x=0:=fun x=>by
  rw [Gr.many_congr (e:=fun _=>[]) (e':=ids f) (fun j _=>by rw [hids])]
  rfl
 refine OkW.of (by rw [← hf]; simp) (by rw [hg]; rfl) (fun j hj hk=>?_) (fun j hj hk=>?_) (fun j hj=>?_) (fun j hj hk=>?_) (fun j hj hk=>?_) (fun x hx hf' hx0=>?_) (fun x hx hf'=>?_)
 ·rw [hg] at hk ⊢
  split
  ·exact ⟨by show (1:Int)≤2∧(2:Int)≤2; omega,hm,by show (0:Int)≤0∧(0:Int)≤99; omega,fun _=>⟨Nat.zero_le _,rfl⟩,fun _=>⟨rfl,rfl,Nat.zero_le _⟩⟩
  ·rename_i e; rw [if_neg e] at hk; exact absurd rfl hk
 ·rw [hg] at hk ⊢
  split
  ·rename_i e; rw [if_pos e] at hk; cases hk
  ·exact zr_d0
 ·rw [hn]; exact ⟨fun e he=>(List.not_mem_nil he).elim,List.Pairwise.nil⟩
 ·rw [hm0,hg]
  split <;> rfl
 ·rw [hg] at hk
  split at hk <;> cases hk
 ·simp only [fold,hg,if_neg hx0] at hf'
  cases hf'
 ·by_cases e:x=0
  ·subst e; exact ⟨0,.root⟩
  ·simp only [fold,hg,if_neg e] at hf'
   cases hf'
theorem p50_eq (n:Nat) {l:List Int} (hl:Bys l) {pos:Int} (hp:0≤pos∧pos < 900000):∃ (s:ByteArray) (pos':Int),p50 n (l,pos)=some ((s,()),((l,pos'),()))∧(pos≤pos'∧pos'≤pos + 2)∧s.size≤10:=by
 show ∃ (s:ByteArray) (pos':Int),st50_top n (l,pos)=_∧_
 obtain ⟨v0,hv0,g0,g1⟩:=p51_eq n hl (pos:=pos) (b:=24) (by omega) (by omega)
 obtain ⟨v1,hv1,g2,g3⟩:=p51_eq n hl (pos:=pos + 1) (b:=5) (by omega) (by omega)
 obtain ⟨v2,hv2,g4,g5⟩:=p51_eq n hl (pos:=pos + 1) (b:=4) (by omega) (by omega)
 have e5:∀ (a b c d e:ByteArray),decide (v1 < (([a,b,c,d,e].length:Nat):Int))=true:=fun _ _ _ _ _=>decide_eq_true (by simp; omega)
 have e4:∀ (a b c d:ByteArray),decide (v2 < (([a,b,c,d].length:Nat):Int))=true:=fun _ _ _ _=>decide_eq_true (by simp; omega)
 simp only [st50_top,q51,hv0,hv1,hv2,Option.bind_some,g2,g4,decide_true,cond_true,e5,e4]
 cases decide (v0=0) with
 | true =>
  refine ⟨_,_,rfl,by omega,?_⟩
  have:v1=0∨v1=1∨v1=2∨v1=3∨v1=4:=by omega
  rcases this with h | h | h | h | h <;> subst h <;> decide
 | false =>
  refine ⟨_,_,rfl,by omega,?_⟩
  have:v2=0∨v2=1∨v2=2∨v2=3:=by omega
  rcases this with h | h | h | h <;> subst h <;> decide
theorem p47_L3_eq (n:Nat) (hn:2000000 < n) {l:List Int} (hl:Bys l):∀ (m k:Nat) (pos:Int) (f:List Nd),k≤100→k < m→0≤pos∧pos + 50 * k < 500000→OkW f →
  ∃ (f':List Nd) (pos':Int),p47_L3 n m (k:Int) l pos f=some ((f',()),((l,pos'),()))∧(pos≤pos'∧pos'≤pos + 50 * k + 10)∧SzF 2000000 f'
 | 0,k,pos,f,_,h,_,_=>by omega
 | m + 1,k,pos,f,hk,hm,hp,h=>by
  show ∃ (f':List Nd) (pos':Int),st47_L3 n (p47_L3 n m) (k:Int) l pos f=_∧_
  cases k with
  | succ k =>
   obtain ⟨f1,p1,h1,h2,h3⟩:=p89_eq n hn hl (pos:=pos) (by omega) h
   have h0:decide ((0:Int) < ((k + 1:Nat):Int))=true:=decide_eq_true (by omega)
   have e1:IntKind.i64.wrap (((k + 1:Nat):Int) - 1)=(k:Int):=(wr (by omega) (by omega)).trans (by omega)
   simp only [st47_L3,h0,cond_true,q89,h1,Option.bind_some,e1]
   obtain ⟨f',pos',a1,a2,a3⟩:=p47_L3_eq n hn hl m k p1 f1 (by omega) (by omega) (by omega) h3
   exact ⟨f',pos',a1,by omega,a3⟩
  | zero =>
   have h0:decide ((0:Int) < ((0:Nat):Int))=false:=rfl
   obtain ⟨v6,hv6,_,_⟩:=p51_eq n hl (pos:=pos) (b:=24) (by omega) (by omega)
   obtain ⟨a,ha,a0,a1⟩:=p51_eq n hl (pos:=pos + 1) (b:=5) (by omega) (by omega)
   obtain ⟨b3,hb3,_,_⟩:=p51_eq n hl (pos:=pos + 1 + 1) (b:=3) (by omega) (by omega)
   obtain ⟨b5,hb5,c0,c1⟩:=p51_eq n hl (pos:=pos + 1 + 1) (b:=5) (by omega) (by omega)
   obtain ⟨b4,hb4,d0',d1⟩:=p51_eq n hl (pos:=pos + 1 + 1) (b:=4) (by omega) (by omega)
   obtain ⟨s,ps,hs,hs1,hs2⟩:=p50_eq n hl (pos:=pos + 1 + 1 + 1) (by omega)
   obtain ⟨w,hw,_,_⟩:=p51_eq n hl (pos:=ps) (b:=11) (by omega) (by omega)
   have hz:=OkW.szF h
   have hlen:=h.len
   obtain ⟨ia,rfl⟩:=Int.eq_ofNat_of_zero_le a0
   obtain ⟨ib,rfl⟩:=Int.eq_ofNat_of_zero_le c0
   have la:ia < f.length:=by omega
   have lb:ib < f.length:=by omega
   have hnb:=h.nlen ib (by omega)
   have e24:decide (((nm (f.getD ib d0)).length + [(s,w)].length) * (24:Nat)≤(140737488355328:Nat))=true:=decide_eq_true (by simp only [List.length_cons,List.length_nil]; omega)
   have e4:decide (b4 < (([(99:Int),100,-1,0].length:Nat):Int))=true:=decide_eq_true (by simp; omega)
   have e1:decide ((1:Int)≤(f.length:Int))=true:=decide_eq_true (by omega)
   have hga:=hz.getD la
   have hgb:=hz.getD lb
   simp only [nm,d0] at e24
   simp only [st47_L3,h0,cond_false,q51,hv6,ha,hb3,hb5,hb4,hw,q50,hs,Option.bind_some,ge_t,lt_t la,lt_t lb,cond_true,toNat_cast,e24,d0',decide_true,e4,e1]
   cases decide (v6=0) with
   | true=>exact ⟨_,_,rfl,by omega,hz.set ⟨hga.tx,hga.nm,hga.en⟩⟩
   | false =>
   cases decide (v6=1) with
   | true =>
    refine ⟨_,_,rfl,by omega,hz.set ⟨hga.tx,?_,fun e he=>?_⟩⟩
    ·show ((nm (f.getD ib d0)) ++ [(s,w)]).length≤_
     rw [List.length_append,List.length_singleton]; omega
    ·have he':e ∈ (nm (f.getD ib d0)) ++ [(s,w)]:=he
     rcases List.mem_append.1 he' with he' | he'
     ·exact hgb.en e he'
     ·rw [List.mem_singleton.1 he']; show s.size≤_; omega
   | false =>
   cases decide (v6=2) with
   | true=>exact ⟨_,_,rfl,by omega,hz.set ⟨hga.tx,hga.nm,hga.en⟩⟩
   | false =>
   cases decide (v6=3) with
   | true =>
    refine ⟨_,_,rfl,by omega,⟨?_,fun x hx=>hz.nd x (List.mem_of_mem_drop (List.mem_of_mem_take hx))⟩⟩
    simp only [List.length_take,List.length_drop]; omega
   | false =>
   cases decide (v6=4) with
   | true=>exact ⟨_,_,rfl,by omega,hz.set ⟨hga.tx,hga.nm,hga.en⟩⟩
   | false=>exact ⟨_,_,rfl,by omega,hz⟩
theorem p47_eq (n:Nat) (hn:2000000 < n) {l:List Int} (hl:Bys l) {pos:Int} (hp:0≤pos∧pos < 100000) :
  ∃ (f:List Nd) (pos':Int),p47 n (l,pos)=some ((f,()),((l,pos'),()))∧(pos≤pos'∧pos'≤pos + 1000)∧SzF 2000000 f:=by
 show ∃ (f:List Nd) (pos':Int),st47_top n (p47_L3 n n) (l,pos)=_∧_
 obtain ⟨v0,hv0,g0,g1⟩:=p51_eq n hl (pos:=pos) (b:=3) (by omega) (by omega)
 obtain ⟨v1,hv1,g2,g3⟩:=p51_eq n hl (pos:=pos + 1) (b:=3) (by omega) (by omega)
 obtain ⟨v2,hv2,g4,g5⟩:=p51_eq n hl (pos:=pos + 1 + 1) (b:=16) (by omega) (by omega)
 have e3:decide (v1 < (([(493:Int),511,448].length:Nat):Int))=true:=decide_eq_true (by simp; omega)
 have hm:=md3 g2 g3
 have h88:=p88_eq n v0 ([(493:Int),511,448].getD v1.toNat 0) (by omega) hm
 obtain ⟨k,rfl⟩:=Int.eq_ofNat_of_zero_le g4
 simp only [st47_top,q51,hv0,hv1,hv2,Option.bind_some,g2,decide_true,cond_true,e3,q88,h88]
 obtain ⟨f,pos',a1,a2,a3⟩:=p47_L3_eq n hn hl n k (pos + 1 + 1 + 1) _ (by omega) (by omega) (by omega) (new_ok v0 _ hm)
 exact ⟨f,pos',a1,by omega,a3⟩
end Go.Proofs.Ythhopbicmaipgaa.Rx.S

namespace Go.Proofs.Ythhopbicmaipgaa.Rx.S
open Go Go.Proofs.Ythhopbicmaipgaa.Rx.Pu Go.Proofs.Ythhopbicmaipgaa.Rx.Fs
set_option linter.unusedVariables false
set_option linter.unusedSimpArgs false
theorem bb (b:Bool):(!(b == b))=false:=by cases b <;> rfl
theorem bb2 (b:Bool):(!b == b)=false:=by cases b <;> rfl
theorem p69_refl (n:Nat) (a:Nd) (hl:(nm a).length≤2000000) (hn:(nm a).length < n):p69 n a a=some ((true,()),()):=by
 show st69_top n (p69_L4 n n) a a=_
 simp only [st69_top,decide_true,Bool.not_true,cond_false,beq_self_eq_true,bb2]
 exact round_loop (F:=fun k i=>p69_L4 n k i a.1 a.2.1 a.2.2.1 a.2.2.2.1 a.2.2.2.2.1 a.2.2.2.2.2.1 a.2.2.2.2.2.2.1 a.2.2.2.2.2.2.2.1 (nm a) a.1 a.2.1 a.2.2.1 a.2.2.2.1 a.2.2.2.2.1 a.2.2.2.2.2.1 a.2.2.2.2.2.2.1 a.2.2.2.2.2.2.2.1 (nm a)) (r:=some ((true,()),())) (nm a).length (fun k i hi=>by
  show st69_L4 n (p69_L4 n k) i a.1 a.2.1 a.2.2.1 a.2.2.2.1 a.2.2.2.2.1 a.2.2.2.2.2.1 a.2.2.2.2.2.2.1 a.2.2.2.2.2.2.2.1 (nm a) a.1 a.2.1 a.2.2.1 a.2.2.2.1 a.2.2.2.2.1 a.2.2.2.2.2.1 a.2.2.2.2.2.2.1 a.2.2.2.2.2.2.2.1 (nm a)=_
  simp only [st69_L4,lt_t hi,ge_t,cond_true,toNat_cast,beq_self_eq_true,decide_true,Bool.and_true,Bool.not_true,cond_false]
  rw [wr_succ (by omega)]) (fun k=>by
  show st69_L4 n (p69_L4 n k) ((nm a).length:Int) a.1 a.2.1 a.2.2.1 a.2.2.2.1 a.2.2.2.2.1 a.2.2.2.2.2.1 a.2.2.2.2.2.2.1 a.2.2.2.2.2.2.2.1 (nm a) a.1 a.2.1 a.2.2.1 a.2.2.2.1 a.2.2.2.2.1 a.2.2.2.2.2.1 a.2.2.2.2.2.2.1 a.2.2.2.2.2.2.2.1 (nm a)=_
  simp only [st69_L4,lt_f,cond_false]) (nm a).length n 0 (by omega) hn
theorem p18_refl (n:Nat) (l:List Nd) (h:SzF 2000000 l) (hn:2000000 < n):p18 n l l=some ((true,()),()):=by
 have hlen:=h.len
 show st18_top n (p18_L4 n n) l l=_
 simp only [st18_top,decide_true,Bool.not_true,cond_false]
 exact round_loop (F:=fun k i=>p18_L4 n k i l l) (r:=some ((true,()),())) l.length (fun k i hi=>by
  show st18_L4 n (p18_L4 n k) i l l=_
  have hc:=p69_refl n (l.getD i d0) (h.nd _ (getD_mem hi d0)).nm (by have:=(h.nd _ (getD_mem hi d0)).nm; omega)
  simp only [d0] at hc
  simp only [st18_L4,lt_t hi,ge_t,cond_true,toNat_cast,q69,hc,Option.bind_some,Bool.not_true,cond_false]
  rw [wr_succ (by omega)]) (fun k=>by
  show st18_L4 n (p18_L4 n k) l.length l l=_
  simp only [st18_L4,lt_f,cond_false]) l.length n 0 (by omega) (by omega)
end Go.Proofs.Ythhopbicmaipgaa.Rx.S

namespace Go.Proofs.Ythhopbicmaipgaa.Rx.S
open Go Go.Proofs.Ythhopbicmaipgaa.Rx.Pu Go.Proofs.Ythhopbicmaipgaa.Rx.Fs
set_option linter.unusedVariables false
set_option linter.unusedSimpArgs false
theorem own_set {f:List Nd} (h:OkF f) {i:Nat} (hi:i < 10) {a:Nd} (ho:kd a ≠ 0→ownW a):∀ j,j < 10→kd ((f.set i a).getD j d0) ≠ 0→ownW ((f.set i a).getD j d0):=fun j hj hk=>by
 rw [getD_set1 (by rw [h.len]; exact hi)] at hk ⊢
 split
 ·rename_i e; rw [if_pos e] at hk; exact ho hk
 ·rename_i e; rw [if_neg e] at hk; exact ((okW_iff f).1 h).2 j hj hk
end Go.Proofs.Ythhopbicmaipgaa.Rx.S

namespace Go.Proofs.Ythhopbicmaipgaa.Rx.S
open Go Go.Proofs.Ythhopbicmaipgaa.Rx.Pu Go.Proofs.Ythhopbicmaipgaa.Rx.Fs
set_option linter.unusedVariables false
theorem u8_wf {x:Int} (h:(Lit.int .u8 x).wf=true):0≤x∧x < 256:=by
 simp only [Lit.wf,Bool.and_eq_true,decide_eq_true_eq,IntKind.min,IntKind.max,IntKind.signed,IntKind.bits,Bool.false_eq_true,if_false] at h
 omega
theorem bytes_wf {xs:List Int} (h:WfT (.row 5 (.int .u8)) xs):∀ x ∈ xs,0≤x∧x < 256:=fun x hx=>u8_wf (h.2 x hx)
end Go.Proofs.Ythhopbicmaipgaa.Rx.S

namespace Go.Proofs.Ythhopbicmaipgaa.Rx.S
open Go Go.Proofs.Ythhopbicmaipgaa.Rx.Pu Go.Proofs.Ythhopbicmaipgaa.Rx.Fs
set_option linter.unusedVariables false
set_option linter.unusedSimpArgs false
end Go.Proofs.Ythhopbicmaipgaa.Rx.S
namespace Go.Proofs.Ythhopbicmaipgaa.Rx.Fs
open Go Go.Proofs.Ythhopbicmaipgaa.Rx Go.Proofs.Ythhopbicmaipgaa.Rx.S Go.Proofs.Ythhopbicmaipgaa.Rx.Pu
theorem OkF.setS {f:List Nd} (h:OkF f) {i:Nat} (hi:i < 10) {a:Nd} (hk0:kd (f.getD i d0) ≠ 0) (hk:kd a=kd (f.getD i d0)) (hl:lk a=lk (f.getD i d0)) (hn:nm a=nm (f.getD i d0)) (hb:baseW a) (hp:op a=op (f.getD i d0)) (ho:ownW a):OkF (f.set i a) :=
 (okW_iff _).2 ⟨h.toW.same hi hk0 hk hl hn hb (fun h1=>by rw [hl,hp]; exact h.live i hi (hk ▸ h1)),own_set h hi (fun _=>ho)⟩
end Go.Proofs.Ythhopbicmaipgaa.Rx.Fs
namespace Go.Proofs.Ythhopbicmaipgaa.Rx.S
open Go Go.Proofs.Ythhopbicmaipgaa.Rx.Pu Go.Proofs.Ythhopbicmaipgaa.Rx.Fs
end Go.Proofs.Ythhopbicmaipgaa.Rx.S

namespace Go.Proofs.Ythhopbicmaipgaa.Rx.S
open Go Go.Proofs.Ythhopbicmaipgaa.Rx.Pu Go.Proofs.Ythhopbicmaipgaa.Rx.Fs
set_option linter.unusedVariables false
set_option linter.unusedSimpArgs false
theorem p34_eq (n:Nat) (hn:2000000 < n) {l:List Int} (hl:∀ x ∈ l,0≤x∧x < 256):∃ (f:List Nd) (id at_:Int) (s:ByteArray),p34 n l=some ((f,(id,(at_,(s,())))),())∧SzF 2000000 f∧(-1≤at_∧at_≤41)∧s.size≤12:=by
 show ∃ (f:List Nd) (id at_:Int) (s:ByteArray),st34_top n l=_∧_
 obtain ⟨l',h1,hb⟩:=p46_eq n hl
 obtain ⟨f,p1,h2,h3,h4⟩:=p47_eq n hn hb (pos:=0) (by omega)
 obtain ⟨id,p2,h5,h6,_⟩:=p49_eq n hb (pos:=p1) (by omega)
 obtain ⟨v,hv,h7,h8⟩:=p51_eq n hb (pos:=p2) (b:=8) (by omega) (by omega)
 obtain ⟨s,p3,h9,h10,h11⟩:=p85_eq n (by omega) hb (pos:=p2 + 1) (by omega) 12 (by omega)
 have h9':p85 n (l',p2 + 1) (12:Int)=some ((s,()),((l',p3),())):=h9
 have hv0:decide ((0:Int)≤v)=true:=decide_eq_true (by omega)
 have hv1:decide (v < (([(0:Int),(1:Int),(5:Int),(12:Int),(30:Int),(40:Int),(41:Int),(-1:Int)].length:Nat):Int))=true:=decide_eq_true (show v < ((8:Nat):Int) by omega)
 simp only [st34_top,q46,h1,q47,h2,q49,h5,q51,hv,hv0,hv1,cond_true,q85,h9',Option.bind_some]
 refine ⟨_,_,_,_,rfl,h4,?_,h11⟩
 have:v=0∨v=1∨v=2∨v=3∨v=4∨v=5∨v=6∨v=7:=by omega
 rcases this with rfl | rfl | rfl | rfl | rfl | rfl | rfl | rfl <;> decide
def bl (t:ByteArray):List UInt8:=t.data.toList
theorem bl_len (t:ByteArray):(bl t).length=t.size:=by show t.data.toList.length=t.data.size; exact Array.length_toList
theorem bl_app (a b:ByteArray):bl (a ++ b)=bl a ++ bl b:=by simp [bl,ByteArray.data_append]
theorem bl_ext (a:ByteArray) (i j:Nat):bl (a.extract i j)=((bl a).take j).drop i:=by simp [bl,ByteArray.data_extract,List.drop_take]
theorem bl_inj {a b:ByteArray} (h:bl a=bl b):a=b:=by
 cases a; cases b
 congr 1
 exact Array.toList_inj.1 h
theorem bl_pad:∀ (d:Nat) (t:ByteArray),bl (padB d t)=bl t ++ List.replicate d 0
 | 0,t=>by simp [padB]
 | d + 1,t=>by
  rw [padB,bl_pad d,bl_app]
  show (bl t ++ [0]) ++ List.replicate d 0=_
  rw [List.append_assoc]
  rfl
def wr1 (t:ByteArray) (k:Nat) (s:ByteArray):ByteArray:=bif decide (s.size=0) then t else wtx (padB (k - t.size) t) k s
def wrL (t:List UInt8) (k:Nat) (s:List UInt8):List UInt8:=((t ++ List.replicate (k - t.length) 0).take k ++ s) ++ (t ++ List.replicate (k - t.length) 0).drop (k + s.length)
theorem bl_end (t:ByteArray) (k:Nat):bl (endB t k)=(bl t).drop k:=by
 unfold endB
 by_cases h:k < t.size
 ·rw [decide_eq_true h,cond_true,bl_ext,← bl_len,List.take_length]
 ·rw [decide_eq_false h,cond_false,List.drop_eq_nil_of_le (by rw [bl_len]; omega)]; rfl
theorem bl_wr (t:ByteArray) (k:Nat) (s:ByteArray) (h:s.size ≠ 0):bl (wr1 t k s)=wrL (bl t) k (bl s):=by
 unfold wr1
 rw [decide_eq_false h,cond_false,wtx,bl_app,bl_app,bl_ext,bl_end,bl_pad,List.drop_zero,wrL,bl_len,bl_len]
theorem wrL_len (t:List UInt8) (k:Nat) (s:List UInt8):(wrL t k s).length=max t.length (k + s.length):=by
 simp only [wrL,List.length_append,List.length_take,List.length_drop,List.length_replicate]
 omega
theorem wrL_get (t:List UInt8) (k:Nat) (s:List UInt8) (j:Nat):(wrL t k s).getD j 0=if k≤j∧j < k + s.length then s.getD (j - k) 0 else t.getD j 0:=by
 have hp:∀ j,(t ++ List.replicate (k - t.length) 0).getD j 0=t.getD j 0:=fun j=>by
  simp only [List.getD_eq_getElem?_getD,List.getElem?_append]
  split
  ·rfl
  ·rename_i h
   rw [List.getElem?_eq_none (show t.length≤j by omega),List.getElem?_replicate]
   split <;> rfl
 have hl:((t ++ List.replicate (k - t.length) 0).take k).length=k:=by simp; omega
 have hg:∀ (l r:List UInt8) (j:Nat),(l ++ r).getD j 0=if j < l.length then l.getD j 0 else r.getD (j - l.length) 0:=fun l r j=>by
  simp only [List.getD_eq_getElem?_getD,List.getElem?_append]
  split <;> rfl
 unfold wrL
 rw [hg,List.length_append,hl]
 by_cases h1:j < k + s.length
 ·rw [if_pos h1,hg,hl]
  by_cases h2:j < k
  ·rw [if_pos h2,if_neg (by omega),← hp j]
   simp only [List.getD_eq_getElem?_getD,List.getElem?_take,h2,if_true]
  ·rw [if_neg h2,if_pos ⟨by omega,h1⟩]
 ·rw [if_neg h1,if_neg (by omega),← hp j]
  simp only [List.getD_eq_getElem?_getD,List.getElem?_drop]
  rw [show k + s.length + (j - (k + s.length))=j by omega]
theorem getD_ext {l r:List UInt8} (hl:l.length=r.length) (h:∀ j,l.getD j 0=r.getD j 0):l=r:=by
 apply List.ext_getElem hl
 intro j h1 h2
 have:=h j
 simp only [List.getD_eq_getElem?_getD,List.getElem?_eq_getElem h1,List.getElem?_eq_getElem h2,Option.getD_some] at this
 exact this
theorem writeR_zero {f:List Nd} {id at_:Int} {s:ByteArray} (h:(writeR f id at_ s).2=0):∃ i k:Nat,id=(i:Int)∧at_=(k:Int)∧i < 10∧OkF f∧(f.getD i d0).1=1∧k + s.size≤40 ∧
  (writeR f id at_ s).1=f.set i (setTx (f.getD i d0) (wr1 (tx (f.getD i d0)) k s)):=by
 unfold writeR at h ⊢
 cases hok:okS f&&(hasB f id&&!decide (at_ < 0)) with
 | false=>rw [hok] at h; exact absurd h (show ¬ (1:Int)=0 by decide)
 | true =>
  rw [hok] at h
  simp only [Bool.and_eq_true,Bool.not_eq_true',decide_eq_false_iff_not] at hok
  obtain ⟨i,rfl,hi,hk⟩:=hasB_kd hok.2.1
  obtain ⟨k,rfl⟩:=Int.eq_ofNat_of_zero_le (show 0≤at_ by omega)
  have hF:=(okS_iff f).1 hok.1
  have hif:i < f.length:=by rw [hF.len]; exact hi
  simp only [cond_true,toNat_cast] at h ⊢
  by_cases hk1:(f.getD i d0).1=1
  ·rw [decide_eq_true hk1] at h ⊢
   simp only [Bool.not_true,cond_false] at h ⊢
   by_cases h2:(40:Int) < (k:Int)
   ·rw [decide_eq_true h2] at h; exact absurd h (show ¬ (7:Int)=0 by decide)
   rw [decide_eq_false h2] at h ⊢
   simp only [cond_false] at h ⊢
   by_cases h3:(40:Int) < (k:Int) + (s.size:Int)
   ·rw [decide_eq_true h3] at h; exact absurd h (show ¬ (7:Int)=0 by decide)
   rw [decide_eq_false h3] at h ⊢
   simp only [cond_false] at h ⊢
   refine ⟨i,k,rfl,rfl,hi,hF,hk1,by omega,?_⟩
   unfold wr1
   by_cases h4:s.size=0
   ·rw [decide_eq_true h4]
    simp only [cond_true]
    exact (set_self d0 hif).symm
   ·rw [decide_eq_false h4]; rfl
  ·rw [decide_eq_false hk1] at h; exact absurd h (show ¬ (4:Int)=0 by decide)
end Go.Proofs.Ythhopbicmaipgaa.Rx.S

namespace Go.Proofs.Ythhopbicmaipgaa.Rx.S
open Go Go.Proofs.Ythhopbicmaipgaa.Rx.Pu Go.Proofs.Ythhopbicmaipgaa.Rx.Fs
set_option linter.unusedVariables false
set_option linter.unusedSimpArgs false
def cb (b:UInt8):Int:=(b.toNat:Int)
theorem bl_foldl:∀ (L:List UInt8) (acc:ByteArray),bl ((L.map cb).foldl (fun (r:ByteArray) (n:Int)=>r.push (UInt8.ofNat n.toNat)) acc)=bl acc ++ L
 | [],acc=>by simp
 | b :: L,acc=>by
  rw [List.map_cons,List.foldl_cons,bl_foldl L]
  have e:UInt8.ofNat (cb b).toNat=b:=by show UInt8.ofNat ((b.toNat:Int)).toNat=b; rw [Int.toNat_natCast]; exact UInt8.ofNat_toNat
  rw [e]
  have:bl (acc.push b)=bl acc ++ [b]:=by simp [bl,ByteArray.push]
  rw [this,List.append_assoc]
  rfl
theorem wr1_len (t:ByteArray) (k:Nat) (s:ByteArray):(wr1 t k s).size=if s.size=0 then t.size else max t.size (k + s.size):=by
 by_cases h:s.size=0
 ·rw [if_pos h]; unfold wr1; rw [decide_eq_true h]; rfl
 ·rw [if_neg h,← bl_len,bl_wr _ _ _ h,wrL_len,bl_len,bl_len]
theorem wr1_get (t:ByteArray) (k:Nat) (s:ByteArray) (j:Nat):(bl (wr1 t k s)).getD j 0=if k≤j∧j < k + s.size then (bl s).getD (j - k) 0 else (bl t).getD j 0:=by
 by_cases h:s.size=0
 ·rw [if_neg (by omega)]; unfold wr1; rw [decide_eq_true h]; rfl
 ·rw [bl_wr _ _ _ h,wrL_get,bl_len]
theorem p37_eq (n:Nat) (hn:100 < n) (f:List Nd) (i:Nat) (hF:OkF f) (hi:i < 10) (hk:kd (f.getD i d0)=1):p37 n f i 0 40=some ((tx (f.getD i d0),(0,())),()):=by
 have t1:=p36_eq' n hn f
 have t2:=p82_eq n f hF.len i
 have hh:hasB f (i:Int)=true:=by
  unfold hasB
  rw [toNat_cast,show (f.getD i d0).1=1 from hk,decide_eq_true (show 0≤(i:Int)∧(i:Int)≤9 by omega)]
  rfl
 have hif:i < f.length:=by rw [hF.len]; exact hi
 obtain ⟨b1,b2,b3,b4,b5⟩:=hF.toW.base i hi (by rw [hk]; decide)
 have hsz:=(b4 hk).1
 have hsz2:(f.getD i d0).2.2.2.2.2.2.2.1.size≤40:=hsz
 have hk1:(f.getD i d0).1=1:=hk
 show st37_top n f i 0 40=_
 obtain ⟨z,hz⟩:∃ z:Nat,(f.getD i d0).2.2.2.2.2.2.2.1.size=z:=⟨_,rfl⟩
 have e1:¬ ((z:Int) < 0):=by omega
 have e2:IntKind.i64.wrap ((z:Int) - 0)=z:=(wr (x:=(z:Int) - 0) (by omega) (by omega)).trans (by omega)
 have e3:(if (z:Int) < 40 then (z:Int) else 40)=z:=by split <;> omega
 have e4:IntKind.i64.wrap (0 + (z:Int))=z:=(wr (x:=0 + (z:Int)) (by omega) (by omega)).trans (by omega)
 have e5:¬ ((40:Int) < 0):=by decide
 have e6:¬ ((0:Int) < 0):=by decide
 simp only [st37_top,q36,t1,(okS_iff f).2 hF,Option.bind_some,Bool.not_true,cond_false,q82,t2,hh,lt_t hif,ge_t,toNat_cast,hk1,hz,e1,e2,e3,e4,e5,e6,if_false,decide_true,decide_false,cond_true,Int.le_refl]
 congr 3
 apply bl_inj
 rw [bl_ext,← hz,← bl_len,List.take_length]
 rfl
theorem getD_setB {V:List UInt8} {p j:Nat} {b:UInt8} (h:p < V.length):(V.set p b).getD j 0=if p=j then b else V.getD j 0:=by
 rw [List.getD_eq_getElem?_getD,List.getElem?_set]
 split
 ·rename_i e; subst e; first | rfl | (rw [if_pos h]; rfl)
 ·rw [List.getD_eq_getElem?_getD]
theorem p9_L17_eq (n:Nat) (hn:100 < n) (k:Nat) (hk:k≤100) (s t nw:ByteArray) (g:List Nd) (hs:s.size≤100) (hok:okS g=true) (hnw:∀ j,(bl nw).getD j 0=if k≤j∧j < k + s.size then (bl s).getD (j - k) 0 else (bl t).getD j 0) :
  ∀ (m i:Nat) (V:List UInt8),i≤s.size→s.size - i < m→V.length=(bl nw).length→(s.size ≠ 0→k + s.size≤V.length)→(∀ j,V.getD j 0=if k≤j∧j < k + i then (bl s).getD (j - k) 0 else (bl t).getD j 0) →
   p9_L17 n m k s nw 0 i (V.map cb) g=some ((true,()),())
 | 0,i,V,_,h,_,_,_=>by omega
 | m + 1,i,V,hi,h,hl,hr,hv=>by
  show st9_L17 n (p9_L17 n m) k s nw 0 i (V.map cb) g=_
  by_cases h1:i < s.size
  ·have w1:IntKind.i64.wrap ((k:Int) + (i:Int))=((k + i:Nat):Int):=wr_add (by omega)
   have hlt:k + i < (V.map cb).length:=by rw [List.length_map]; have:=hr (by omega); omega
   have hlt':k + i < V.length:=by rw [List.length_map] at hlt; exact hlt
   simp only [st9_L17,lt_t h1,ge_t,cond_true,w1,lt_t hlt,toNat_cast]
   rw [wr (x:=(i:Int) + 1) (by omega) (by omega),show (i:Int) + 1=((i + 1:Nat):Int) by omega]
   have e:(V.map cb).set (k + i) ((s.data.toList.getD i 0).toNat:Int)=(V.set (k + i) ((bl s).getD i 0)).map cb:=by rw [List.map_set]; rfl
   rw [e]
   refine p9_L17_eq n hn k hk s t nw g hs hok hnw m (i + 1) _ (by omega) (by omega) (by rw [List.length_set]; exact hl) (fun h0=>by rw [List.length_set]; exact hr h0) (fun j=>?_)
   rw [getD_setB hlt']
   by_cases hj:k + i=j
   ·rw [if_pos hj,if_pos (by omega)]; congr 1; omega
   ·rw [if_neg hj,hv j]
    by_cases h2:k≤j∧j < k + i
    ·rw [if_pos h2,if_pos (by omega)]
    ·rw [if_neg h2,if_neg (by omega)]
  ·have hi2:i=s.size:=by omega
   subst hi2
   have hV:V=bl nw:=getD_ext hl (fun j=>by rw [hv j,hnw j])
   have hB:(V.map cb).foldl (fun (r:ByteArray) (n:Int)=>r.push (UInt8.ofNat n.toNat)) ByteArray.empty=nw:=by
    apply bl_inj
    rw [bl_foldl,hV]
    rfl
   simp only [st9_L17,lt_f,cond_false,q36,p36_eq' n hn g,hok,Option.bind_some,cond_true,hB,decide_true,BEq.rfl]
theorem p9_L14_eq (n:Nat) (hn:100 < n) (k:Nat) (hk:k≤100) (s t nw:ByteArray) (g:List Nd) (hs:s.size≤100) (ht:t.size≤100) (hs0:s.size ≠ 0) (hok:okS g=true)
  (hnw:∀ j,(bl nw).getD j 0=if k≤j∧j < k + s.size then (bl s).getD (j - k) 0 else (bl t).getD j 0) (hnl:(bl nw).length=max t.size (k + s.size)) :
  ∀ (m:Nat) (V:List UInt8),k + s.size - V.length < m→t.size≤V.length→V.length≤(bl nw).length→(∀ j,V.getD j 0=(bl t).getD j 0)→p9_L14 n m k s nw 0 (V.map cb) g=some ((true,()),())
 | 0,V,h,_,_,_=>by omega
 | m + 1,V,h,hl0,hl,hv=>by
  show st9_L14 n (p9_L14 n m) (p9_L17 n n) k s nw 0 (V.map cb) g=_
  have w1:IntKind.i64.wrap ((k:Int) + (s.size:Int))=((k + s.size:Nat):Int):=wr_add (by omega)
  have h0:(0:Int) < (s.size:Int):=by omega
  simp only [st9_L14,h0,decide_true,cond_true,w1,List.length_map]
  by_cases h1:V.length < k + s.size
  ·have h2:(V.length + [(0:Int)].length) * 1≤140737488355328:=by simp; omega
   have e:V.map cb ++ [(0:Int)]=(V ++ [0]).map cb:=by rw [List.map_append]; rfl
   simp only [lt_t h1,cond_true,h2,decide_true,e]
   refine p9_L14_eq n hn k hk s t nw g hs ht hs0 hok hnw hnl m _ (by rw [List.length_append]; simp; omega) (by rw [List.length_append]; omega) (by rw [List.length_append]; simp; omega) (fun j=>?_)
   rw [← hv j]
   simp only [List.getD_eq_getElem?_getD,List.getElem?_append]
   split
   ·rfl
   ·rename_i h3
    rw [List.getElem?_eq_none (show V.length≤j by omega)]
    by_cases h4:j - V.length=0
    ·rw [h4]; rfl
    ·rw [List.getElem?_eq_none (by simp; omega)]
  ·have h2:decide (((V.length:Nat):Int) < ((k + s.size:Nat):Int))=false:=by simp; omega
   simp only [h2,cond_false]
   exact p9_L17_eq n hn k hk s t nw g hs hok hnw n 0 V (by omega) (by omega) (by omega) (fun _=>by omega) (fun j=>by rw [if_neg (by omega)]; exact hv j)
theorem law9 (l:List Int) (hl:∀ x ∈ l,0≤x∧x < 256):p9 3000000 l=some ((true,()),()):=by
 obtain ⟨f,id,a,s,h0,hf,ha,hs⟩:=p34_eq 3000000 (by omega) hl
 have s1:=writeR_sz hf id a s (by omega)
 have t1:=p31_eq 3000000 f id a s (by omega) hf (by omega)
 have t2:=p30_eq 3000000 f id a s (by omega) hf (by omega) (by omega)
 have t3:=p18_refl 3000000 _ s1 (by omega)
 have t4:=p18_refl 3000000 _ hf (by omega)
 show st9_top 3000000 (p9_L14 3000000 3000000) l=_
 by_cases hlen:(1048576:Int) < (l.length:Int)
 ·simp only [st9_top,hlen,decide_true,cond_true]
 simp only [st9_top,hlen,decide_false,cond_false,q34,h0,Option.bind_some,q31,t1,q30,t2,q18,t3,decide_true,Bool.not_true,Bool.not_not,cond_true]
 by_cases e0:(writeR f id a s).2=0
 ·obtain ⟨i,k,rfl,rfl,hi,hF,hk1,hks,e1⟩:=writeR_zero e0
  have hif:i < f.length:=by rw [hF.len]; exact hi
  obtain ⟨b1,b2,b3,b4,b5⟩:=hF.toW.base i hi (by rw [show kd (f.getD i d0)=1 from hk1]; decide)
  have ht40:=(b4 hk1).1
  have hw40:(wr1 (tx (f.getD i d0)) k s).size≤40:=by rw [wr1_len]; split <;> omega
  have hO:OkF (f.set i (setTx (f.getD i d0) (wr1 (tx (f.getD i d0)) k s))) :=
   hF.setS hi (by rw [show kd (f.getD i d0)=1 from hk1]; decide) rfl rfl rfl ⟨b1,b2,b3,fun h=>⟨hw40,(b4 h).2⟩,fun h2=>absurd (show kd (f.getD i d0)=2 from h2) (by rw [show kd (f.getD i d0)=1 from hk1]; decide)⟩ rfl (((okW_iff f).1 hF).2 i hi (by rw [show kd (f.getD i d0)=1 from hk1]; decide))
  have hx:(f.set i (setTx (f.getD i d0) (wr1 (tx (f.getD i d0)) k s))).getD i d0=setTx (f.getD i d0) (wr1 (tx (f.getD i d0)) k s):=getD_set_self hif _
  have r1:=p37_eq 3000000 (by omega) _ i hO hi (by rw [hx]; exact hk1)
  rw [hx] at r1
  have r1:p37 3000000 (f.set i (setTx (f.getD i d0) (wr1 (tx (f.getD i d0)) k s))) i 0 40=some ((wr1 (tx (f.getD i d0)) k s,(0,())),()):=r1
  have r2:=p37_eq 3000000 (by omega) f i hF hi hk1
  have hsz:(tx (f.getD i d0)).size≤140737488355328:=by omega
  have n01:¬ ((0:Int)=1):=by decide
  simp only [e0,n01,decide_true,decide_false,Bool.not_true,cond_false,q37,e1,r1,r2,Option.bind_some,hsz,cond_true]
  generalize tx (f.getD i d0)=t at *
  have hmap:(t.data.toList.map fun b=>(b.toNat:Int))=(bl t).map cb:=rfl
  rw [hmap]
  have hnw:=wr1_get t k s
  have hnl:=wr1_len t k s
  rw [← bl_len] at hnl
  by_cases hs0:s.size=0
  ·rw [if_pos hs0] at hnl
   have h3:¬ ((0:Int) < (s.size:Int)):=by omega
   show st9_L14 3000000 (p9_L14 3000000 2999999) (p9_L17 3000000 3000000) k s (wr1 t k s) 0 ((bl t).map cb) _=_
   simp only [st9_L14,h3,decide_false,cond_false]
   exact p9_L17_eq 3000000 (by omega) k (by omega) s t _ _ (by omega) ((okS_iff _).2 hO) hnw 3000000 0 (bl t) (by omega) (by omega) (by rw [hnl,bl_len]) (fun h=>absurd hs0 h) (fun j=>by rw [if_neg (by omega)])
  ·rw [if_neg hs0] at hnl
   exact p9_L14_eq 3000000 (by omega) k (by omega) s t _ _ (by omega) (by omega) hs0 ((okS_iff _).2 hO) hnw hnl 3000000 (bl t) (by omega) (by rw [bl_len]; exact Nat.le_refl _) (by rw [hnl,bl_len]; omega) (fun j=>rfl)
 ·simp only [e0,decide_false,Bool.not_false,cond_true]
  by_cases e1:(writeR f id a s).2=1
  ·simp only [e1,decide_true,cond_true]
  ·have e2:(writeR f id a s).1=f:=by
    unfold writeR at e0 e1 ⊢
    cases hok:okS f&&(hasB f id&&!decide (a < 0)) with
    | false=>rw [hok] at e1; exact absurd rfl e1
    | true =>
     rw [hok] at e0
     simp only [cond_true] at e0 ⊢
     cases c1:decide ((f.getD id.toNat d0).1=1) with
     | false=>rfl
     | true =>
      rw [c1] at e0
      cases c2:decide ((40:Int) < a) with
      | true=>rfl
      | false =>
       rw [c2] at e0
       cases c3:decide ((40:Int) < a + (s.size:Int)) with
       | true=>rfl
       | false =>
        rw [c3] at e0
        cases c4:decide (s.size=0) with
        | true=>rfl
        | false=>rw [c4] at e0; exact absurd rfl e0
   simp only [e1,decide_false,cond_false,e2,t4,Option.bind_some]
theorem pure9 (l:List Int) (h:WfT (.row 5 (.int .u8)) l):∃ n o,q9 n (l,())=some ((true,()),o):=⟨3000000,(),law9 l (bytes_wf h)⟩
end Go.Proofs.Ythhopbicmaipgaa.Rx.S

