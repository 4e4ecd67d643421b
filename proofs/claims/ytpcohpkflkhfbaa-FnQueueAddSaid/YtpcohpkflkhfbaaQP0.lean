/- Plain laws of those functions, no program in sight: the law answers true on all data. No condition. -/
import GoSem.Claim
import Derived.Test.YtpcohpkflkhfbaaQF0
set_option linter.unusedVariables false
set_option linter.unusedSimpArgs false
namespace Go.Proofs.Ytpcohpkflkhfbaa.Rx.Pu
open Go
set_option linter.unusedVariables false
set_option linter.unusedSimpArgs false
theorem wr {x:Int} (h0:-9223372036854775808≤x) (h1:x≤9223372036854775807):IntKind.i64.wrap x=x:=by
 have e1:(2:Int) ^ IntKind.i64.bits=18446744073709551616:=rfl
 have e2:(2:Int) ^ (IntKind.i64.bits - 1)=9223372036854775808:=rfl
 have e3:IntKind.i64.signed=true:=rfl
 unfold IntKind.wrap
 simp only [e1,e2,e3,Bool.true_and,decide_eq_true_eq]
 split <;> omega
theorem cond_dec {α:Type} {p:Prop} [Decidable p] {a b:α}:cond (decide p) a b=if p then a else b:=by
 by_cases h:p <;> simp [h]
theorem toNat_cast (i:Nat):((i:Int)).toNat=i:=rfl
theorem getD_drop {α:Type} {l:List α} {i:Nat} {d:α} (h:i < l.length):l.drop i=l.getD i d :: l.drop (i + 1):=by
 rw [List.drop_eq_getElem_cons h,List.getD_eq_getElem?_getD,List.getElem?_eq_getElem h,Option.getD_some]
theorem xor_small {a b:Int} (ha:0≤a) (ha2:a < 4611686018427387904) (hb:0≤b) (hb2:b < 4611686018427387904) :
  0≤IntKind.i64.wrap ((BitVec.ofInt IntKind.i64.bits a ^^^ BitVec.ofInt IntKind.i64.bits b).toNat:Int):=by
 have e0:IntKind.i64.bits=64:=rfl
 obtain ⟨m,rfl⟩:=Int.eq_ofNat_of_zero_le ha
 obtain ⟨k,rfl⟩:=Int.eq_ofNat_of_zero_le hb
 have hm:m < 2 ^ 62:=by omega
 have hk:k < 2 ^ 62:=by omega
 have hx:m ^^^ k < 2 ^ 62:=Nat.xor_lt_two_pow hm hk
 have e:(BitVec.ofInt IntKind.i64.bits (m:Int) ^^^ BitVec.ofInt IntKind.i64.bits (k:Int)).toNat=m ^^^ k:=by
  have h1:∀ j:Nat,j < 2 ^ 62→(BitVec.ofInt IntKind.i64.bits (j:Int)).toNat=j:=by
   intro j hj
   rw [BitVec.toNat_ofInt]
   have e9:((2 ^ IntKind.i64.bits:Nat):Int)=18446744073709551616:=rfl
   rw [e9]
   omega
  rw [BitVec.toNat_xor,h1 m hm,h1 k hk]
 rw [e,wr (by omega) (by omega)]
 omega
theorem tmod_range {a b:Int} (ha:0≤a) (hb:1≤b):0≤a.tmod b∧a.tmod b < b:=by
 rw [Int.tmod_eq_emod_of_nonneg ha]
 exact ⟨Int.emod_nonneg _ (by omega),Int.emod_lt_of_pos _ (by omega)⟩
theorem tdiv_range {a b:Int} (ha:0≤a) (hb:1≤b):0≤a.tdiv b∧a.tdiv b≤a:=by
 rw [Int.tdiv_eq_ediv_of_nonneg ha]
 exact ⟨Int.ediv_nonneg ha (by omega),Int.ediv_le_self _ ha⟩
theorem len_le_of_sub {α:Type} [DecidableEq α]:∀ {S L:List α},S.Nodup→(∀ x ∈ S,x ∈ L)→S.length≤L.length
 | [],L,_,_=>Nat.zero_le _
 | x :: S,L,hn,hs=>by
  have hx:x ∈ L:=hs x List.mem_cons_self
  have h1:=List.nodup_cons.1 hn
  have:=len_le_of_sub (S:=S) (L:=L.erase x) h1.2 (fun y hy=>(List.mem_erase_of_ne (by rintro rfl; exact h1.1 hy)).2 (hs y (List.mem_cons_of_mem _ hy)))
  rw [List.length_erase_of_mem hx] at this
  have:0 < L.length:=List.length_pos_of_mem hx
  simp; omega
end Go.Proofs.Ytpcohpkflkhfbaa.Rx.Pu

namespace Go.Proofs.Ytpcohpkflkhfbaa.Rx.S
open Go Go.Proofs.Ytpcohpkflkhfbaa.Rx.Pu
set_option linter.unusedVariables false
set_option linter.unusedSimpArgs false
abbrev Th:=Int × Int × Int × Bool
abbrev Lk:=Int × List Th × List Int
theorem p57_eq (n:Nat) (a b c:Int):p57 n a b c=some ((decide (b≤a∧a≤c),()),()):=by
 show st57_top n a b c=_
 simp only [st57_top,cond_dec]
 by_cases h:b≤a <;> simp [h]
theorem p62_eq (n:Nat) (a b c:Int):p62 n a b c=some ((decide (b≤a∧a≤c),()),()):=by
 show st62_top n a b c=_
 simp only [st62_top,cond_dec]
 by_cases h:b≤a <;> simp [h]
def ThOk (line:List Int) (i:Int) (t:Th):Prop :=
 (0≤t.1∧t.1≤6)∧(0≤t.2.1∧t.2.1≤2)∧(t.1 ≠ 1→t.2.1=0)∧(0≤t.2.2.1∧t.2.2.1≤3)∧(0 < t.1→t.2.2.1 ≠ 0)∧(t.2.2.2=true→t.1=3)∧(t.2.2.2=decide (i ∈ line))
instance (line:List Int) (i:Int) (t:Th):Decidable (ThOk line i t):=by unfold ThOk; infer_instance
abbrev d0:Th:=(0,0,0,false)
end Go.Proofs.Ytpcohpkflkhfbaa.Rx.S

namespace Go.Proofs.Ytpcohpkflkhfbaa.Rx.S
open Go Go.Proofs.Ytpcohpkflkhfbaa.Rx.Pu
set_option linter.unusedVariables false
set_option linter.unusedSimpArgs false
structure OkP (k:Lk):Prop where
 w:0≤k.1∧k.1≤2
 n:1≤k.2.1.length∧k.2.1.length≤4
 th:∀ (i:Nat) t,k.2.1[i]? = some t→ThOk k.2.2 i t
 nd:k.2.2.Nodup
 rg:∀ x ∈ k.2.2,0≤x∧x < k.2.1.length
theorem OkP.line {k:Lk} (h:OkP k):k.2.2.length≤4:=by
 have:=len_le_of_sub (L:=(List.range k.2.1.length).map (fun i:Nat=>(i:Int))) h.nd (fun x hx=>by
  obtain ⟨h1,h2⟩:=h.rg x hx
  exact List.mem_map.2 ⟨x.toNat,List.mem_range.2 (by omega),by omega⟩)
 rw [List.length_map,List.length_range] at this
 exact Nat.le_trans this h.n.2
def canT (t:Th):Bool:=!t.2.2.2&&(decide (0 < t.1) || decide (0 < t.2.2.1))
def stepF (k:Lk) (who:Nat):Lk :=
 let t:=k.2.1.getD who ((0:Int),(0:Int),(0:Int),false)
 if t.1=0 then (if k.1=0 then (1,k.2.1.set who (4,t.2.1,t.2.2.1,t.2.2.2),k.2.2) else (k.1,k.2.1.set who (1,k.1,t.2.2.1,t.2.2.2),k.2.2))
 else if t.1=3 then (if k.1=0 then (2,k.2.1.set who (4,t.2.1,t.2.2.1,t.2.2.2),k.2.2) else (k.1,k.2.1.set who (1,k.1,t.2.2.1,t.2.2.2),k.2.2))
 else if t.1=1 then (if t.2.1=2 then (k.1,k.2.1.set who (2,0,t.2.2.1,t.2.2.2),k.2.2) else if k.1=0 then (k.1,k.2.1.set who (3,0,t.2.2.1,t.2.2.2),k.2.2) else (2,k.2.1.set who (2,0,t.2.2.1,t.2.2.2),k.2.2))
 else if t.1=2 then (if k.1=2 then (k.1,k.2.1.set who (3,t.2.1,t.2.2.1,true),k.2.2 ++ [(who:Int)]) else (k.1,k.2.1.set who (3,t.2.1,t.2.2.1,t.2.2.2),k.2.2))
 else if t.1=4 then (if k.1 < 2 then (0,k.2.1.set who (0,t.2.1,t.2.2.1 - 1,t.2.2.2),k.2.2) else (1,k.2.1.set who (5,t.2.1,t.2.2.1,t.2.2.2),k.2.2))
 else if t.1=5 then (0,k.2.1.set who (6,t.2.1,t.2.2.1,t.2.2.2),k.2.2)
 else (k.1,(match k.2.2 with | []=>k.2.1 | h :: _=>k.2.1.set h.toNat ((k.2.1.getD h.toNat ((0:Int),(0:Int),(0:Int),false)).1,(k.2.1.getD h.toNat ((0:Int),(0:Int),(0:Int),false)).2.1,(k.2.1.getD h.toNat ((0:Int),(0:Int),(0:Int),false)).2.2.1,false)).set who (0,t.2.1,t.2.2.1 - 1,t.2.2.2),k.2.2.tail)
theorem getD_some {α:Type} {l:List α} {i:Nat} {d:α} (h:i < l.length):l[i]? = some (l.getD i d):=by
 rw [List.getElem?_eq_getElem h,List.getD_eq_getElem?_getD,List.getElem?_eq_getElem h,Option.getD_some]
theorem getD_set_same {α:Type} {l:List α} {i:Nat} {a d:α} (h:i < l.length):(l.set i a).getD i d=a:=by
 rw [List.getD_eq_getElem?_getD,List.getElem?_set,if_pos rfl,if_pos h,Option.getD_some]
theorem getD_set_ne {α:Type} {l:List α} {i j:Nat} {a d:α} (h:i ≠ j):(l.set i a).getD j d=l.getD j d:=by
 rw [List.getD_eq_getElem?_getD,List.getElem?_set,if_neg h,List.getD_eq_getElem?_getD]
end Go.Proofs.Ytpcohpkflkhfbaa.Rx.S

namespace Go.Proofs.Ytpcohpkflkhfbaa.Rx.S
open Go Go.Proofs.Ytpcohpkflkhfbaa.Rx.Pu
set_option linter.unusedVariables false
set_option linter.unusedSimpArgs false
theorem ThOk.line {l l':List Int} {i:Int} {t:Th} (h:ThOk l i t) (hl:i ∈ l'↔i ∈ l):ThOk l' i t:=by
 obtain ⟨h1,h2,h3,h4,h5,h6,h7⟩:=h
 refine ⟨h1,h2,h3,h4,h5,h6,?_⟩
 rw [h7]
 exact decide_eq_decide.2 hl.symm
end Go.Proofs.Ytpcohpkflkhfbaa.Rx.S

namespace Go.Proofs.Ytpcohpkflkhfbaa.Rx.S
open Go Go.Proofs.Ytpcohpkflkhfbaa.Rx.Pu
set_option linter.unusedVariables false
set_option linter.unusedSimpArgs false
def Bys (l:List Int):Prop:=(∀ x ∈ l,0≤x∧x < 256)∧l.length≤2000
theorem Bys.get {l:List Int} (h:Bys l) (i:Nat):0≤l.getD i 0∧l.getD i 0 < 256:=by
 rw [List.getD_eq_getElem?_getD]
 cases hi:l[i]? with
 | none=>simp
 | some x=>exact h.1 x (List.mem_of_getElem? hi)
theorem p81_eq (n:Nat) {l:List Int} (hl:Bys l) {pos b:Int} (hp:0≤pos∧pos < 1000000) (hb:1≤b) :
  ∃ v:Int,p81 n (l,pos) b=some ((v,()),((l,pos + 1),()))∧0≤v∧v < b:=by
 have e1:IntKind.i64.wrap (pos + 1)=pos + 1:=wr (by omega) (by omega)
 have e2:IntKind.i64.wrap (pos + 1 - 1)=pos:=(wr (x:=pos + 1 - 1) (by omega) (by omega)).trans (by omega)
 have e3:IntKind.i64.wrap (pos * 7)=pos * 7:=wr (by omega) (by omega)
 have e4:IntKind.i64.wrap (pos * 7 + 3)=pos * 7 + 3:=wr (by omega) (by omega)
 have e5:IntKind.i64.wrap (pos * 29)=pos * 29:=wr (by omega) (by omega)
 have hlen:=hl.2
 show ∃ v:Int,st81_top n (l,pos) b=_∧_
 have hb1:¬ b < 1:=by omega
 have hb2:¬ b=0:=by omega
 simp only [st81_top,e1,e2,e3,e4,e5,hb1,hb2,decide_false,cond_false,Bool.not_false,cond_true]
 by_cases h0:(l.length:Int)=0
 ·simp only [h0,decide_true,cond_true]
  exact ⟨0,rfl,by omega,by omega⟩
 ·have hl1:(1:Int)≤l.length:=by omega
  simp only [h0,decide_false,cond_false,Bool.not_false,cond_true]
  by_cases h1:pos < (l.length:Int)
  ·have hp0:(0:Int)≤pos:=hp.1
   simp only [h1,hp0,decide_true,cond_true]
   have hg:=hl.get pos.toNat
   rw [wr (by omega) (by omega)]
   exact ⟨_,rfl,tmod_range hg.1 hb⟩
  ·simp only [h1,decide_false,cond_false]
   have t1:=tmod_range (a:=pos) (b:=l.length) hp.1 hl1
   have t2:=tmod_range (a:=pos * 7 + 3) (b:=l.length) (by omega) hl1
   have t3:=tdiv_range (a:=pos) (b:=l.length) hp.1 hl1
   simp only [t1.1,t1.2,t2.1,t2.2,decide_true,cond_true]
   have g1:=hl.get (pos.tmod l.length).toNat
   have g2:=hl.get ((pos * 7 + 3).tmod l.length).toNat
   generalize l.getD (pos.tmod l.length).toNat 0=y1 at *
   generalize l.getD ((pos * 7 + 3).tmod l.length).toNat 0=y2 at *
   generalize pos.tdiv l.length=q at *
   have w1:IntKind.i64.wrap y1=y1:=wr (by omega) (by omega)
   have w2:IntKind.i64.wrap (y1 * 131)=y1 * 131:=wr (by omega) (by omega)
   have w3:IntKind.i64.wrap y2=y2:=wr (by omega) (by omega)
   have w4:IntKind.i64.wrap (y2 * 1117)=y2 * 1117:=wr (by omega) (by omega)
   have w5:IntKind.i64.wrap (y1 * 131 + y2 * 1117)=y1 * 131 + y2 * 1117:=wr (by omega) (by omega)
   have w6:IntKind.i64.wrap (y1 * 131 + y2 * 1117 + pos * 29)=y1 * 131 + y2 * 1117 + pos * 29:=wr (by omega) (by omega)
   have w7:IntKind.i64.wrap q=q:=wr (by omega) (by omega)
   have w8:IntKind.i64.wrap (q * 53)=q * 53:=wr (by omega) (by omega)
   have w9:IntKind.i64.wrap (y1 * 131 + y2 * 1117 + pos * 29 + q * 53)=y1 * 131 + y2 * 1117 + pos * 29 + q * 53:=wr (by omega) (by omega)
   simp only [w1,w2,w3,w4,w5,w6,w7,w8,w9]
   have hS:0≤y1 * 131 + y2 * 1117 + pos * 29 + q * 53∧y1 * 131 + y2 * 1117 + pos * 29 + q * 53 < 1000000000000:=by omega
   generalize y1 * 131 + y2 * 1117 + pos * 29 + q * 53=S at *
   have hd:=tdiv_range (a:=S) (b:=64) hS.1 (by omega)
   have w10:IntKind.i64.wrap (S.tdiv 64)=S.tdiv 64:=wr (by omega) (by omega)
   simp only [w10]
   exact ⟨_,rfl,tmod_range (xor_small hS.1 (by omega) hd.1 (by omega)) hb⟩
theorem p73_eq (n:Nat) {l:List Int} (hl:∀ x ∈ l,0≤x∧x < 256):∃ l',p73 n l=some (((l',0),()),())∧Bys l':=by
 show ∃ l',st73_top n l=_∧_
 simp only [st73_top]
 by_cases h:(2000:Int) < l.length
 ·have h2:(2000:Int)≤l.length:=by omega
  simp only [h,h2,decide_true,cond_true]
  refine ⟨_,rfl,fun x hx=>hl x (List.mem_of_mem_take hx),?_⟩
  rw [List.length_take]
  exact Nat.min_le_left _ _
 ·simp only [h,decide_false,cond_false]
  exact ⟨_,rfl,hl,by omega⟩
end Go.Proofs.Ytpcohpkflkhfbaa.Rx.S

namespace Go.Proofs.Ytpcohpkflkhfbaa.Rx.S
open Go Go.Proofs.Ytpcohpkflkhfbaa.Rx.Pu
set_option linter.unusedVariables false
set_option linter.unusedSimpArgs false
def canI (k:Lk) (x:Int):Bool:=decide (0≤x∧x < k.2.1.length)&&canT (k.2.1.getD x.toNat ((0:Int),(0:Int),(0:Int),false))
def runF:Lk→List Int→Int→Lk × Int
 | k,[],c=>(k,c)
 | k,x :: xs,c=>bif canI k x then runF (stepF k x.toNat) xs (c + 1) else runF k xs c
end Go.Proofs.Ytpcohpkflkhfbaa.Rx.S

namespace Go.Proofs.Ytpcohpkflkhfbaa.Rx.S
open Go Go.Proofs.Ytpcohpkflkhfbaa.Rx.Pu
theorem u8_wf {x:Int} (h:(Lit.int .u8 x).wf=true):0≤x∧x < 256:=by
 simp only [Lit.wf,Bool.and_eq_true,decide_eq_true_eq,IntKind.min,IntKind.max,IntKind.signed,IntKind.bits,Bool.false_eq_true,if_false] at h
 omega
theorem bytes_wf {xs:List Int} (h:WfT (.row 5 (.int .u8)) xs):∀ x ∈ xs,0≤x∧x < 256:=fun x hx=>u8_wf (h.2 x hx)
end Go.Proofs.Ytpcohpkflkhfbaa.Rx.S

namespace Go.Proofs.Ytpcohpkflkhfbaa.Rx.S
open Go Go.Proofs.Ytpcohpkflkhfbaa.Rx.Pu
set_option linter.unusedVariables false
set_option linter.unusedSimpArgs false
theorem lt_t {i n:Nat} (h:i < n):decide ((i:Int) < (n:Int))=true:=by simp; omega
theorem lt_f (n:Nat):decide ((n:Int) < (n:Int))=false:=by simp
theorem ge_t (i:Nat):decide ((0:Int)≤(i:Int))=true:=by simp
theorem succI (i:Nat):(i:Int) + 1=((i + 1:Nat):Int):=by omega
abbrev Qu:=List Th × Int
def tkOk (fl:Int) (p:Option Int) (t:Th):Bool:=decide (0≤t.1∧t.1≤99)&&(decide (1≤t.2.1∧t.2.1≤6)&&(decide (0≤t.2.2.1∧t.2.2.1≤1000000)&&((!t.2.2.2 || decide (fl≤t.2.2.1))&&(match p with | none=>true | some x=>decide (x < t.1)))))
def okQ (fl:Int):Option Int→List Th→Bool
 | _,[]=>true
 | p,t :: ts=>cond (tkOk fl p t) (okQ fl (some t.1) ts) false
def prevOf (l:List Th):Nat→Option Int
 | 0=>none
 | j + 1=>some (l.getD j ((0:Int),(0:Int),(0:Int),false)).1
def queueOk (q:Qu):Bool:=okQ q.2 none q.1&&(decide ((q.1.length:Int)≤6)&&decide (0≤q.2∧q.2≤1000000))
theorem p48_L2_eq (n:Nat) (l:List Th) (fl:Int) (hl:l.length≤2000000):∀ (m i:Nat),i≤l.length→l.length - i < m →
  p48_L2 n m l l.length i l fl=some ((okQ fl (prevOf l i) (l.drop i)&&(decide ((l.length:Int)≤6)&&decide (0≤fl∧fl≤1000000)),()),())
 | 0,i,_,h=>by omega
 | m + 1,i,hi,h=>by
  show st48_L2 n (p48_L2 n m) l l.length i l fl=_
  by_cases h1:i < l.length
  ·have ih:=p48_L2_eq n l fl hl m (i + 1) (by omega) (by omega)
   rw [getD_drop (d:=((0:Int),(0:Int),(0:Int),false)) h1]
   obtain ⟨⟨a,s,u,z⟩,ht⟩:∃ t,l.getD i ((0:Int),(0:Int),(0:Int),false)=t:=⟨_,rfl⟩
   simp only [prevOf,ht] at ih
   simp only [st48_L2,toNat_cast,lt_t h1,ge_t,cond_true,ht,q62,p62_eq,Option.bind_some,okQ]
   rw [wr (x:=(i:Int) + 1) (by omega) (by omega),succI,ih]
   generalize okQ fl (some a) (l.drop (i + 1))=o
   generalize (decide ((l.length:Int)≤6)&&decide (0≤fl∧fl≤1000000))=e
   clear ih ht
   cases i with
   | zero =>
    have z0:¬ ((0:Int) < ((0:Nat):Int)):=by omega
    simp only [z0,decide_false,cond_false,prevOf,tkOk]
    by_cases hA:0≤a∧a≤99 <;> by_cases hS:1≤s∧s≤6 <;> by_cases hU:0≤u∧u≤1000000 <;> simp only [hA,hS,hU,decide_true,decide_false,Bool.not_true,Bool.not_false,cond_true,cond_false,true_and,false_and,and_false,Bool.cond_self,Bool.false_and,Bool.true_and,Bool.and_false]
    rcases Int.lt_or_le u fl with hc | hc
    ·have hc2:¬ fl≤u:=by omega
     cases z <;> simp [hc,hc2]
    ·have hc2:¬ u < fl:=by omega
     cases z <;> simp [hc,hc2]
   | succ j =>
    have z0:(0:Int) < ((j + 1:Nat):Int):=by omega
    have w1:IntKind.i64.wrap (((j + 1:Nat):Int) - 1)=(j:Int):=(wr (x:=((j + 1:Nat):Int) - 1) (by omega) (by omega)).trans (by omega)
    simp only [z0,decide_true,cond_true,w1,ge_t,lt_t (show j < l.length by omega),toNat_cast,prevOf,tkOk]
    generalize (l.getD j ((0:Int),(0:Int),(0:Int),false)).1=y
    by_cases hA:0≤a∧a≤99 <;> by_cases hS:1≤s∧s≤6 <;> by_cases hU:0≤u∧u≤1000000 <;> simp only [hA,hS,hU,decide_true,decide_false,Bool.not_true,Bool.not_false,cond_true,cond_false,true_and,false_and,and_false,Bool.cond_self,Bool.false_and,Bool.true_and,Bool.and_false]
    rcases Int.lt_or_le u fl with hc | hc <;> rcases Int.lt_or_le y a with hy | hy
    ·have hc2:¬ fl≤u:=by omega
     have hy2:¬ a≤y:=by omega
     cases z <;> simp [hc,hc2,hy,hy2]
    ·have hc2:¬ fl≤u:=by omega
     have hy2:¬ y < a:=by omega
     cases z <;> simp [hc,hc2,hy,hy2]
    ·have hc2:¬ u < fl:=by omega
     have hy2:¬ a≤y:=by omega
     cases z <;> simp [hc,hc2,hy,hy2]
    ·have hc2:¬ u < fl:=by omega
     have hy2:¬ y < a:=by omega
     cases z <;> simp [hc,hc2,hy,hy2]
  ·have hi2:i=l.length:=by omega
   subst hi2
   simp only [st48_L2,lt_f,cond_false,q62,p62_eq,Option.bind_some]
   rw [List.drop_eq_nil_of_le (by omega)]
   simp only [okQ,Bool.true_and]
   by_cases h6:(l.length:Int)≤6 <;> simp [h6]
theorem p48_eq (n:Nat) (q:Qu) (hl:q.1.length≤2000000) (hn:q.1.length < n):p48 n q=some ((queueOk q,()),()):=by
 have:=p48_L2_eq n q.1 q.2 hl n 0 (by omega) (by omega)
 rw [List.drop_zero] at this
 exact this
theorem p96_L2_eq (n:Nat) (l:List Th) (fl:Int) (hl:l.length≤2000000):∀ (m i:Nat),i≤l.length→l.length - i < m →
  p96_L2 n m i l fl=some ((okQ fl (prevOf l i) (l.drop i)&&(decide ((l.length:Int)≤6)&&decide (0≤fl∧fl≤1000000)),()),())
 | 0,i,_,h=>by omega
 | m + 1,i,hi,h=>by
  show st96_L2 n (p96_L2 n m) i l fl=_
  by_cases h1:i < l.length
  ·have ih:=p96_L2_eq n l fl hl m (i + 1) (by omega) (by omega)
   rw [getD_drop (d:=((0:Int),(0:Int),(0:Int),false)) h1]
   obtain ⟨⟨a,s,u,z⟩,ht⟩:∃ t,l.getD i ((0:Int),(0:Int),(0:Int),false)=t:=⟨_,rfl⟩
   simp only [prevOf,ht] at ih
   simp only [st96_L2,toNat_cast,lt_t h1,ge_t,cond_true,ht,q57,p57_eq,Option.bind_some,okQ]
   rw [wr (x:=(i:Int) + 1) (by omega) (by omega),succI,ih]
   generalize okQ fl (some a) (l.drop (i + 1))=o
   generalize (decide ((l.length:Int)≤6)&&decide (0≤fl∧fl≤1000000))=e
   clear ih ht
   cases i with
   | zero =>
    have z0:¬ ((0:Int) < ((0:Nat):Int)):=by omega
    simp only [z0,decide_false,cond_false,prevOf,tkOk]
    by_cases hA:0≤a∧a≤99 <;> by_cases hS:1≤s∧s≤6 <;> by_cases hU:0≤u∧u≤1000000 <;> simp only [hA,hS,hU,decide_true,decide_false,Bool.not_true,Bool.not_false,cond_true,cond_false,true_and,false_and,and_false,Bool.cond_self,Bool.false_and,Bool.true_and,Bool.and_false]
    rcases Int.lt_or_le u fl with hc | hc
    ·have hc2:¬ fl≤u:=by omega
     cases z <;> simp [hc,hc2]
    ·have hc2:¬ u < fl:=by omega
     cases z <;> simp [hc,hc2]
   | succ j =>
    have z0:(0:Int) < ((j + 1:Nat):Int):=by omega
    have w1:IntKind.i64.wrap (((j + 1:Nat):Int) - 1)=(j:Int):=(wr (x:=((j + 1:Nat):Int) - 1) (by omega) (by omega)).trans (by omega)
    simp only [z0,decide_true,cond_true,w1,ge_t,lt_t (show j < l.length by omega),toNat_cast,prevOf,tkOk]
    generalize (l.getD j ((0:Int),(0:Int),(0:Int),false)).1=y
    by_cases hA:0≤a∧a≤99 <;> by_cases hS:1≤s∧s≤6 <;> by_cases hU:0≤u∧u≤1000000 <;> simp only [hA,hS,hU,decide_true,decide_false,Bool.not_true,Bool.not_false,cond_true,cond_false,true_and,false_and,and_false,Bool.cond_self,Bool.false_and,Bool.true_and,Bool.and_false]
    rcases Int.lt_or_le u fl with hc | hc <;> rcases Int.lt_or_le y a with hy | hy
    ·have hc2:¬ fl≤u:=by omega
     have hy2:¬ a≤y:=by omega
     cases z <;> simp [hc,hc2,hy,hy2]
    ·have hc2:¬ fl≤u:=by omega
     have hy2:¬ y < a:=by omega
     cases z <;> simp [hc,hc2,hy,hy2]
    ·have hc2:¬ u < fl:=by omega
     have hy2:¬ a≤y:=by omega
     cases z <;> simp [hc,hc2,hy,hy2]
    ·have hc2:¬ u < fl:=by omega
     have hy2:¬ y < a:=by omega
     cases z <;> simp [hc,hc2,hy,hy2]
  ·have hi2:i=l.length:=by omega
   subst hi2
   simp only [st96_L2,lt_f,cond_false,q57,p57_eq,Option.bind_some]
   rw [List.drop_eq_nil_of_le (by omega)]
   simp only [okQ,Bool.true_and]
   by_cases h6:(l.length:Int)≤6 <;> simp [h6]
theorem p96_eq (n:Nat) (q:Qu) (hl:q.1.length≤2000000) (hn:q.1.length < n):p96 n q=some ((queueOk q,()),()):=by
 have:=p96_L2_eq n q.1 q.2 hl n 0 (by omega) (by omega)
 rw [List.drop_zero] at this
 exact this
def atF (x:Int):List Th→Nat→Int
 | [],_=>-1
 | t :: ts,i=>if t.1=x then (i:Int) else atF x ts (i + 1)
theorem atF_mem {x:Int}:∀ {l:List Th} {i:Nat},atF x l i < 0→∀ t ∈ l,t.1 ≠ x
 | [],i,_,t,ht=>by cases ht
 | y :: ys,i,h,t,ht=>by
  simp only [atF] at h
  split at h
  ·omega
  ·rcases List.mem_cons.1 ht with rfl | ht
   ·assumption
   ·exact atF_mem h t ht
theorem p117_L2_eq (n:Nat) (l:List Th) (x:Int) (hl:l.length≤2000000):∀ (m i:Nat),i≤l.length→l.length - i < m→p117_L2 n m l x l.length i=some ((atF x (l.drop i) i,()),())
 | 0,i,_,h=>by omega
 | m + 1,i,hi,h=>by
  show st117_L2 n (p117_L2 n m) l x l.length i=_
  by_cases h1:i < l.length
  ·have ih:=p117_L2_eq n l x hl m (i + 1) (by omega) (by omega)
   rw [getD_drop (d:=((0:Int),(0:Int),(0:Int),false)) h1]
   have e1:∀ y:Int,[y].getD 0 0=y:=fun _=>rfl
   simp only [st117_L2,toNat_cast,lt_t h1,ge_t,cond_true,q118,p118,st118_top,Option.bind_some,e1,atF]
   rw [wr (x:=(i:Int) + 1) (by omega) (by omega),succI,ih]
   by_cases hx:(l.getD i ((0:Int),(0:Int),(0:Int),false)).1=x
   ·simp only [hx,decide_true,cond_true,if_true]
   ·simp only [hx,decide_false,cond_false,if_false]
  ·have hi2:i=l.length:=by omega
   subst hi2
   simp only [st117_L2,lt_f,cond_false]
   rw [List.drop_eq_nil_of_le (by omega)]
   rfl
theorem p92_eq (n:Nat) (q:Qu) (x:Int) (hl:q.1.length≤2000000) (hn:q.1.length < n):p92 n q x=some ((atF x q.1 0,()),()):=by
 have:=p117_L2_eq n q.1 x hl n 0 (by omega) (by omega)
 rw [List.drop_zero] at this
 have h117:p117 n q.1 (x,())=some ((atF x q.1 0,()),()):=this
 show st92_top n q x=_
 simp only [st92_top,q117,h117,Option.bind_some]
theorem p97_L2_eq (n:Nat) (l:List Th) (x fl:Int) (hl:l.length≤2000000):∀ (m i:Nat),i≤l.length→l.length - i < m→p97_L2 n m x i l fl=some ((atF x (l.drop i) i,()),())
 | 0,i,_,h=>by omega
 | m + 1,i,hi,h=>by
  show st97_L2 n (p97_L2 n m) x i l fl=_
  by_cases h1:i < l.length
  ·have ih:=p97_L2_eq n l x fl hl m (i + 1) (by omega) (by omega)
   rw [getD_drop (d:=((0:Int),(0:Int),(0:Int),false)) h1]
   simp only [st97_L2,toNat_cast,lt_t h1,ge_t,cond_true,atF]
   rw [wr (x:=(i:Int) + 1) (by omega) (by omega),succI,ih]
   by_cases hx:(l.getD i ((0:Int),(0:Int),(0:Int),false)).1=x
   ·simp only [hx,decide_true,cond_true,if_true]
   ·simp only [hx,decide_false,cond_false,if_false]
  ·have hi2:i=l.length:=by omega
   subst hi2
   simp only [st97_L2,lt_f,cond_false]
   rw [List.drop_eq_nil_of_le (by omega)]
   rfl
theorem p97_eq (n:Nat) (q:Qu) (x:Int) (hl:q.1.length≤2000000) (hn:q.1.length < n):p97 n q x=some ((atF x q.1 0,()),()):=by
 have:=p97_L2_eq n q.1 x q.2 hl n 0 (by omega) (by omega)
 rw [List.drop_zero] at this
 exact this
def ins (t:Th):List Th→List Th
 | []=>[t]
 | x :: xs=>if t.1 < x.1 then t :: x :: xs else x :: ins t xs
theorem ins_len (t:Th):∀ l:List Th,(ins t l).length=l.length + 1
 | []=>rfl
 | x :: xs=>by
  simp only [ins]
  split
  ·rfl
  ·simp [ins_len t xs]
theorem ins_front {t:Th}:∀ {l:List Th},(∀ y ∈ l,t.1 < y.1)→ins t l=t :: l
 | [],_=>rfl
 | x :: xs,h=>by simp only [ins,if_pos (h x List.mem_cons_self)]
theorem ins_split {t:Th}:∀ {A B:List Th},(∀ y ∈ A,¬ t.1 < y.1)→(∀ y ∈ B,t.1 < y.1)→ins t (A ++ B)=A ++ t :: B
 | [],B,_,h=>ins_front h
 | x :: A,B,ha,h=>by
  simp only [List.cons_append,ins,if_neg (ha x List.mem_cons_self)]
  rw [ins_split (fun y hy=>ha y (List.mem_cons_of_mem _ hy)) h]
theorem p98_L4_done (n:Nat) (l:List Th) (fl a s u:Int) (z:Bool) (x8:Int) (hl:l.length≤2000000):∀ (m i:Nat) (out:List Th),i≤l.length→l.length - i < m→out.length≤1 + i →
  p98_L4 n m true i l fl a s u z x8 out=some (((out ++ l.drop i,fl),()),())
 | 0,i,out,_,h,_=>by omega
 | m + 1,i,out,hi,h,ho=>by
  show st98_L4 n (p98_L4 n m) true i l fl a s u z x8 out=_
  by_cases h1:i < l.length
  ·have h2:∀ y:Th,(out.length + [y].length) * 32≤140737488355328:=by intro y; simp; omega
   have ih:=p98_L4_done n l fl a s u z x8 hl m (i + 1) (out ++ [l.getD i ((0:Int),(0:Int),(0:Int),false)]) (by omega) (by omega) (by simp; omega)
   rw [getD_drop (d:=((0:Int),(0:Int),(0:Int),false)) h1]
   simp only [st98_L4,toNat_cast,lt_t h1,ge_t,cond_true,Bool.not_true,cond_false,h2,decide_true]
   rw [wr (x:=(i:Int) + 1) (by omega) (by omega),succI]
   refine ih.trans ?_
   simp
  ·have hi2:i=l.length:=by omega
   subst hi2
   simp only [st98_L4,lt_f,cond_false,Bool.not_true]
   rw [List.drop_eq_nil_of_le (by omega),List.append_nil]
theorem p98_L4_eq (n:Nat) (l:List Th) (fl:Int) (t:Th) (x8:Int) (hl:l.length≤2000000):∀ (m i:Nat) (out:List Th),i≤l.length→l.length - i < m→out.length≤i →
  p98_L4 n m false i l fl t.1 t.2.1 t.2.2.1 t.2.2.2 x8 out=some (((out ++ ins t (l.drop i),fl),()),())
 | 0,i,out,_,h,_=>by omega
 | m + 1,i,out,hi,h,ho=>by
  show st98_L4 n (p98_L4 n m) false i l fl t.1 t.2.1 t.2.2.1 t.2.2.2 x8 out=_
  by_cases h1:i < l.length
  ·have h2:∀ y:Th,(out.length + [y].length) * 32≤140737488355328:=by intro y; simp; omega
   have h3:∀ y x:Th,((out ++ [y]).length + [x].length) * 32≤140737488355328:=by intro y x; simp; omega
   have ih:=p98_L4_eq n l fl t x8 hl m (i + 1) (out ++ [l.getD i ((0:Int),(0:Int),(0:Int),false)]) (by omega) (by omega) (by simp; omega)
   have id:=p98_L4_done n l fl t.1 t.2.1 t.2.2.1 t.2.2.2 x8 hl m (i + 1) (out ++ [t] ++ [l.getD i ((0:Int),(0:Int),(0:Int),false)]) (by omega) (by omega) (by simp; omega)
   rw [getD_drop (d:=((0:Int),(0:Int),(0:Int),false)) h1]
   simp only [st98_L4,toNat_cast,lt_t h1,ge_t,cond_true,Bool.not_false,h2,h3,decide_true,ins]
   rw [wr (x:=(i:Int) + 1) (by omega) (by omega),succI]
   by_cases hx:t.1 < (l.getD i ((0:Int),(0:Int),(0:Int),false)).1
   ·simp only [hx,decide_true,cond_true,if_true]
    refine id.trans ?_
    simp
   ·simp only [hx,decide_false,cond_false,if_false]
    refine ih.trans ?_
    simp
  ·have hi2:i=l.length:=by omega
   have h2:∀ y:Th,(out.length + [y].length) * 32≤140737488355328:=by intro y; simp; omega
   subst hi2
   simp only [st98_L4,lt_f,cond_false,Bool.not_false,cond_true,h2,decide_true]
   rw [List.drop_eq_nil_of_le (by omega)]
   rfl
theorem p98_eq (n:Nat) (q:Qu) (t:Th) (hl:q.1.length≤2000000) (hn:q.1.length < n):p98 n q t=some (((ins t q.1,q.2),()),()):=by
 have:=p98_L4_eq n q.1 q.2 t 0 hl n 0 [] (by omega) (by omega) (by simp)
 rw [List.drop_zero,List.nil_append] at this
 exact this
theorem getD_app {A B:List Th} {t d:Th}:(A ++ t :: B).getD A.length d=t:=by
 rw [List.getD_eq_getElem?_getD,List.getElem?_append_right (Nat.le_refl _)]
 simp
theorem getD_app1 {A B:List Th} {x t d:Th}:(A ++ x :: t :: B).getD (A.length + 1) d=t:=by
 rw [List.getD_eq_getElem?_getD,List.getElem?_append_right (by omega)]
 simp
theorem swap_app {A B:List Th} {x t:Th}:((A ++ x :: t :: B).set (A.length + 1) x).set A.length t=A ++ t :: x :: B:=by
 rw [List.set_append_right _ _ (by omega),List.set_append_right _ _ (by omega)]
 simp
theorem p125_L4_eq (g1:Int→Int→Int→(List Th)→Option R125) (n:Nat) (l:List Th) (t:Th) (hl:l.length≤100) (hid:∀ y ∈ l,0≤y.1∧y.1≤99) (ht:0≤t.1∧t.1≤99) (hs:l.Pairwise (fun a b=>a.1 < b.1)) (b:Int) (i:Nat) (hi:i≤1000) :
  ∀ (j m:Nat),j≤l.length→j < m→(∀ y ∈ l.drop j,t.1 < y.1)→p125_L4 g1 n m 0 b i j (l.take j ++ t :: l.drop j)=g1 0 b ((i + 1:Nat):Int) (ins t l)
 | j,0,_,h,_=>by omega
 | 0,m + 1,_,_,hd=>by
  show st125_L4 n (p125_L4 g1 n m) g1 0 b i ((0:Nat):Int) _=_
  have z0:¬ ((0:Int) < ((0:Nat):Int)):=by omega
  simp only [st125_L4,z0,decide_false,cond_false]
  rw [wr (x:=(i:Int) + 1) (by omega) (by omega),succI]
  simp only [List.take_zero,List.drop_zero,List.nil_append] at hd ⊢
  rw [ins_front hd]
 | j + 1,m + 1,hj,hm,hd=>by
  show st125_L4 n (p125_L4 g1 n m) g1 0 b i ((j + 1:Nat):Int) _=_
  have hjl:j < l.length:=by omega
  obtain ⟨x,hx⟩:∃ x,l.getD j ((0:Int),(0:Int),(0:Int),false)=x:=⟨_,rfl⟩
  have hdrop:l.drop j=x :: l.drop (j + 1):=by rw [getD_drop (d:=((0:Int),(0:Int),(0:Int),false)) hjl,hx]
  have hgx:l[j]? = some x:=by rw [← hx]; exact getD_some hjl
  have htake:l.take (j + 1)=l.take j ++ [x]:=by
   rw [List.take_add_one,hgx]; rfl
  have hlen:(l.take j).length=j:=by rw [List.length_take]; omega
  have hxl:x ∈ l:=List.mem_of_getElem? hgx
  have hxs:l.take (j + 1) ++ t :: l.drop (j + 1)=l.take j ++ x :: t :: l.drop (j + 1):=by rw [htake]; simp
  rw [hxs]
  have hlx:(l.take j ++ x :: t :: l.drop (j + 1)).length=l.length + 1:=by simp; omega
  have g1':(l.take j ++ x :: t :: l.drop (j + 1)).getD (j + 1) ((0:Int),(0:Int),(0:Int),false)=t:=by
   have:=getD_app1 (A:=l.take j) (B:=l.drop (j + 1)) (x:=x) (t:=t) (d:=((0:Int),(0:Int),(0:Int),false))
   rw [hlen] at this; exact this
  have g2':(l.take j ++ x :: t :: l.drop (j + 1)).getD j ((0:Int),(0:Int),(0:Int),false)=x:=by
   have:=getD_app (A:=l.take j) (B:=t :: l.drop (j + 1)) (t:=x) (d:=((0:Int),(0:Int),(0:Int),false))
   rw [hlen] at this; exact this
  have g3':((l.take j ++ x :: t :: l.drop (j + 1)).set (j + 1) x).set j t=l.take j ++ t :: l.drop j:=by
   have:=swap_app (A:=l.take j) (B:=l.drop (j + 1)) (x:=x) (t:=t)
   rw [hlen] at this; rw [this,hdrop]
  have z0:(0:Int) < ((j + 1:Nat):Int):=by omega
  have w1:IntKind.i64.wrap (((j + 1:Nat):Int) - 1)=(j:Int):=(wr (x:=((j + 1:Nat):Int) - 1) (by omega) (by omega)).trans (by omega)
  have b1:j + 1 < (l.take j ++ x :: t :: l.drop (j + 1)).length:=by rw [hlx]; omega
  have b2:j < (l.take j ++ x :: t :: l.drop (j + 1)).length:=by rw [hlx]; omega
  have hx2:=hid x hxl
  have w2:IntKind.i64.wrap (t.1 - x.1)=t.1 - x.1:=wr (by omega) (by omega)
  simp only [st125_L4,z0,decide_true,cond_true,ge_t,w1,lt_t b1,lt_t b2,List.length_set,toNat_cast,g1',g2',q95,p95,st95_top,Option.bind_some,w2]
  rw [wr (x:=(i:Int) + 1) (by omega) (by omega),succI]
  by_cases hc:t.1 < x.1
  ·have hc':t.1 - x.1 < 0:=by omega
   simp only [hc',decide_true,cond_true]
   have e:((l.take j ++ x :: t :: l.drop (j + 1)).set (j + 1) (x.1,x.2.1,x.2.2.1,x.2.2.2)).set j (t.1,t.2.1,t.2.2.1,t.2.2.2)=l.take j ++ t :: l.drop j:=g3'
   rw [e]
   refine p125_L4_eq g1 n l t hl hid ht hs b i hi j m (by omega) (by omega) (fun y hy=>?_)
   rw [hdrop] at hy
   rcases List.mem_cons.1 hy with rfl | hy
   ·exact hc
   ·exact hd y hy
  ·have hc':¬ t.1 - x.1 < 0:=by omega
   simp only [hc',decide_false,cond_false]
   congr 1
   have e2:l=(l.take j ++ [x]) ++ l.drop (j + 1):=by rw [← htake,List.take_append_drop]
   conv=>rhs; rw [e2]
   rw [ins_split]
   ·simp
   ·intro y hy
    rcases List.mem_append.1 hy with hy | hy
    ·have hpw:=hs
     rw [← List.take_append_drop j l,hdrop,List.pairwise_append] at hpw
     have:=hpw.2.2 y hy x List.mem_cons_self
     omega
    ·have:y=x:=by simpa using hy
     subst this
     exact hc
   ·exact hd
theorem p125_L1_eq (n:Nat) (l:List Th) (t:Th) (hl:l.length≤100) (hn:200≤n) (hid:∀ y ∈ l,0≤y.1∧y.1≤99) (ht:0≤t.1∧t.1≤99) (hs:l.Pairwise (fun a b=>a.1 < b.1)) :
  ∀ (m i:Nat),1≤i→i≤l.length + 1→l.length + 1 - i + 1 < m→(i=l.length + 1→l=[])→p125_L1 n m 0 ((l.length + 1:Nat):Int) i (l ++ [t])=some ((),(ins t l,()))
 | 0,i,_,_,h,_=>by omega
 | m + 1,i,h1,hi,hm,hnil=>by
  show st125_L1 n (p125_L4 (p125_L1 n m) n n) 0 ((l.length + 1:Nat):Int) i (l ++ [t])=_
  by_cases hlt:i < l.length + 1
  ·simp only [st125_L1,lt_t hlt,cond_true]
   by_cases hlast:i=l.length
   ·have:=p125_L4_eq (p125_L1 n m) n l t hl hid ht hs ((l.length + 1:Nat):Int) i (by omega) i n (by omega) (by omega) (by rw [hlast]; simp)
    rw [hlast,List.take_length,List.drop_length] at this
    rw [hlast]
    refine this.trans ?_
    obtain ⟨m,rfl⟩:∃ k,m=k + 1:=⟨m - 1,by omega⟩
    show st125_L1 n (p125_L4 (p125_L1 n m) n n) 0 ((l.length + 1:Nat):Int) ((l.length + 1:Nat):Int) (ins t l)=_
    simp only [st125_L1,lt_f,cond_false]
   ·have hil:i < l.length:=by omega
    obtain ⟨n',rfl⟩:∃ k,n=k + 1:=⟨n - 1,by omega⟩
    show st125_L4 (n' + 1) (p125_L4 (p125_L1 (n' + 1) m) (n' + 1) n') (p125_L1 (n' + 1) m) 0 ((l.length + 1:Nat):Int) i i (l ++ [t])=_
    obtain ⟨j,rfl⟩:∃ j,i=j + 1:=⟨i - 1,by omega⟩
    have hjl:j < l.length:=by omega
    have gg:∀ k,k < l.length→(l ++ [t]).getD k ((0:Int),(0:Int),(0:Int),false)=l.getD k ((0:Int),(0:Int),(0:Int),false):=fun k hk=>by
     rw [List.getD_eq_getElem?_getD,List.getElem?_append_left hk,List.getD_eq_getElem?_getD]
    have z0:(0:Int) < ((j + 1:Nat):Int):=by omega
    have w1:IntKind.i64.wrap (((j + 1:Nat):Int) - 1)=(j:Int):=(wr (x:=((j + 1:Nat):Int) - 1) (by omega) (by omega)).trans (by omega)
    have b1:j + 1 < (l ++ [t]).length:=by simp; omega
    have b2:j < (l ++ [t]).length:=by simp; omega
    obtain ⟨x,hx⟩:∃ x,l.getD j ((0:Int),(0:Int),(0:Int),false)=x:=⟨_,rfl⟩
    obtain ⟨y,hy⟩:∃ y,l.getD (j + 1) ((0:Int),(0:Int),(0:Int),false)=y:=⟨_,rfl⟩
    have hgx:l[j]? = some x:=by rw [← hx]; exact getD_some hjl
    have hgy:l[j + 1]? = some y:=by rw [← hy]; exact getD_some hil
    have hx2:=hid x (List.mem_of_getElem? hgx)
    have hy2:=hid y (List.mem_of_getElem? hgy)
    have hxy:x.1 < y.1:=by
     have h5:=List.pairwise_iff_getElem.1 hs j (j + 1) hjl hil (by omega)
     have e1:l[j]=x:=by rw [List.getElem?_eq_getElem hjl] at hgx; injection hgx
     have e2:l[j + 1]=y:=by rw [List.getElem?_eq_getElem hil] at hgy; injection hgy
     rw [e1,e2] at h5
     exact h5
    have w2:IntKind.i64.wrap (y.1 - x.1)=y.1 - x.1:=wr (by omega) (by omega)
    have hc':¬ y.1 - x.1 < 0:=by omega
    simp only [st125_L4,z0,decide_true,cond_true,ge_t,w1,lt_t b1,lt_t b2,List.length_set,toNat_cast,gg _ hjl,gg _ hil,hx,hy,q95,p95,st95_top,Option.bind_some,w2,hc',decide_false,cond_false]
    rw [wr (x:=((j + 1:Nat):Int) + 1) (by omega) (by omega),succI]
    exact p125_L1_eq (n' + 1) l t hl hn hid ht hs m (j + 1 + 1) (by omega) (by omega) (by omega) (fun h=>by omega)
  ·have hi2:i=l.length + 1:=by omega
   have hln:=hnil hi2
   subst hln
   subst hi2
   simp only [st125_L1,List.length_nil]
   simp [ins]
theorem p134_total (n:Nat) (c:Nat) (h:c≤7):∃ r:Int,p134 n c=some ((r,()),()):=by
 rcases (by omega:c=0∨c=1∨c=2∨c=3∨c=4∨c=5∨c=6∨c=7) with rfl | rfl | rfl | rfl | rfl | rfl | rfl | rfl
 ·exact ⟨0,by kernel_rfl⟩
 ·exact ⟨1,by kernel_rfl⟩
 ·exact ⟨2,by kernel_rfl⟩
 ·exact ⟨2,by kernel_rfl⟩
 ·exact ⟨3,by kernel_rfl⟩
 ·exact ⟨3,by kernel_rfl⟩
 ·exact ⟨3,by kernel_rfl⟩
 ·exact ⟨3,by kernel_rfl⟩
theorem p94_eq (n:Nat) (l:List Th) (t:Th) (hl:l.length≤6) (hn:200≤n) (hid:∀ y ∈ l,0≤y.1∧y.1≤99) (ht:0≤t.1∧t.1≤99) (hs:l.Pairwise (fun a b=>a.1 < b.1)):p94 n (l ++ [t]) ()=some ((),(ins t l,())):=by
 have hlen:(l ++ [t]).length=l.length + 1:=by simp
 have hw:IntKind.u64.wrap (((l ++ [t]).length:Nat):Int)=((l.length + 1:Nat):Int):=by
  rw [hlen]
  have e1:(2:Int) ^ IntKind.u64.bits=18446744073709551616:=rfl
  have e3:IntKind.u64.signed=false:=rfl
  unfold IntKind.wrap
  simp only [e1,e3,Bool.false_and,Bool.false_eq_true,if_false]
  omega
 obtain ⟨r,hr⟩:=p134_total n (l.length + 1) (by omega)
 have h121:p121 n ((l.length + 1:Nat):Int)=some ((r,()),()):=by
  show st121_top n _=_
  simp only [st121_top,q134,hr,Option.bind_some]
 have h125:p125 n (l ++ [t]) 0 ((l.length + 1:Nat):Int) ()=some ((),(ins t l,())):=by
  show st125_top n (p125_L1 n n) (l ++ [t]) 0 ((l.length + 1:Nat):Int) ()=_
  simp only [st125_top]
  have w0:IntKind.i64.wrap (0 + 1)=((1:Nat):Int):=by decide
  rw [w0]
  exact p125_L1_eq n l t (by omega) hn hid ht hs n 1 (by omega) (by omega) (by omega) (fun h=>List.eq_nil_of_length_eq_zero (by omega))
 have h120:p120 n (l ++ [t]) 0 ((l.length + 1:Nat):Int) r ()=some ((),(ins t l,())):=by
  obtain ⟨n',rfl⟩:∃ k,n=k + 1:=⟨n - 1,by omega⟩
  show st120_L2 (n' + 1) 0 ((l.length + 1:Nat):Int) r true true (l ++ [t])=_
  have w1:IntKind.i64.wrap (((l.length + 1:Nat):Int) - 0)=((l.length + 1:Nat):Int):=(wr (x:=((l.length + 1:Nat):Int) - 0) (by omega) (by omega)).trans (by omega)
  have z1:((l.length + 1:Nat):Int)≤12:=by omega
  simp only [st120_L2,w1,z1,decide_true,cond_true,q125,h125,Option.bind_some]
 show st94_top n (l ++ [t]) ()=_
 rw [hlen] at hw
 simp only [st94_top,hlen,hw,q121,h121,Option.bind_some,q120,h120]
def addR (q:Qu) (x w:Int):Qu × Bool :=
 if queueOk q=true∧atF x q.1 0 < 0∧(q.1.length:Int) < 6∧(0≤x∧x≤99)∧(1≤w∧w≤6) then ((ins (x,w,q.2,true) q.1,q.2),true) else (([],0),false)
theorem okQ_pw {fl:Int}:∀ {l:List Th} {p:Option Int},okQ fl p l=true→(∀ y ∈ l,0≤y.1∧y.1≤99)∧l.Pairwise (fun a b=>a.1 < b.1)∧∀ x,p=some x→∀ y ∈ l,x < y.1
 | [],p,_=>⟨(fun y hy=>by cases hy),List.Pairwise.nil,fun _ _ y hy=>by cases hy⟩
 | t :: ts,p,h=>by
  simp only [okQ] at h
  cases hk:tkOk fl p t with
  | true =>
   simp only [hk,cond_true] at h
   simp only [tkOk,Bool.and_eq_true,decide_eq_true_eq] at hk
   obtain ⟨h1,h2,h3⟩:=okQ_pw h
   have h4:=h3 t.1 rfl
   refine ⟨fun y hy=>?_,List.pairwise_cons.2 ⟨h4,h2⟩,fun x hx y hy=>?_⟩
   ·rcases List.mem_cons.1 hy with rfl | hy
    ·exact hk.1
    ·exact h1 y hy
   ·have:=hk.2.2.2.2
    rw [hx] at this
    have:=of_decide_eq_true this
    rcases List.mem_cons.1 hy with rfl | hy
    ·exact this
    ·have:=h4 y hy
     omega
  | false =>
   simp only [hk,cond_false] at h
   cases h
theorem p45_eq (n:Nat) (q:Qu) (x w:Int) (hl:q.1.length≤2000000) (hn:q.1.length < n):p45 n q x w=some (((addR q x w).1,((addR q x w).2,())),()):=by
 obtain ⟨l,fl⟩:=q
 have hl:l.length≤2000000:=hl
 have hn:l.length < n:=hn
 show st45_top n (l,fl) x w=_
 have e1:=p96_eq n (l,fl) hl hn
 have e2:=p97_eq n (l,fl) x hl hn
 have e3:p99 n (l,fl)=some (((l,fl),()),()):=by
  have h3:(0 + l.length) * 32≤140737488355328:=by omega
  show st99_top n (l,fl)=_
  simp only [st99_top,h3,decide_true,cond_true]
 have e4:=p98_eq n (l,fl) (x,w,fl,true) hl hn
 simp only [st45_top,q96,e1,Option.bind_some,q97,e2,q57,p57_eq,q99,e3,q98,e4,addR]
 cases ho:queueOk (l,fl) with
 | false=>simp
 | true =>
  by_cases ha:atF x l 0 < 0
  ·have ha':¬ 0≤atF x l 0:=by omega
   by_cases h6:(l.length:Int) < 6
   ·have h6':¬ (6:Int)≤l.length:=by omega
    by_cases hx:0≤x∧x≤99 <;> by_cases hw:1≤w∧w≤6 <;> simp [ha,ha',h6,h6',hx,hw]
   ·have h6':(6:Int)≤l.length:=by omega
    simp [ha,ha',h6,h6']
  ·have ha':0≤atF x l 0:=by omega
   simp [ha,ha']
theorem p44_eq (n:Nat) (q:Qu) (x w:Int) (hl:q.1.length≤2000000) (hn:q.1.length < n) (hn2:200≤n):p44 n q x w=some (((addR q x w).1,((addR q x w).2,())),()):=by
 obtain ⟨l,fl⟩:=q
 have hl:l.length≤2000000:=hl
 have hn:l.length < n:=hn
 show st44_top n (l,fl) x w=_
 have e1:=p48_eq n (l,fl) hl hn
 have e2:=p92_eq n (l,fl) x hl hn
 have e3:p93 n (l,fl)=some (((l,fl),()),()):=by
  have h3:(0 + l.length) * 32≤140737488355328:=by omega
  show st93_top n (l,fl)=_
  simp only [st93_top,q119,p119,h3,decide_true,cond_true,Option.bind_some]
 have h7:(l.length + [((x,w,fl,true):Th)].length) * 32≤140737488355328:=by simp; omega
 simp only [st44_top,q48,e1,Option.bind_some,q92,e2,q62,p62_eq,q93,e3,h7,decide_true,cond_true,addR]
 cases ho:queueOk (l,fl) with
 | false=>simp
 | true =>
  have ho2:=ho
  simp only [queueOk,Bool.and_eq_true,decide_eq_true_eq] at ho2
  obtain ⟨hq,h6,hf⟩:=ho2
  by_cases h6e:(l.length:Int)=6
  ·have h6':¬ (l.length:Int) < 6:=by omega
   simp [h6e]
  ·have h6':(l.length:Int) < 6:=by omega
   by_cases ha:atF x l 0 < 0
   ·have ha':¬ 0≤atF x l 0:=by omega
    by_cases hx:0≤x∧x≤99
    ·by_cases hw:1≤w∧w≤6
     ·obtain ⟨k1,k2,_⟩:=okQ_pw hq
      have e4:=p94_eq n l (x,w,fl,true) (by omega) hn2 k1 hx k2
      simp only [ha,ha',h6e,h6',hx,hw,q94,e4,Option.bind_some,decide_true,decide_false,Bool.not_true,cond_false,and_self,if_true]
     ·simp [ha,ha',h6e,h6',hx,hw]
    ·simp [ha,ha',h6e,h6',hx]
   ·have ha':0≤atF x l 0:=by omega
    simp [ha,ha',h6e]
theorem addR_small (q:Qu) (x w:Int):(addR q x w).1.1.length≤7:=by
 unfold addR
 split
 ·rename_i h
  have:=h.2.2.1
  show (ins _ q.1).length≤7
  rw [ins_len]
  omega
 ·simp
end Go.Proofs.Ytpcohpkflkhfbaa.Rx.S

namespace Go.Proofs.Ytpcohpkflkhfbaa.Rx.S
open Go Go.Proofs.Ytpcohpkflkhfbaa.Rx.Pu
set_option linter.unusedVariables false
set_option linter.unusedSimpArgs false
def WtP (l:List Th):Prop:=∀ t ∈ l,t.2.1 ≠ 0
theorem getD_memT {l:List Th} {i:Nat} {d:Th} (h:i < l.length):l.getD i d ∈ l:=by
 rw [List.getD_eq_getElem?_getD,List.getElem?_eq_getElem h]
 exact List.getElem_mem h
theorem WtP.set {l:List Th} {i:Nat} {t:Th} (h:WtP l) (ht:t.2.1 ≠ 0):WtP (l.set i t):=fun x hx=>by
 rcases List.mem_or_eq_of_mem_set hx with hx | rfl
 ·exact h x hx
 ·exact ht
theorem ins_mem {t y:Th}:∀ {l:List Th},y ∈ ins t l→y=t∨y ∈ l
 | [],h=>.inl (by simpa [ins] using h)
 | x :: xs,h=>by
  simp only [ins] at h
  split at h
  ·rcases List.mem_cons.1 h with h | h
   ·exact .inl h
   ·exact .inr h
  ·rcases List.mem_cons.1 h with h | h
   ·exact .inr (by rw [h]; exact List.mem_cons_self)
   ·rcases ins_mem h with h | h
    ·exact .inl h
    ·exact .inr (List.mem_cons_of_mem _ h)
theorem WtP.ins {l:List Th} {t:Th} (h:WtP l) (ht:t.2.1 ≠ 0):WtP (ins t l):=fun x hx=>by
 rcases ins_mem hx with rfl | hx
 ·exact ht
 ·exact h x hx
def NextP (l:List Th) (r:Int):Prop:=(r < 0∧∀ j,j < l.length→(l.getD j ((0:Int),(0:Int),(0:Int),false)).2.2.2=false)∨(0≤r∧r < l.length∧(l.getD r.toNat ((0:Int),(0:Int),(0:Int),false)).2.2.2=true)
theorem p124_L3_eq (n:Nat) (l:List Th) (fl:Int) (hl:l.length≤1000):∀ (m i:Nat) (b:Int),i≤l.length→l.length - i < m →
  ((b < 0∧∀ j,j < i→(l.getD j ((0:Int),(0:Int),(0:Int),false)).2.2.2=false)∨(0≤b∧b < l.length∧(l.getD b.toNat ((0:Int),(0:Int),(0:Int),false)).2.2.2=true)) →
  ∃ r:Int,p124_L3 n m b i l fl=some ((r,()),())∧NextP l r
 | 0,i,b,_,h,_=>by omega
 | m + 1,i,b,hi,h,hb=>by
  show ∃ r:Int,st124_L3 n (p124_L3 n m) b i l fl=_∧_
  by_cases h1:i < l.length
  ·simp only [st124_L3,lt_t h1,ge_t,cond_true,toNat_cast]
   rw [wr (x:=(i:Int) + 1) (by omega) (by omega),succI]
   cases hr:(l.getD i ((0:Int),(0:Int),(0:Int),false)).2.2.2 with
   | false =>
    simp only [cond_false]
    refine p124_L3_eq n l fl hl m (i + 1) b (by omega) (by omega) ?_
    rcases hb with ⟨h2,h3⟩ | h2
    ·refine .inl ⟨h2,fun j hj=>?_⟩
     rcases Nat.lt_or_ge j i with h4 | h4
     ·exact h3 j h4
     ·obtain rfl:j=i:=by omega
      exact hr
    ·exact .inr h2
   | true =>
    simp only [cond_true]
    have me:=p124_L3_eq n l fl hl m (i + 1) i (by omega) (by omega) (.inr ⟨by omega,by omega,by rw [toNat_cast]; exact hr⟩)
    rcases hb with ⟨h2,h3⟩ | ⟨h2,h3,h4⟩
    ·simp only [h2,decide_true,cond_true]
     exact me
    ·have h5:¬ b < 0:=by omega
     simp only [h5,h2,h3,decide_true,decide_false,cond_true,cond_false]
     have ot:=p124_L3_eq n l fl hl m (i + 1) b (by omega) (by omega) (.inr ⟨h2,h3,h4⟩)
     cases decide ((l.getD i ((0:Int),(0:Int),(0:Int),false)).2.2.1 < (l.getD b.toNat ((0:Int),(0:Int),(0:Int),false)).2.2.1) with
     | true=>exact me
     | false=>exact ot
  ·have hi2:i=l.length:=by omega
   subst hi2
   simp only [st124_L3,lt_f,cond_false]
   exact ⟨b,rfl,hb⟩
theorem p124_eq (n:Nat) (l:List Th) (fl:Int) (hl:l.length≤1000) (hn:l.length < n):∃ r:Int,p124 n (l,fl)=some ((r,()),())∧NextP l r :=
 p124_L3_eq n l fl hl n 0 (-1) (by omega) (by omega) (.inl ⟨by omega,fun j hj=>by omega⟩)
theorem p115_eq (n:Nat) (l:List Th) (fl:Int) (hl:l.length≤1000) (hn:l.length < n) (hw:WtP l) :
  ∃ (l':List Th) (fl' r:Int),p115 n (l,fl)=some (((l',fl'),(r,())),())∧l'.length=l.length∧WtP l':=by
 show ∃ (l':List Th) (fl' r:Int),st115_top n (l,fl)=_∧_
 obtain ⟨r,hr,hp⟩:=p124_eq n l fl hl hn
 simp only [st115_top,q124,hr,Option.bind_some]
 rcases hp with ⟨h1,_⟩ | ⟨h1,h2,h3⟩
 ·simp only [h1,decide_true,cond_true]
  exact ⟨l,fl,-1,rfl,rfl,hw⟩
 ·obtain ⟨k,rfl⟩:=Int.eq_ofNat_of_zero_le h1
  have hk:k < l.length:=by omega
  have h4:¬ ((k:Int) < 0):=by omega
  rw [toNat_cast] at h3
  have hwk:=hw _ (getD_memT (d:=((0:Int),(0:Int),(0:Int),false)) hk)
  simp only [h4,ge_t,lt_t hk,toNat_cast,decide_false,cond_false,cond_true,hwk,Bool.not_false,h3,List.length_set]
  obtain ⟨c,hcc⟩:∃ c,IntKind.i64.wrap ((l.getD k ((0:Int),(0:Int),(0:Int),false)).2.2.1 + IntKind.i64.wrap (Int.tdiv 60 (l.getD k ((0:Int),(0:Int),(0:Int),false)).2.1))=c:=⟨_,rfl⟩
  simp only [hcc]
  generalize hX:((l.getD k ((0:Int),(0:Int),(0:Int),false)).1,(l.getD k ((0:Int),(0:Int),(0:Int),false)).2.1,c,true)=X
  have hX2:X.2.1 ≠ 0:=by rw [← hX]; exact hwk
  have hX3:X.2.2.2=true:=by rw [← hX]
  obtain ⟨r2,hr2,hp2⟩:=p124_eq n (l.set k X) fl (by simpa using hl) (by simpa using hn)
  simp only [hr2,Option.bind_some]
  by_cases hc:(1000000:Int) < c
  ·simp only [hc,decide_true,cond_true]
   exact ⟨l,fl,-1,rfl,rfl,hw⟩
  ·simp only [hc,decide_false,cond_false]
   rcases hp2 with ⟨g1,g2⟩ | ⟨g1,g2,g3⟩
   ·have:=g2 k (by simpa using hk)
    rw [getD_set_same hk,hX3] at this
    cases this
   ·rw [List.length_set] at g2
    simp only [g1,g2,decide_true,cond_true]
    exact ⟨_,_,_,rfl,by simp,hw.set hX2⟩
theorem p116_eq (n:Nat) (l:List Th) (fl:Int) (k:Nat) (hk:k < l.length) (hw:WtP l) :
  ∃ (l':List Th) (fl':Int),p116 n (l,fl) k=some (((l',fl'),()),())∧l'.length=l.length∧WtP l':=by
 show ∃ (l':List Th) (fl':Int),st116_top n (l,fl) k=_∧_
 have hwk:=hw _ (getD_memT (d:=((0:Int),(0:Int),(0:Int),false)) hk)
 simp only [st116_top,ge_t,lt_t hk,toNat_cast,cond_true,List.length_set]
 cases (l.getD k ((0:Int),(0:Int),(0:Int),false)).2.2.2 with
 | true =>
  simp only [Bool.not_true,cond_false]
  exact ⟨l,fl,rfl,rfl,hw⟩
 | false =>
  simp only [Bool.not_false,cond_true]
  refine ⟨_,_,rfl,by simp,WtP.set (WtP.set hw ?_) ?_⟩
  ·exact hwk
  ·rw [getD_set_same hk]
   exact hwk
def DrawnQ (bs:List Int) (o:Option R91):Prop:=∃ (q:Qu) (pos:Int),o=some ((q,()),((bs,pos),()))∧q.1.length≤8∧0≤pos∧pos≤600
theorem p91_L9_eq (n:Nat) (hn:100≤n) {bs:List Int} (hb:Bys bs) (x4:Int) (g3:Int→(List Int)→Int→Int→Int→(List Th)→Option R91) (k:Nat) (hk:k≤10)
  (hg:∀ (pos fl:Int) (l:List Th),WtP l→l.length + k≤7→0≤pos→pos + 10 * k + 10≤500→DrawnQ bs (g3 k bs pos x4 fl l)) :
  ∀ (m j:Nat) (pos fl:Int) (l:List Th),j≤10→j < m→WtP l→l.length + k≤7→0≤pos→pos + 10 * k + 15≤500→DrawnQ bs (p91_L9 g3 n m ((k + 1:Nat):Int) j bs pos x4 fl l)
 | 0,j,pos,fl,l,_,h,_,_,_,_=>by omega
 | m + 1,j,pos,fl,l,hj,hm,hw,hl,hp,hp2=>by
  show DrawnQ bs (st91_L9 n (p91_L9 g3 n m) g3 ((k + 1:Nat):Int) j bs pos x4 fl l)
  have wk:IntKind.i64.wrap (((k + 1:Nat):Int) - 1)=(k:Int):=(wr (x:=((k + 1:Nat):Int) - 1) (by omega) (by omega)).trans (by omega)
  simp only [st91_L9,wk]
  rcases Nat.eq_zero_or_pos j with rfl | hj0
  ·have z0:¬ ((0:Int) < ((0:Nat):Int)):=by omega
   simp only [z0,decide_false,cond_false]
   by_cases hz:(0:Int) < l.length
   ·simp only [hz,decide_true,cond_true]
    obtain ⟨v,hv,hv0,hv1⟩:=p81_eq n hb (pos:=pos) (b:=3) (by omega) (by omega)
    obtain ⟨v2,hv2,hv20,hv21⟩:=p81_eq n hb (pos:=pos + 1) (b:=l.length) (by omega) (by omega)
    obtain ⟨at',rfl⟩:=Int.eq_ofNat_of_zero_le hv20
    have hat:at' < l.length:=by omega
    obtain ⟨v3,hv3,hv30,hv31⟩:=p81_eq n hb (pos:=pos + 1 + 1) (b:=2) (by omega) (by omega)
    have hwk:=hw _ (getD_memT (d:=((0:Int),(0:Int),(0:Int),false)) hat)
    simp only [q81,hv,hv2,hv3,Option.bind_some,ge_t,lt_t hat,cond_true,toNat_cast]
    generalize hX:((l.getD at' ((0:Int),(0:Int),(0:Int),false)).1,(l.getD at' ((0:Int),(0:Int),(0:Int),false)).2.1,(l.getD at' ((0:Int),(0:Int),(0:Int),false)).2.2.1,false)=X
    have hX2:X.2.1 ≠ 0:=by rw [← hX]; exact hwk
    obtain ⟨l',fl',e1,e2,e3⟩:=p116_eq n (l.set at' X) fl at' (by simpa using hat) (hw.set hX2)
    rw [List.length_set] at e2
    have c1:=hg (pos + 1) fl l hw hl (by omega) (by omega)
    have c2:=hg (pos + 1 + 1 + 1) fl (l.set at' X) (hw.set hX2) (by simpa using hl) (by omega) (by omega)
    have c3:=hg (pos + 1 + 1 + 1) fl' l' e3 (by omega) (by omega) (by omega)
    simp only [q116,e1,Option.bind_some]
    cases decide (v=0) with
    | false=>exact c1
    | true =>
     simp only [cond_true]
     cases decide (v3=0) with
     | false=>exact c2
     | true=>exact c3
   ·simp only [hz,decide_false,cond_false]
    exact hg pos fl l hw hl hp (by omega)
  ·obtain ⟨j,rfl⟩:∃ i,j=i + 1:=⟨j - 1,by omega⟩
   have z0:(0:Int) < ((j + 1:Nat):Int):=by omega
   have wj:IntKind.i64.wrap (((j + 1:Nat):Int) - 1)=(j:Int):=(wr (x:=((j + 1:Nat):Int) - 1) (by omega) (by omega)).trans (by omega)
   obtain ⟨l',fl',r,e1,e2,e3⟩:=p115_eq n l fl (by omega) (by omega) hw
   simp only [z0,decide_true,cond_true,wj,q115,e1,Option.bind_some]
   exact p91_L9_eq n hn hb x4 g3 k hk hg m j pos fl' l' (by omega) (by omega) e3 (by omega) hp hp2
theorem p91_L3_eq (n:Nat) (hn:100≤n) {bs:List Int} (hb:Bys bs) (x3:Int) :
  ∀ (m k:Nat) (pos fl:Int) (l:List Th),k≤10→k < m→WtP l→l.length + k≤7→0≤pos→pos + 10 * k + 10≤500→DrawnQ bs (p91_L3 n m k bs pos x3 fl l)
 | 0,k,pos,fl,l,_,h,_,_,_,_=>by omega
 | m + 1,k,pos,fl,l,hk,hm,hw,hl,hp,hp2=>by
  show DrawnQ bs (st91_L3 n (p91_L9 (p91_L3 n m) n n) k bs pos x3 fl l)
  simp only [st91_L3]
  rcases Nat.eq_zero_or_pos k with rfl | hk0
  ·have z0:¬ ((0:Int) < ((0:Nat):Int)):=by omega
   obtain ⟨v,hv,hv0,hv1⟩:=p81_eq n hb (pos:=pos) (b:=24) (by omega) (by omega)
   obtain ⟨v4,hv4,g40,g41⟩:=p81_eq n hb (pos:=pos + 1) (b:=4) (by omega) (by omega)
   obtain ⟨v5,hv5,g50,g51⟩:=p81_eq n hb (pos:=pos + 1) (b:=101) (by omega) (by omega)
   obtain ⟨v6,hv6,g60,g61⟩:=p81_eq n hb (pos:=pos + 1 + 1) (b:=8) (by omega) (by omega)
   obtain ⟨v7,hv7,g70,g71⟩:=p81_eq n hb (pos:=pos + 1 + 1 + 1) (b:=3) (by omega) (by omega)
   have h5:∀ t:Th,(l.length + [t].length) * 32≤140737488355328:=fun t=>by simp; omega
   have l4:∀ a b c d:Int,((([a,b,c,d]:List Int).length:Nat):Int)=4:=fun _ _ _ _=>rfl
   have l3:∀ a b c:Int,((([a,b,c]:List Int).length:Nat):Int)=3:=fun _ _ _=>rfl
   simp only [z0,decide_false,cond_false,q81,hv,hv4,hv5,hv6,hv7,Option.bind_some,l4,l3,g40,g41,g70,g71,decide_true,cond_true,h5]
   cases decide (v=0) with
   | true=>exact ⟨_,_,rfl,by show l.length≤8; omega,by omega,by omega⟩
   | false =>
    simp only [cond_false]
    cases decide (v=1) with
    | true=>exact ⟨_,_,rfl,by simp; omega,by omega,by omega⟩
    | false=>exact ⟨_,_,rfl,by show l.length≤8; omega,by omega,by omega⟩
  ·obtain ⟨k,rfl⟩:∃ i,k=i + 1:=⟨k - 1,by omega⟩
   have z0:(0:Int) < ((k + 1:Nat):Int):=by omega
   obtain ⟨v,hv,hv0,hv1⟩:=p81_eq n hb (pos:=pos) (b:=8) (by omega) (by omega)
   obtain ⟨v2,hv2,g20,g21⟩:=p81_eq n hb (pos:=pos + 1) (b:=6) (by omega) (by omega)
   obtain ⟨v3,hv3,g30,g31⟩:=p81_eq n hb (pos:=pos + 1 + 1) (b:=9) (by omega) (by omega)
   obtain ⟨v4,hv4,g40,g41⟩:=p81_eq n hb (pos:=pos + 1) (b:=9) (by omega) (by omega)
   obtain ⟨j,rfl⟩:=Int.eq_ofNat_of_zero_le g30
   obtain ⟨i,rfl⟩:=Int.eq_ofNat_of_zero_le g40
   have e1:=p97_eq n (l,fl) v (by show l.length≤_; omega) (by show l.length < _; omega)
   have w2:IntKind.i64.wrap (1 + v2)=1 + v2:=wr (by omega) (by omega)
   have e2:=p98_eq n (l,fl) (v,1 + v2,fl,true) (by show l.length≤_; omega) (by show l.length < _; omega)
   simp only [z0,decide_true,cond_true,q81,hv,hv2,hv3,hv4,Option.bind_some,q97,e1,w2,q98,e2]
   have hg:∀ (pos fl:Int) (l:List Th),WtP l→l.length + k≤7→0≤pos→pos + 10 * k + 10≤500→DrawnQ bs (p91_L3 n m k bs pos x3 fl l):=fun pos fl l h1 h2 h3 h4=>p91_L3_eq n hn hb x3 m k pos fl l (by omega) (by omega) h1 h2 h3 h4
   have hin:=ins_len (v,1 + v2,fl,true) l
   cases decide (atF v l 0 < 0) with
   | true =>
    simp only [cond_true]
    exact p91_L9_eq n hn hb x3 _ k (by omega) hg n j _ fl _ (by omega) (by omega) (hw.ins (by show 1 + v2 ≠ 0; omega)) (by rw [hin]; omega) (by omega) (by omega)
   | false =>
    simp only [cond_false]
    exact p91_L9_eq n hn hb x3 _ k (by omega) hg n i _ fl _ (by omega) (by omega) hw (by omega) (by omega) (by omega)
theorem p91_eq (n:Nat) (hn:100≤n) {bs:List Int} (hb:Bys bs):DrawnQ bs (p91 n (bs,0)):=by
 show DrawnQ bs (st91_top n (p91_L3 n n) (bs,0))
 obtain ⟨v,hv,hv0,hv1⟩:=p81_eq n hb (pos:=0) (b:=6) (by omega) (by omega)
 obtain ⟨k,rfl⟩:=Int.eq_ofNat_of_zero_le hv0
 simp only [st91_top,q81,hv,Option.bind_some]
 exact p91_L3_eq n hn hb 0 n k _ 0 [] (by omega) (by omega) (fun t ht=>by cases ht) (by simp; omega) (by omega) (by omega)
theorem p43_eq (n:Nat) (hn:100≤n) {l:List Int} (hl:∀ x ∈ l,0≤x∧x < 256):∃ (q:Qu) (x w:Int),p43 n l=some ((q,(x,(w,()))),())∧q.1.length≤8:=by
 obtain ⟨l',h1,h2⟩:=p73_eq n hl
 obtain ⟨q,pos,h3,h4,h5,h6⟩:=p91_eq n hn h2
 obtain ⟨v,hv,_,_⟩:=p81_eq n h2 (pos:=pos) (b:=9) (by omega) (by omega)
 obtain ⟨v2,hv2,_,_⟩:=p81_eq n h2 (pos:=pos + 1) (b:=9) (by omega) (by omega)
 obtain ⟨v3,hv3,_,_⟩:=p81_eq n h2 (pos:=pos + 1 + 1) (b:=8) (by omega) (by omega)
 refine ⟨q,IntKind.i64.wrap (v - IntKind.i64.wrap (Int.tdiv v2 8)),v3,?_,h4⟩
 show st43_top n l=_
 simp only [st43_top,q73,h1,q91,h3,q81,hv,hv2,hv3,Option.bind_some]
theorem okQ_ins {fl:Int} {t:Th}:∀ {l:List Th} {p:Option Int},okQ fl p l=true→tkOk fl p t=true→(∀ y ∈ l,y.1 ≠ t.1)→okQ fl p (ins t l)=true
 | [],p,_,ht,_=>by simp only [ins,okQ,ht,cond_true]
 | x :: xs,p,h,ht,hne=>by
  simp only [okQ] at h
  cases hx:tkOk fl p x with
  | false=>rw [hx] at h; cases h
  | true =>
   rw [hx] at h
   simp only [cond_true] at h
   have hx2:=hx
   have ht2:=ht
   simp only [tkOk,Bool.and_eq_true,decide_eq_true_eq] at hx ht
   have hxt:=hne x List.mem_cons_self
   simp only [ins]
   split
   ·rename_i hlt
    have hx3:tkOk fl (some t.1) x=true:=by
     simp only [tkOk,Bool.and_eq_true,decide_eq_true_eq]
     exact ⟨hx.1,hx.2.1,hx.2.2.1,hx.2.2.2.1,hlt⟩
    simp only [okQ,ht2,hx3,cond_true]
    exact h
   ·rename_i hlt
    have ht3:tkOk fl (some x.1) t=true:=by
     simp only [tkOk,Bool.and_eq_true,decide_eq_true_eq]
     exact ⟨ht.1,ht.2.1,ht.2.2.1,ht.2.2.2.1,by omega⟩
    simp only [okQ,hx2,cond_true]
    exact okQ_ins h ht3 (fun y hy=>hne y (List.mem_cons_of_mem _ hy))
theorem ins_at {t:Th}:∀ {l:List Th} (i:Nat),(∀ y ∈ l,y.1 ≠ t.1)→∃ k:Nat,atF t.1 (ins t l) i=((i + k:Nat):Int)∧k < (ins t l).length∧(ins t l).take k ++ (ins t l).drop (k + 1)=l
 | [],i,_=>⟨0,by simp [ins,atF],by simp [ins],by simp [ins]⟩
 | x :: xs,i,hne=>by
  simp only [ins]
  split
  ·exact ⟨0,by simp [atF],by simp,by simp⟩
  ·obtain ⟨k,h1,h2,h3⟩:=ins_at (l:=xs) (i + 1) (fun y hy=>hne y (List.mem_cons_of_mem _ hy))
   refine ⟨k + 1,?_,by simpa using h2,by simpa using h3⟩
   simp only [atF,if_neg (hne x List.mem_cons_self),h1]
   omega
theorem p46_L4_refl (n:Nat) (l:List Th) (fl:Int) (hl:l.length≤1000):∀ (m i:Nat),i≤l.length→l.length - i < m→p46_L4 n m i l fl l fl=some ((true,()),())
 | 0,i,_,h=>by omega
 | m + 1,i,hi,h=>by
  show st46_L4 n (p46_L4 n m) i l fl l fl=_
  by_cases h1:i < l.length
  ·simp only [st46_L4,lt_t h1,ge_t,cond_true,toNat_cast,decide_true,BEq.rfl,Bool.and_self,Bool.not_true,cond_false]
   rw [wr (x:=(i:Int) + 1) (by omega) (by omega),succI]
   exact p46_L4_refl n l fl hl m (i + 1) (by omega) (by omega)
  ·have hi2:i=l.length:=by omega
   subst hi2
   simp only [st46_L4,lt_f,cond_false]
theorem p46_refl (n:Nat) (q:Qu) (hl:q.1.length≤1000) (hn:q.1.length < n):p46 n q q=some ((true,()),()):=by
 show st46_top n (p46_L4 n n) q q=_
 simp only [st46_top,decide_true,Bool.not_true,cond_false]
 exact p46_L4_refl n q.1 q.2 hl n 0 (by omega) (by omega)
theorem p47_back (n:Nat) (l:List Th) (fl x w:Int) (hn:200≤n) (ha:(addR (l,fl) x w).2=true) :
  p47 n (addR (l,fl) x w).1 x=some (((l,fl),(true,())),())∧queueOk (addR (l,fl) x w).1=true:=by
 have hcond:queueOk (l,fl)=true∧atF x l 0 < 0∧(l.length:Int) < 6∧(0≤x∧x≤99)∧(1≤w∧w≤6):=by
  unfold addR at ha
  split at ha
  ·assumption
  ·cases ha
 have he:addR (l,fl) x w=((ins (x,w,fl,true) l,fl),true):=by
  unfold addR
  rw [if_pos hcond]
 obtain ⟨h1,h2,h3,h4,h5⟩:=hcond
 have hne:=atF_mem h2
 rw [he]
 have hok:queueOk (ins (x,w,fl,true) l,fl)=true:=by
  simp only [queueOk,Bool.and_eq_true,decide_eq_true_eq] at h1 ⊢
  refine ⟨okQ_ins h1.1 ?_ hne,?_,h1.2.2⟩
  ·simp [tkOk,h4,h5,h1.2.2]
  ·rw [ins_len]; omega
 refine ⟨?_,hok⟩
 obtain ⟨k,k1,k2,k3⟩:=ins_at (t:=(x,w,fl,true)) 0 hne
 have hil:=ins_len (x,w,fl,true) l
 have k1:atF x (ins (x,w,fl,true) l) 0=(k:Int):=by rw [show ((k:Nat):Int)=((0 + k:Nat):Int) by omega]; exact k1
 have e1:=p48_eq n (ins (x,w,fl,true) l,fl) (by show (ins _ l).length≤_; omega) (by show (ins _ l).length < _; omega)
 have e2:=p92_eq n (ins (x,w,fl,true) l,fl) x (by show (ins _ l).length≤_; omega) (by show (ins _ l).length < _; omega)
 have e3:p93 n (ins (x,w,fl,true) l,fl)=some (((ins (x,w,fl,true) l,fl),()),()):=by
  have h3:(0 + (ins (x,w,fl,true) l).length) * 32≤140737488355328:=by omega
  show st93_top n (_,fl)=_
  simp only [st93_top,q119,p119,h3,decide_true,cond_true,Option.bind_some]
 have hk0:¬ ((k:Int) < 0):=by omega
 have e4:p100 n (ins (x,w,fl,true) l) k ((k:Int) + 1)=some ((l,()),()):=by
  unfold p100
  simp only [ge_t,lt_t k2,cond_true,decide_true,toNat_cast,k3]
 show st47_top n (_,fl) x=_
 simp only [st47_top,q92,e2,q48,e1,Option.bind_some,hok,Bool.not_true,cond_false,k1,hk0,decide_false,q93,e3,q100]
 rw [wr (x:=(k:Int) + 1) (by omega) (by omega),e4]
 rfl
theorem law11 (l:List Int) (hl:∀ x ∈ l,0≤x∧x < 256):p11 1000 l=some ((true,()),()):=by
 show st11_top 1000 l=_
 by_cases h:(1048576:Int) < l.length
 ·simp only [st11_top,h,decide_true,cond_true]
 obtain ⟨⟨ts,fl⟩,x,w,h1,h2⟩:=p43_eq 1000 (by omega) hl
 have h2:ts.length≤8:=h2
 have e1:=p44_eq 1000 (ts,fl) x w (by show ts.length≤_; omega) (by show ts.length < _; omega) (by omega)
 have e2:=p45_eq 1000 (ts,fl) x w (by show ts.length≤_; omega) (by show ts.length < _; omega)
 have s1:=addR_small (ts,fl) x w
 have e:∀ q:Qu,(q.1,q.2)=q:=fun _=>rfl
 have r1:=p46_refl 1000 (addR (ts,fl) x w).1 (by omega) (by omega)
 have r2:=p46_refl 1000 (ts,fl) (by show ts.length≤_; omega) (by show ts.length < _; omega)
 simp only [st11_top,h,decide_false,cond_false,q43,h1,Option.bind_some,q44,e1,q45,e2,q46,e,r1,cond_true,BEq.rfl,Bool.not_true]
 cases ha:(addR (ts,fl) x w).2 with
 | false=>simp only [Bool.not_false,cond_true]
 | true =>
  obtain ⟨b1,b2⟩:=p47_back 1000 ts fl x w (by omega) ha
  have e5:=p48_eq 1000 (addR (ts,fl) x w).1 (by omega) (by omega)
  simp only [Bool.not_true,cond_false,q47,b1,q48,e5,b2,Option.bind_some,cond_true,r2]
theorem pure11 (l:List Int) (h:WfT (.row 5 (.int .u8)) l):∃ n o,q11 n (l,())=some ((true,()),o):=⟨1000,(),law11 l (bytes_wf h)⟩
end Go.Proofs.Ytpcohpkflkhfbaa.Rx.S

