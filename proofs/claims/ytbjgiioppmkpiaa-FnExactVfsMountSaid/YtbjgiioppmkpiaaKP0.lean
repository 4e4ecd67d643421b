/- Plain laws of those functions, no program in sight: the law answers true on all data. No condition. -/
import GoSem.Claim
import Derived.WalkKit
import Derived.Test.YtbjgiioppmkpiaaKF1
set_option linter.unusedVariables false
set_option linter.unusedSimpArgs false
namespace Go.Proofs.Ytbjgiioppmkpiaa.Rx.Gr
set_option linter.unusedVariables false
set_option linter.unusedSimpArgs false
section
variable (e:Nat→List Nat) (fo:Nat→Bool)
def chl (i:Nat):List Nat:=(e i).filter fo
def bfs:Nat→List Nat→List Nat→Option (List Nat)
 | _,done,[]=>some done
 | 0,_,_ :: _=>none
 | k + 1,done,id :: todo=>if id ∈ done then none else bfs k (done ++ [id]) (todo ++ chl e fo id)
def up (ab:Nat→Nat):Nat→Nat→Bool
 | k,0=>true
 | 0,_ + 1=>false
 | k + 1,x + 1=>up ab k (ab (x + 1))
def many (N x:Nat):Nat:=((List.range N).flatMap e).count x
inductive Way:Nat→Nat→Prop
 | root:Way 0 0
 | next {x y k:Nat}:Way x k→y ∈ chl e fo x→Way y (k + 1)
variable {e fo}
theorem count_flatMap_le:∀ {A B:List Nat} (x:Nat),A.Nodup→(∀ a ∈ A,a ∈ B)→(A.flatMap e).count x≤(B.flatMap e).count x
 | [],B,x,_,_=>by simp
 | a :: A,B,x,hn,hs=>by
  obtain ⟨B1,B2,rfl⟩:=List.append_of_mem (hs a List.mem_cons_self)
  have hn':=List.nodup_cons.1 hn
  have ih:=count_flatMap_le (A:=A) (B:=B1 ++ B2) x hn'.2 (fun b hb=>by
   have:=hs b (List.mem_cons_of_mem _ hb)
   rcases List.mem_append.1 this with h | h
   ·exact List.mem_append_left _ h
   ·rcases List.mem_cons.1 h with h | h
    ·subst h; exact absurd hb hn'.1
    ·exact List.mem_append_right _ h)
  simp only [List.flatMap_cons,List.flatMap_append,List.count_append] at ih ⊢
  omega
theorem nodup_len:∀ {A B:List Nat},A.Nodup→(∀ a ∈ A,a ∈ B)→A.length≤B.length
 | [],B,_,_=>by simp
 | a :: A,B,hn,hs=>by
  obtain ⟨B1,B2,rfl⟩:=List.append_of_mem (hs a List.mem_cons_self)
  have hn':=List.nodup_cons.1 hn
  have ih:=nodup_len (A:=A) (B:=B1 ++ B2) hn'.2 (fun b hb=>by
   have:=hs b (List.mem_cons_of_mem _ hb)
   rcases List.mem_append.1 this with h | h
   ·exact List.mem_append_left _ h
   ·rcases List.mem_cons.1 h with h | h
    ·subst h; exact absurd hb hn'.1
    ·exact List.mem_append_right _ h)
  simp only [List.length_append,List.length_cons] at ih ⊢
  omega
theorem count_chl_le (x:Nat) (A:List Nat):(A.flatMap (chl e fo)).count x≤(A.flatMap e).count x:=by
 induction A with
 | nil=>simp
 | cons a A ih =>
  simp only [List.flatMap_cons,List.count_append]
  have:(chl e fo a).count x≤(e a).count x:=List.Sublist.count_le x List.filter_sublist
  omega
theorem count_chl (x:Nat) (hx:fo x=true) (A:List Nat):(A.flatMap (chl e fo)).count x=(A.flatMap e).count x:=by
 induction A with
 | nil=>simp
 | cons a A ih =>
  simp only [List.flatMap_cons,List.count_append,ih]
  have:(chl e fo a).count x=(e a).count x:=List.count_filter hx
  omega
structure Inv (N:Nat) (e:Nat→List Nat) (fo:Nat→Bool) (done todo:List Nat):Prop where
 eq:done ++ todo=0 :: done.flatMap (chl e fo)
 nd:done.Nodup
 lt:∀ x ∈ done ++ todo,x < N∧fo x=true
theorem Inv.step {N id:Nat} {done todo:List Nat} (hr:∀ i,∀ x ∈ e i,x < N) (h:Inv N e fo done (id :: todo)) (hid:id ∉ done):Inv N e fo (done ++ [id]) (todo ++ chl e fo id):=by
 refine ⟨?_,?_,fun x hx=>?_⟩
 ·have:=h.eq
  rw [List.flatMap_append,List.flatMap_singleton,← List.cons_append,← this]
  simp
 ·rw [List.nodup_append]
  exact ⟨h.nd,by simp,fun a ha b hb=>by rw [List.mem_singleton.1 hb]; rintro rfl; exact hid ha⟩
 ·have:x ∈ done ++ (id :: todo)∨x ∈ chl e fo id:=by simp at hx ⊢; grind
  rcases this with h1 | h1
  ·exact h.lt x h1
  ·obtain ⟨h2,h3⟩:=List.mem_filter.1 h1
   exact ⟨hr id x h2,h3⟩
theorem Inv.len {N:Nat} {done todo:List Nat} (h:Inv N e fo done todo):done.length≤N:=by
 have:=nodup_len (B:=List.range N) h.nd (fun a ha=>List.mem_range.2 (h.lt a (List.mem_append_left _ ha)).1)
 simpa using this
theorem bfs_way {N:Nat} (hr:∀ i,∀ x ∈ e i,x < N):∀ {k:Nat} {done todo D:List Nat},Inv N e fo done todo→(∀ x ∈ done ++ todo,∃ q,q≤done.length∧Way e fo x q)→bfs e fo k done todo=some D→Inv N e fo D []∧∀ x ∈ D,∃ q,q≤N∧Way e fo x q
 | k,done,[],D,h,hw,hb=>by
  have hb':done=D:=by cases k <;> (simp only [bfs] at hb; injection hb)
  subst hb'
  exact ⟨h,fun x hx=>by obtain ⟨q,h1,h2⟩:=hw x (by simpa using hx); exact ⟨q,Nat.le_trans h1 h.len,h2⟩⟩
 | 0,done,id :: todo,D,h,hw,hb=>by simp [bfs] at hb
 | k + 1,done,id :: todo,D,h,hw,hb=>by
  simp only [bfs] at hb
  split at hb
  ·cases hb
  ·rename_i hid
   refine bfs_way hr (h.step hr hid) (fun x hx=>?_) hb
   have:x ∈ done ++ (id :: todo)∨x ∈ chl e fo id:=by simp at hx ⊢; grind
   rcases this with h1 | h1
   ·obtain ⟨q,h2,h3⟩:=hw x h1
    exact ⟨q,by simp; omega,h3⟩
   ·obtain ⟨q,h2,h3⟩:=hw id (by simp)
    exact ⟨q + 1,by simp; omega,.next h3 h1⟩
theorem inv0 {N:Nat} (hN:0 < N) (h0:fo 0=true):Inv N e fo [] [0]:=⟨rfl,List.nodup_nil,fun x hx=>by
 have:x=0:=by simpa using hx
 subst this
 exact ⟨hN,h0⟩⟩
theorem many_two {N x i j:Nat} (hi:i < N) (hj:j < N) (hij:i ≠ j) (h1:x ∈ e i) (h2:x ∈ e j):2≤many e N x:=by
 have h:=count_flatMap_le (e:=e) (A:=[i,j]) (B:=List.range N) x (by simp [hij]) (fun a ha=>by
  rcases List.mem_cons.1 ha with rfl | ha
  ·exact List.mem_range.2 hi
  ·rw [List.mem_singleton.1 ha]; exact List.mem_range.2 hj)
 have c1:=List.count_pos_iff.2 h1
 have c2:=List.count_pos_iff.2 h2
 simp only [List.flatMap_cons,List.flatMap_nil,List.count_append,List.count_nil] at h
 unfold many
 omega
theorem way_up {N:Nat} {ab:Nat→Nat} (hr:∀ i,∀ x ∈ e i,x < N) (hN:0 < N) (h1:∀ x,x < N→fo x=true→x ≠ 0→many e N x=1) (hab:∀ x,many e N x=1→ab x < N∧x ∈ e (ab x)):∀ {x k:Nat},Way e fo x k→x < N∧up ab k x=true
 | _,_,.root=>⟨hN,by simp [up]⟩
 | y,_,.next (x:=x) (k:=k) hw hy=>by
  obtain ⟨hx,ih⟩:=way_up hr hN h1 hab hw
  obtain ⟨hy1,hy2⟩:=List.mem_filter.1 hy
  have hyN:=hr x y hy1
  refine ⟨hyN,?_⟩
  cases y with
  | zero=>simp [up]
  | succ y =>
   have hm:=h1 (y + 1) hyN hy2 (by omega)
   obtain ⟨ha1,ha2⟩:=hab (y + 1) hm
   have:ab (y + 1)=x:=by
    by_cases hne:ab (y + 1)=x
    ·exact hne
    ·have:=many_two ha1 hx hne ha2 hy1
     omega
   simp only [up,this]
   exact ih
theorem folders_iff {N K:Nat} {ab:Nat→Nat} (hN:0 < N) (hK:N < K) (hr:∀ i,∀ x ∈ e i,x < N) (hz:∀ i,0 ∉ e i) (hf:∀ i,e i ≠ []→fo i=true) (hl:∀ i,N≤i→e i=[]) (h0:fo 0=true)
  (hab:∀ x,many e N x=1→ab x < N∧x ∈ e (ab x)) :
  ((∃ D,bfs e fo K [] [0]=some D∧∀ x,x < N→fo x=true→x ∈ D)↔(∀ x,x < N→fo x=true→x ≠ 0→many e N x=1∧up ab (N + 1) x=true))∧(∀ D,bfs e fo K [] [0]=some D→Inv N e fo D []):=by
 have upmono:∀ (k m x:Nat),k≤m→up ab k x=true→up ab m x=true:=by
  intro k
  induction k with
  | zero =>
   intro m x _ h
   cases x with
   | zero=>cases m <;> simp [up]
   | succ x=>simp [up] at h
  | succ k ih =>
   intro m x hm h
   cases x with
   | zero=>cases m <;> simp [up]
   | succ x =>
    obtain ⟨m,rfl⟩:∃ m',m=m' + 1:=⟨m - 1,by omega⟩
    simp only [up] at h ⊢
    exact ih m _ (by omega) h
 have hway0:∀ x ∈ ([]:List Nat) ++ [0],∃ q,q≤([]:List Nat).length∧Way e fo x q:=fun x hx=>by
  have:x=0:=by simpa using hx
  subst this
  exact ⟨0,Nat.le_refl _,.root⟩
 refine ⟨⟨?_,?_⟩,fun D hD=>(bfs_way hr (inv0 hN h0) hway0 hD).1⟩
 ·rintro ⟨D,hD,hall⟩
  obtain ⟨hinv,hway⟩:=bfs_way hr (inv0 hN h0) hway0 hD
  have heq:D=0 :: D.flatMap (chl e fo):=by simpa using hinv.eq
  have hone:∀ x,x < N→fo x=true→x ≠ 0→many e N x=1:=by
   intro x hx hfx hx0
   have hxD:=hall x hx hfx
   have c1:D.count x=1:=by
    have:=hinv.nd.count (a:=x)
    rw [this,if_pos hxD]
   have c2:D.count x=(D.flatMap (chl e fo)).count x:=by
    conv=>lhs; rw [heq]
    rw [List.count_cons_of_ne (fun e=>hx0 e.symm)]
   have c3:=count_chl (e:=e) x hfx D
   have hle1:=count_flatMap_le (e:=e) (A:=D) (B:=List.range N) x hinv.nd (fun a ha=>List.mem_range.2 (hinv.lt a (by simpa using ha)).1)
   -- all entries lie in folders,all folders are met
   have hsub:∀ A:List Nat,A.Nodup→(∀ a ∈ A,a < N)→(A.flatMap e).count x≤(D.flatMap e).count x:=by
    intro A hA hAN
    have hfil:(A.flatMap e).count x=((A.filter fun i=>fo i).flatMap e).count x:=by
     clear hA hAN
     induction A with
     | nil=>rfl
     | cons a A ih =>
      rw [List.filter_cons]
      split
      ·simp only [List.flatMap_cons,List.count_append,ih]
      ·rename_i hna
       have:e a=[]:=by
        by_cases hea:e a=[]
        ·exact hea
        ·exact absurd (hf a hea) hna
       simp only [List.flatMap_cons,List.count_append,this,List.count_nil,ih]
       omega
    rw [hfil]
    refine count_flatMap_le x (hA.sublist List.filter_sublist) (fun a ha=>?_)
    obtain ⟨ha1,ha2⟩:=List.mem_filter.1 ha
    exact hall a (hAN a ha1) ha2
   have hle2:=hsub (List.range N) List.nodup_range (fun a ha=>List.mem_range.1 ha)
   unfold many
   omega
  intro x hx hfx hx0
  obtain ⟨q,hq,hw⟩:=hway x (hall x hx hfx)
  exact ⟨hone x hx hfx hx0,upmono q (N + 1) x (by omega) (way_up hr hN hone hab hw).2⟩
 ·intro h
  have hone:∀ x,x < N→fo x=true→x ≠ 0→many e N x=1:=fun x a b c=>(h x a b c).1
  have hm0:many e N 0=0:=by
   unfold many
   rw [List.count_eq_zero]
   intro hm
   obtain ⟨i,_,hi⟩:=List.mem_flatMap.1 hm
   exact hz i hi
  have run:∀ (k:Nat) (done todo:List Nat),Inv N e fo done todo→N + 1≤k + done.length→∃ D,bfs e fo k done todo=some D∧Inv N e fo D []:=by
   intro k
   induction k with
   | zero =>
    intro done todo hi hk
    have:=hi.len
    omega
   | succ k ih =>
    intro done todo hi hk
    cases todo with
    | nil=>exact ⟨done,by simp [bfs],hi⟩
    | cons id todo =>
     have hid:id ∉ done:=by
      intro hmem
      have hlt:=hi.lt id (by simp)
      have c1:2≤(done ++ id :: todo).count id:=by
       have:=List.count_pos_iff.2 hmem
       rw [List.count_append,List.count_cons_self]
       omega
      rw [hi.eq] at c1
      have c2:=count_chl_le (e:=e) (fo:=fo) id done
      have c3:=count_flatMap_le (e:=e) (A:=done) (B:=List.range N) id hi.nd (fun a ha=>List.mem_range.2 (hi.lt a (List.mem_append_left _ ha)).1)
      by_cases h0':id=0
      ·subst h0'
       rw [List.count_cons_self] at c1
       unfold many at hm0
       omega
      ·rw [List.count_cons_of_ne (fun e=>h0' e.symm)] at c1
       have:=hone id hlt.1 hlt.2 h0'
       unfold many at this
       omega
     obtain ⟨D,h1,h2⟩:=ih (done ++ [id]) (todo ++ chl e fo id) (hi.step hr hid) (by simp; omega)
     exact ⟨D,by simp only [bfs,if_neg hid]; exact h1,h2⟩
  obtain ⟨D,hD,hinv⟩:=run K [] [0] (inv0 hN h0) (by simp; omega)
  have heq:D=0 :: D.flatMap (chl e fo):=by simpa using hinv.eq
  refine ⟨D,hD,fun x hx hfx=>?_⟩
  have key:∀ (k x:Nat),x < N→fo x=true→up ab k x=true→x ∈ D:=by
   intro k
   induction k with
   | zero =>
    intro x hx hfx hu
    cases x with
    | zero=>rw [heq]; exact List.mem_cons_self
    | succ x=>simp [up] at hu
   | succ k ih =>
    intro x hx hfx hu
    cases x with
    | zero=>rw [heq]; exact List.mem_cons_self
    | succ x =>
     simp only [up] at hu
     obtain ⟨ha1,ha2⟩:=hab (x + 1) (hone (x + 1) hx hfx (by omega))
     have hp:=ih (ab (x + 1)) ha1 (hf _ (fun hn=>by rw [hn] at ha2; cases ha2)) hu
     rw [heq]
     exact List.mem_cons_of_mem _ (List.mem_flatMap.2 ⟨_,hp,List.mem_filter.2 ⟨ha2,hfx⟩⟩)
  by_cases hx0:x=0
  ·subst hx0; rw [heq]; exact List.mem_cons_self
  ·exact key _ x hx hfx (h x hx hfx hx0).2
end
end Go.Proofs.Ytbjgiioppmkpiaa.Rx.Gr

namespace Go.Proofs.Ytbjgiioppmkpiaa.Rx.Pu
open Go
set_option linter.unusedVariables false
set_option linter.unusedSimpArgs false
theorem wr {x:Int} (h0:-9223372036854775808≤x) (h1:x≤9223372036854775807):IntKind.i64.wrap x=x:=by
 have e1:(2:Int) ^ IntKind.i64.bits=18446744073709551616:=rfl
 have e2:(2:Int) ^ (IntKind.i64.bits - 1)=9223372036854775808:=rfl
 have e3:IntKind.i64.signed=true:=rfl
 unfold IntKind.wrap
 simp only [e1,e2,e3,Bool.true_and,decide_eq_true_eq]
 split <;> omega
theorem cond_dec {α:Type} {p:Prop} [Decidable p] {a b:α}:cond (decide p) a b=if p then a else b:=by
 by_cases h:p <;> simp [h]
theorem toNat_cast (i:Nat):((i:Int)).toNat=i:=rfl
theorem getD_drop {α:Type} {l:List α} {i:Nat} {d:α} (h:i < l.length):l.drop i=l.getD i d :: l.drop (i + 1):=by
 rw [List.drop_eq_getElem_cons h,List.getD_eq_getElem?_getD,List.getElem?_eq_getElem h,Option.getD_some]
end Go.Proofs.Ytbjgiioppmkpiaa.Rx.Pu

namespace Go.Proofs.Ytbjgiioppmkpiaa.Rx.Fs
open Go Go.Proofs.Ytbjgiioppmkpiaa.Rx.Pu Go.Proofs.Ytbjgiioppmkpiaa.Rx.Gr
set_option linter.unusedVariables false
set_option linter.unusedSimpArgs false
theorem less_irrefl:∀ a:List UInt8,Op.bytesLess a a=false
 | []=>rfl
 | a :: x=>by simp [Op.bytesLess,less_irrefl x,UInt8.lt_irrefl]
theorem less_trans:∀ {a b c:List UInt8},Op.bytesLess a b=true→Op.bytesLess b c=true→Op.bytesLess a c=true
 | _,[],_,h,_=>by simp [Op.bytesLess] at h
 | _,_ :: _,[],_,h=>by simp [Op.bytesLess] at h
 | [],_ :: _,_ :: _,_,_=>rfl
 | a :: x,b :: y,c :: z,h,h'=>by
  simp only [Op.bytesLess,Bool.or_eq_true,Bool.and_eq_true,decide_eq_true_eq,beq_iff_eq] at h h' ⊢
  rcases h with h | ⟨rfl,h⟩ <;> rcases h' with h' | ⟨rfl,h'⟩
  ·exact .inl (UInt8.lt_trans h h')
  ·exact .inl h
  ·exact .inl h'
  ·exact .inr ⟨rfl,less_trans h h'⟩
theorem less_total:∀ (a b:List UInt8),Op.bytesLess a b=true∨a=b∨Op.bytesLess b a=true
 | [],[]=>.inr (.inl rfl)
 | [],_ :: _=>.inl rfl
 | _ :: _,[]=>.inr (.inr rfl)
 | a :: x,b :: y=>by
  simp only [Op.bytesLess,Bool.or_eq_true,Bool.and_eq_true,decide_eq_true_eq,beq_iff_eq,List.cons.injEq]
  by_cases hab:a=b
  ·subst hab
   rcases less_total x y with h | h | h
   ·exact .inl (.inr ⟨rfl,h⟩)
   ·exact .inr (.inl ⟨rfl,h⟩)
   ·exact .inr (.inr (.inr ⟨rfl,h⟩))
  ·rcases UInt8.lt_or_lt_of_ne hab with h | h
   ·exact .inl (.inl h)
   ·exact .inr (.inr (.inl h))
def lt (a b:ByteArray):Bool:=Op.bytesLess a.toList b.toList
theorem toList_inj {a b:ByteArray} (h:a.toList=b.toList):a=b:=by
 rw [ByteArray.toList_eq,ByteArray.toList_eq] at h
 cases a with
 | mk x=>cases b with
  | mk y =>
   congr 1
   exact Array.toList_inj.1 h
theorem beq_toList (a b:ByteArray):(a.toList == b.toList)=decide (a=b):=by
 by_cases h:a=b
 ·subst h; simp
 ·have:a.toList ≠ b.toList:=fun e=>h (toList_inj e)
  simp [h,this]
theorem lt_irrefl (a:ByteArray):lt a a=false:=less_irrefl _
theorem lt_trans {a b c:ByteArray} (h:lt a b=true) (h':lt b c=true):lt a c=true:=less_trans h h'
theorem lt_total (a b:ByteArray):lt a b=true∨a=b∨lt b a=true:=by
 rcases less_total a.toList b.toList with h | h | h
 ·exact .inl h
 ·exact .inr (.inl (toList_inj h))
 ·exact .inr (.inr h)
theorem empty_iff (a:ByteArray):(a.toList == (ByteArray.mk #[]).toList)=decide (a.size=0):=by
 rw [beq_toList]
 have h:a=ByteArray.mk #[]↔a.size=0:=by
  constructor
  ·rintro rfl; rfl
  ·intro h
   cases a with
   | mk x =>
    congr 1
    exact Array.eq_empty_of_size_eq_zero h
 simp only [h]
def letter (b:UInt8):Bool:=decide (97≤b.toNat∧b.toNat≤122)
def nmOk (s:ByteArray):Bool:=decide (1≤s.size∧s.size≤3)&&s.data.toList.all letter
theorem size_len (s:ByteArray):s.data.toList.length=s.size:=by rw [Array.length_toList]; rfl
theorem get!_getD (s:ByteArray) (i:Nat) (h:i < s.size):s.get! i=s.data.toList.getD i 0:=by
 cases s with
 | mk d =>
  have h':i < d.size:=h
  show d[i]! = _
  rw [getElem!_pos d i h',List.getD_eq_getElem?_getD,List.getElem?_eq_getElem (by simpa using h')]
  simp
theorem dec_lo (s:ByteArray) (i:Nat) (h:(s.get! i).toNat < 128):Utf8.decode s i=((s.get! i).toNat,1):=by
 simp only [Utf8.decode,Nat.add_zero]
 rw [if_pos h]
theorem dec_hi (s:ByteArray) (i:Nat) (h:¬ (s.get! i).toNat < 128):122 < (Utf8.decode s i).1:=by
 simp only [Utf8.decode,Nat.add_zero]
 rw [if_neg h]
 repeat' split
 all_goals simp_all [Utf8.runeError]
 all_goals omega
abbrev En:=ByteArray × Int
abbrev Nd:=Int × Int × Int × Int × Int × Int × Bool × ByteArray × List En
abbrev d0:Nd:=ZN
abbrev e0:En:=(ByteArray.empty,(0:Int))
abbrev kd (n:Nd):Int:=n.1
abbrev md (n:Nd):Int:=n.2.1
abbrev ow (n:Nd):Int:=n.2.2.1
abbrev gr (n:Nd):Int:=n.2.2.2.1
abbrev lk (n:Nd):Int:=n.2.2.2.2.1
abbrev op (n:Nd):Int:=n.2.2.2.2.2.1
abbrev mk (n:Nd):Bool:=n.2.2.2.2.2.2.1
abbrev tx (n:Nd):ByteArray:=n.2.2.2.2.2.2.2.1
abbrev nm (n:Nd):List En:=n.2.2.2.2.2.2.2.2
def zr (n:Nd):Prop:=kd n=0∧md n=0∧ow n=0∧gr n=0∧lk n=0∧op n=0∧mk n=false∧(tx n).size=0∧(nm n).length=0
instance (n:Nd):Decidable (zr n):=by unfold zr; infer_instance
def baseI (n:Nd):Bool:=decide (1≤kd n∧kd n≤2)&&(decide (0≤md n∧md n≤511)&&(decide (0≤ow n∧ow n≤9)&&(decide (0≤gr n∧gr n≤9)&&(decide (0≤op n∧op n≤99) &&
  ((bif decide (kd n=1) then !decide ((40:Int) < ((tx n).size:Int))&&!decide ((0:Int) < ((nm n).length:Int)) else true) &&
   (bif decide (kd n=2) then decide ((tx n).size=0)&&(!mk n&&!decide ((6:Int) < ((nm n).length:Int))) else true))))))
def baseS (n:Nd):Bool:=decide (1≤kd n∧kd n≤2)&&(decide (0≤md n∧md n≤511)&&(decide (0≤ow n∧ow n≤9)&&(decide (0≤gr n∧gr n≤9)&&(decide (0≤op n∧op n≤99)&&(decide (0≤lk n∧lk n≤99) &&
  (!decide ((40:Int) < ((tx n).size:Int))&&(!decide ((6:Int) < ((nm n).length:Int)) &&
   ((bif decide (kd n=2) then decide ((tx n).size=0)&&!mk n else true)&&(bif decide (kd n=1) then !decide ((0:Int) < ((nm n).length:Int)) else true)))))))))
def sorted (es:List En) (k:Nat):Bool:=decide (k=0) || lt (es.getD (k - 1) e0).1 (es.getD k e0).1
def entI (f:List Nd) (es:List En) (k:Nat):Bool:=nmOk (es.getD k e0).1&&(decide (0≤(es.getD k e0).2∧(es.getD k e0).2≤9)&&(!decide (kd (f.getD (es.getD k e0).2.toNat d0)=0)&&sorted es k))
def entS (es:List En) (k:Nat):Bool:=nmOk (es.getD k e0).1&&(decide (1≤(es.getD k e0).2∧(es.getD k e0).2≤9)&&sorted es k)
def entsI (f:List Nd) (es:List En):Nat→Nat→Bool
 | 0,_=>true
 | d + 1,k=>entI f es k&&entsI f es d (k + 1)
def entsS (es:List En):Nat→Nat→Bool
 | 0,_=>true
 | d + 1,k=>entS es k&&entsS es d (k + 1)
theorem entsI_iff (f:List Nd) (es:List En):∀ (d k:Nat),entsI f es d k=true↔∀ j,k≤j→j < k + d→entI f es j=true
 | 0,k=>by simp [entsI]; omega
 | d + 1,k=>by
  simp only [entsI,Bool.and_eq_true,entsI_iff f es d (k + 1)]
  constructor
  ·rintro ⟨h1,h2⟩ j hj hj2
   rcases Nat.eq_or_lt_of_le hj with rfl | h
   ·exact h1
   ·exact h2 j (by omega) (by omega)
  ·intro h
   exact ⟨h k (by omega) (by omega),fun j hj hj2=>h j (by omega) (by omega)⟩
theorem entsS_iff (es:List En):∀ (d k:Nat),entsS es d k=true↔∀ j,k≤j→j < k + d→entS es j=true
 | 0,k=>by simp [entsS]; omega
 | d + 1,k=>by
  simp only [entsS,Bool.and_eq_true,entsS_iff es d (k + 1)]
  constructor
  ·rintro ⟨h1,h2⟩ j hj hj2
   rcases Nat.eq_or_lt_of_le hj with rfl | h
   ·exact h1
   ·exact h2 j (by omega) (by omega)
  ·intro h
   exact ⟨h k (by omega) (by omega),fun j hj hj2=>h j (by omega) (by omega)⟩
def ndI (f:List Nd) (n:Nd):Bool:=bif decide (kd n=0) then decide (zr n) else baseI n&&entsI f (nm n) (nm n).length 0
def ndS (n:Nd):Bool:=bif decide (kd n=0) then decide (zr n) else baseS n&&entsS (nm n) (nm n).length 0
theorem baseS_len {n:Nd} (h:baseS n=true):(nm n).length≤6:=by
 simp only [baseS,Bool.and_eq_true,Bool.not_eq_true',decide_eq_true_eq,decide_eq_false_iff_not] at h
 omega
theorem baseI_len {n:Nd} (h:baseI n=true):(nm n).length≤6:=by
 simp only [baseI,Bool.and_eq_true,Bool.not_eq_true',decide_eq_true_eq,decide_eq_false_iff_not] at h
 obtain ⟨h1,_,_,_,_,h2,h3⟩:=h
 have:kd n=1∨kd n=2:=by omega
 rcases this with h4 | h4
 ·simp only [h4,decide_true,cond_true,Bool.and_eq_true,Bool.not_eq_true',decide_eq_false_iff_not] at h2; omega
 ·simp only [h4,decide_true,cond_true,Bool.and_eq_true,Bool.not_eq_true',decide_eq_false_iff_not] at h3; omega
def cntE (l:List Int) (es:List En):List Int:=es.foldl (fun l e=>l.set e.2.toNat (l.getD e.2.toNat 0 + 1)) l
def abvE (i:Nat) (l:List Int) (es:List En):List Int:=es.foldl (fun l e=>l.set e.2.toNat (i:Int)) l
def cntN (l:List Int):List Nd→List Int
 | []=>l
 | n :: ns=>cntN (cntE l (nm n)) ns
def abvN (l:List Int):Nat→List Nd→List Int
 | _,[]=>l
 | i,n :: ns=>abvN (abvE i l (nm n)) (i + 1) ns
end Go.Proofs.Ytbjgiioppmkpiaa.Rx.Fs
namespace Go.Proofs.Ytbjgiioppmkpiaa.Rx.Fs
open Go Go.Proofs.Ytbjgiioppmkpiaa.Rx.Pu Go.Proofs.Ytbjgiioppmkpiaa.Rx.Gr
set_option linter.unusedVariables false
set_option linter.unusedSimpArgs false
theorem cntE_length:∀ (es:List En) (l:List Int),(cntE l es).length=l.length
 | [],_=>rfl
 | e :: es,l=>by
  show (cntE (l.set e.2.toNat (l.getD e.2.toNat 0 + 1)) es).length=_
  rw [cntE_length es,List.length_set]
theorem getD_set_i {α:Type} (l:List α) (i j:Nat) (v d:α):(l.set i v).getD j d=if i=j∧i < l.length then v else l.getD j d:=by
 simp only [List.getD_eq_getElem?_getD,List.getElem?_set]
 by_cases h:i=j
 ·subst h
  by_cases h2:i < l.length
  ·simp [h2]
  ·simp [h2]
 ·simp [h]
theorem cntE_bound:∀ (es:List En) (l:List Int) (B:Int),(∀ x,0≤l.getD x 0∧l.getD x 0≤B)→∀ x,0≤(cntE l es).getD x 0∧(cntE l es).getD x 0≤B + es.length
 | [],l,B,h,x=>by simpa [cntE] using h x
 | e :: es,l,B,h,x=>by
  have:=cntE_bound es (l.set e.2.toNat (l.getD e.2.toNat 0 + 1)) (B + 1) (fun y=>by
   rw [getD_set_i]
   have h1:=h e.2.toNat
   have h2:=h y
   split <;> omega) x
  simp only [List.length_cons]
  constructor
  ·exact this.1
  ·have h3:=this.2
   show (cntE (l.set e.2.toNat (l.getD e.2.toNat 0 + 1)) es).getD x 0≤_
   omega
def ids (f:List Nd) (i:Nat):List Nat:=(nm (f.getD i d0)).map fun e=>e.2.toNat
def fold (f:List Nd) (x:Nat):Bool:=decide (kd (f.getD x d0)=2)
def metOf (D:List Nat):List Bool:=(List.range 10).map fun x=>decide (x ∈ D)
theorem metOf_length (D:List Nat):(metOf D).length=10:=by simp [metOf]
theorem metOf_getD (D:List Nat) (x:Nat) (h:x < 10):(metOf D).getD x false=decide (x ∈ D):=by
 simp [metOf,List.getD_eq_getElem?_getD,h]
theorem metOf_set (D:List Nat) (x:Nat) (h:x < 10):(metOf D).set x true=metOf (D ++ [x]):=by
 apply List.ext_getElem?
 intro j
 rw [List.getElem?_set]
 by_cases hj:j < 10
 ·simp only [metOf,List.length_map,List.length_range,List.getElem?_map,List.getElem?_range hj,Option.map_some,List.mem_append,List.mem_singleton]
  by_cases hx:x=j
  ·subst hx; simp [h]
  ·have:¬ j=x:=fun e=>hx e.symm
   simp [hx,this]
 ·have e1:(metOf D)[j]? = none:=List.getElem?_eq_none (by rw [metOf_length]; omega)
  have e2:(metOf (D ++ [x]))[j]? = none:=List.getElem?_eq_none (by rw [metOf_length]; omega)
  rw [e1,e2,if_neg (by omega)]
theorem metOf_nil:metOf []=List.replicate 10 false:=by decide
def chkSv (a:Nd) (c:Int) (b:Bool):Bool :=
 !(decide (0 < c)&&decide (kd a=0))&&((bif decide (kd a=0) then true else decide (lk a=c)) &&
  ((bif decide (kd a=2) then b else true)&&!(decide (kd a=1)&&(decide (lk a=0)&&decide (op a=0)))))
def chkS (f:List Nd) (L:List Int) (M:List Bool) (i:Nat):Bool:=chkSv (f.getD i d0) (L.getD i 0) (M.getD i false)
def chksS (f:List Nd) (L:List Int) (M:List Bool):Nat→Nat→Bool
 | 0,_=>true
 | d + 1,i=>chkS f L M i&&chksS f L M d (i + 1)
def ndsS (f:List Nd):Nat→Nat→Bool
 | 0,_=>true
 | d + 1,i=>ndS (f.getD i d0)&&ndsS f d (i + 1)
theorem chksS_iff (f:List Nd) (L:List Int) (M:List Bool):∀ (d k:Nat),chksS f L M d k=true↔∀ j,k≤j→j < k + d→chkS f L M j=true
 | 0,k=>by simp [chksS]; omega
 | d + 1,k=>by
  simp only [chksS,Bool.and_eq_true,chksS_iff f L M d (k + 1)]
  constructor
  ·rintro ⟨h1,h2⟩ j hj hj2
   rcases Nat.eq_or_lt_of_le hj with rfl | h
   ·exact h1
   ·exact h2 j (by omega) (by omega)
  ·intro h
   exact ⟨h k (by omega) (by omega),fun j hj hj2=>h j (by omega) (by omega)⟩
theorem ndsS_iff (f:List Nd):∀ (d k:Nat),ndsS f d k=true↔∀ j,k≤j→j < k + d→ndS (f.getD j d0)=true
 | 0,k=>by simp [ndsS]; omega
 | d + 1,k=>by
  simp only [ndsS,Bool.and_eq_true,ndsS_iff f d (k + 1)]
  constructor
  ·rintro ⟨h1,h2⟩ j hj hj2
   rcases Nat.eq_or_lt_of_le hj with rfl | h
   ·exact h1
   ·exact h2 j (by omega) (by omega)
  ·intro h
   exact ⟨h k (by omega) (by omega),fun j hj hj2=>h j (by omega) (by omega)⟩
theorem ndS_len {n:Nd} (h:ndS n=true):(nm n).length≤6:=by
 unfold ndS at h
 cases hk:decide (kd n=0) with
 | true =>
  rw [hk] at h
  have:zr n:=of_decide_eq_true h
  have:=this.2.2.2.2.2.2.2.2
  omega
 | false =>
  rw [hk] at h
  simp only [cond_false,Bool.and_eq_true] at h
  exact baseS_len h.1
theorem ndS_ids {n:Nd} (h:ndS n=true):∀ e ∈ nm n,1≤e.2∧e.2≤9:=by
 intro e he
 have hl:=ndS_len h
 unfold ndS at h
 cases hk:decide (kd n=0) with
 | true =>
  rw [hk] at h
  have:zr n:=of_decide_eq_true h
  have:=this.2.2.2.2.2.2.2.2
  have:nm n=[]:=List.eq_nil_of_length_eq_zero this
  rw [this] at he
  cases he
 | false =>
  rw [hk] at h
  simp only [cond_false,Bool.and_eq_true] at h
  obtain ⟨k,hk2,hke⟩:=List.getElem_of_mem he
  have:=(entsS_iff (nm n) _ 0).1 h.2 k (by omega) (by omega)
  have he2:(nm n).getD k e0=e:=by rw [List.getD_eq_getElem?_getD,List.getElem?_eq_getElem hk2,Option.getD_some,hke]
  simp only [entS,he2,Bool.and_eq_true,decide_eq_true_eq] at this
  exact this.2.1
end Go.Proofs.Ytbjgiioppmkpiaa.Rx.Fs
namespace Go.Proofs.Ytbjgiioppmkpiaa.Rx.Fs
open Go Go.Proofs.Ytbjgiioppmkpiaa.Rx.Pu Go.Proofs.Ytbjgiioppmkpiaa.Rx.Gr
set_option linter.unusedVariables false
set_option linter.unusedSimpArgs false
theorem abvE_length (i:Nat):∀ (es:List En) (l:List Int),(abvE i l es).length=l.length
 | [],_=>rfl
 | e :: es,l=>by
  show (abvE i (l.set e.2.toNat (i:Int)) es).length=_
  rw [abvE_length i es,List.length_set]
theorem abvE_bound (i:Nat) (hi:i < 10):∀ (es:List En) (l:List Int),(∀ x,0≤l.getD x 0∧l.getD x 0≤9)→∀ x,0≤(abvE i l es).getD x 0∧(abvE i l es).getD x 0≤9
 | [],l,h,x=>h x
 | e :: es,l,h,x=>abvE_bound i hi es (l.set e.2.toNat (i:Int)) (fun y=>by
   rw [getD_set_i]
   have h2:=h y
   split <;> omega) x
def abF (A:List Int) (x:Nat):Nat:=(A.getD x 0).toNat
def chkIv (a:Nd) (c:Int) (i:Int) (u:Bool):Bool :=
 bif decide (kd a=0) then true else decide (lk a=c)&&(!(decide (kd a=1)&&(decide (lk a=0)&&decide (op a=0))) &&
  (!(decide (kd a=2)&&(decide ((0:Int) < i)&&!decide (lk a=1)))&&(!(decide (i=0)&&!decide (lk a=0))&&(bif decide (kd a=2) then u else true))))
def chkI (f:List Nd) (L A:List Int) (i:Nat):Bool:=chkIv (f.getD i d0) (L.getD i 0) (i:Int) (Gr.up (abF A) 11 i)
def chksI (f:List Nd) (L A:List Int):Nat→Nat→Bool
 | 0,_=>true
 | d + 1,i=>chkI f L A i&&chksI f L A d (i + 1)
def ndsI (f:List Nd):Nat→Nat→Bool
 | 0,_=>true
 | d + 1,i=>ndI f (f.getD i d0)&&ndsI f d (i + 1)
theorem chksI_iff (f:List Nd) (L A:List Int):∀ (d k:Nat),chksI f L A d k=true↔∀ j,k≤j→j < k + d→chkI f L A j=true
 | 0,k=>by simp [chksI]; omega
 | d + 1,k=>by
  simp only [chksI,Bool.and_eq_true,chksI_iff f L A d (k + 1)]
  constructor
  ·rintro ⟨h1,h2⟩ j hj hj2
   rcases Nat.eq_or_lt_of_le hj with rfl | h
   ·exact h1
   ·exact h2 j (by omega) (by omega)
  ·intro h
   exact ⟨h k (by omega) (by omega),fun j hj hj2=>h j (by omega) (by omega)⟩
theorem ndsI_iff (f:List Nd):∀ (d k:Nat),ndsI f d k=true↔∀ j,k≤j→j < k + d→ndI f (f.getD j d0)=true
 | 0,k=>by simp [ndsI]; omega
 | d + 1,k=>by
  simp only [ndsI,Bool.and_eq_true,ndsI_iff f d (k + 1)]
  constructor
  ·rintro ⟨h1,h2⟩ j hj hj2
   rcases Nat.eq_or_lt_of_le hj with rfl | h
   ·exact h1
   ·exact h2 j (by omega) (by omega)
  ·intro h
   exact ⟨h k (by omega) (by omega),fun j hj hj2=>h j (by omega) (by omega)⟩
def z10:List Int:=List.replicate 10 0
theorem z10_getD (x:Nat):z10.getD x 0=0:=by
 rw [List.getD_eq_getElem?_getD]
 by_cases h:x < 10
 ·simp only [z10,List.getElem?_replicate,h,if_true,Option.getD_some]
 ·rw [List.getElem?_eq_none (by simp only [z10,List.length_replicate]; omega)]; rfl
def okI (f:List Nd):Bool:=decide (f.length=10)&&(decide (kd (f.getD 0 d0)=2)&&(ndsI f 10 0&&chksI f (cntN z10 f) (abvN z10 0 f) 10 0))
noncomputable def okS (f:List Nd):Bool:=decide (f.length=10)&&(ndsS f 10 0&&(decide (kd (f.getD 0 d0)=2) &&
 (match Gr.bfs (ids f) (fold f) 11 [] [0] with | some D=>chksS f (cntN z10 f) (metOf D) 10 0 | none=>false)))
end Go.Proofs.Ytbjgiioppmkpiaa.Rx.Fs

namespace Go.Proofs.Ytbjgiioppmkpiaa.Rx.Pu
open Go
set_option linter.unusedVariables false
set_option linter.unusedSimpArgs false
theorem copy_loop {α β γ:Type} (F:Nat→List α→Int→List β→γ) (R:List β→γ) (g:α→β) (da:α) (xs:List α)
  (hF:∀ k (i:Nat) (acc:List β),i < xs.length→acc.length=xs.length→F (k + 1) xs i acc=F k xs ((i + 1:Nat):Int) (acc.set i (g (xs.getD i da))))
  (hE:∀ k acc,F (k + 1) xs (xs.length:Int) acc=R acc):∀ (d k i:Nat) (acc:List β),acc.length=xs.length→i + d=xs.length→d < k→(∀ j,j < i→acc[j]? = (xs.map g)[j]?)→F k xs i acc=R (xs.map g):=by
 intro d
 induction d with
 | zero =>
  intro k i acc hl hd hk hj
  obtain ⟨k,rfl⟩:∃ m,k=m + 1:=⟨k - 1,by omega⟩
  have hi:i=xs.length:=by omega
  subst hi
  rw [hE]
  congr 1
  apply List.ext_getElem?
  intro j
  rcases Nat.lt_or_ge j xs.length with h | h
  ·exact hj j h
  ·rw [List.getElem?_eq_none (by omega),List.getElem?_eq_none (by simp; omega)]
 | succ d ih =>
  intro k i acc hl hd hk hj
  obtain ⟨k,rfl⟩:∃ m,k=m + 1:=⟨k - 1,by omega⟩
  rw [hF k i acc (by omega) hl]
  refine ih k (i + 1) _ (by simp [hl]) (by omega) (by omega) (fun j hji=>?_)
  rcases Nat.lt_or_ge j i with h | h
  ·rw [List.getElem?_set_ne (by omega)]
   exact hj j h
  ·obtain rfl:j=i:=by omega
   rw [List.getElem?_set_self (by omega)]
   simp [List.getD_eq_getElem?_getD,List.getElem?_eq_getElem (show j < xs.length by omega)]
theorem round_loop {γ:Type} (F:Nat→Int→γ) (r:γ) (n:Nat) (hF:∀ k (i:Nat),i < n→F (k + 1) i=F k ((i + 1:Nat):Int)) (hE:∀ k,F (k + 1) (n:Int)=r):∀ (d k i:Nat),i + d=n→d < k→F k i=r:=by
 intro d
 induction d with
 | zero =>
  intro k i hd hk
  obtain ⟨k,rfl⟩:∃ m,k=m + 1:=⟨k - 1,by omega⟩
  have hi:i=n:=by omega
  subst hi
  exact hE k
 | succ d ih =>
  intro k i hd hk
  obtain ⟨k,rfl⟩:∃ m,k=m + 1:=⟨k - 1,by omega⟩
  rw [hF k i (by omega)]
  exact ih k (i + 1) (by omega) (by omega)
def marks {α:Type} (f:Int→α) (s m:Int) (n:Nat):List α:=(List.range n).map fun (j:Nat)=>f (m + s * j)
theorem marks_length {α:Type} (f:Int→α) (s m:Int) (n:Nat):(marks f s m n).length=n:=by simp [marks]
theorem marks_getD {α:Type} (f:Int→α) (s m:Int) (n j:Nat) (h:j < n) (d:α):(marks f s m n).getD j d=f (m + s * j):=by
 simp [marks,List.getD_eq_getElem?_getD,h]
theorem mark_loop {α γ:Type} (F:Nat→Int→Int→List α→γ) (R:Int→List α→γ) (f:Int→α) (s m0:Int) (n:Nat)
  (hF:∀ k (i:Nat) (xs:List α),i < n→xs.length=n→F (k + 1) (m0 + s * i) i xs=F k (m0 + s * ((i + 1:Nat):Int)) ((i + 1:Nat):Int) (xs.set i (f (m0 + s * i))))
  (hE:∀ k (xs:List α),xs.length=n→F (k + 1) (m0 + s * n) n xs=R (m0 + s * n) xs):∀ (d k i:Nat) (xs:List α),xs.length=n→i + d=n→d < k→(∀ j,j < i→xs[j]? = (marks f s m0 n)[j]?) →
  F k (m0 + s * i) i xs=R (m0 + s * n) (marks f s m0 n):=by
 intro d
 induction d with
 | zero =>
  intro k i xs hl hd hk hj
  obtain ⟨k,rfl⟩:∃ m,k=m + 1:=⟨k - 1,by omega⟩
  have hin:i=n:=by omega
  subst hin
  rw [hE k xs hl]
  congr 1
  apply List.ext_getElem?
  intro j
  rcases Nat.lt_or_ge j i with h | h
  ·exact hj j h
  ·rw [List.getElem?_eq_none (by omega),List.getElem?_eq_none (by rw [marks_length]; omega)]
 | succ d ih =>
  intro k i xs hl hd hk hj
  obtain ⟨k,rfl⟩:∃ m,k=m + 1:=⟨k - 1,by omega⟩
  rw [hF k i xs (by omega) hl]
  refine ih k (i + 1) _ (by simp [hl]) (by omega) (by omega) (fun j hji=>?_)
  rcases Nat.lt_or_ge j i with h | h
  ·rw [List.getElem?_set_ne (by omega)]
   exact hj j h
  ·obtain rfl:j=i:=by omega
   rw [List.getElem?_set_self (by omega)]
   simp [marks,show j < n by omega]
theorem held_loop {γ:Type} (F:Nat→Int→Int→γ) (R:Int→γ) (s m0:Int) (n:Nat)
  (hF:∀ k (i:Nat),i < n→F (k + 1) (m0 + s * i) i=F k (m0 + s * ((i + 1:Nat):Int)) ((i + 1:Nat):Int)) (hE:∀ k,F (k + 1) (m0 + s * n) n=R (m0 + s * n)):∀ (d k i:Nat),i + d=n→d < k→F k (m0 + s * i) i=R (m0 + s * n):=by
 intro d
 induction d with
 | zero =>
  intro k i hd hk
  obtain ⟨k,rfl⟩:∃ m,k=m + 1:=⟨k - 1,by omega⟩
  have hin:i=n:=by omega
  subst hin
  exact hE k
 | succ d ih =>
  intro k i hd hk
  obtain ⟨k,rfl⟩:∃ m,k=m + 1:=⟨k - 1,by omega⟩
  rw [hF k i (by omega)]
  exact ih k (i + 1) (by omega) (by omega)
end Go.Proofs.Ytbjgiioppmkpiaa.Rx.Pu

namespace Go.Proofs.Ytbjgiioppmkpiaa.Rx.S
open Go Go.Proofs.Ytbjgiioppmkpiaa.Rx.Pu Go.Proofs.Ytbjgiioppmkpiaa.Rx.Fs
set_option linter.unusedVariables false
set_option linter.unusedSimpArgs false
theorem lt_t {i n:Nat} (h:i < n):decide ((i:Int) < (n:Int))=true:=by simp; omega
theorem lt_f (n:Nat):decide ((n:Int) < (n:Int))=false:=by simp
theorem ge_t (i:Nat):decide ((0:Int)≤(i:Int))=true:=by simp
theorem succI (i:Nat):(i:Int) + 1=((i + 1:Nat):Int):=by omega
theorem wr_succ {i:Nat} (h:i < 4611686018427387904):IntKind.i64.wrap ((i:Int) + 1)=((i + 1:Nat):Int):=(wr (x:=(i:Int) + 1) (by omega) (by omega)).trans (succI i)
theorem p61_eq (n:Nat) (a b c:Int):p61 n a b c=some ((decide (b≤a∧a≤c),()),()):=by
 show st61_top n a b c=_
 simp only [st61_top,cond_dec]
 by_cases h:b≤a <;> simp [h]
theorem p66_eq (n:Nat) (a b c:Int):p66 n a b c=some ((decide (b≤a∧a≤c),()),()):=by
 show st66_top n a b c=_
 simp only [st66_top,cond_dec]
 by_cases h:b≤a <;> simp [h]
theorem p118_eq (n:Nat) (a:Int):p118 n a=some ((decide (0≤a∧a≤9),()),()):=by
 show st118_top n a=_
 simp only [st118_top,q66,p66_eq,Option.bind_some]
theorem p120_eq (n:Nat) (a:Int):p120 n a=some ((decide (a < 97∨122 < a),()),()):=by
 show st120_top n a=_
 simp only [st120_top,cond_dec]
 by_cases h:a < 97 <;> simp [h]
theorem letters_drop {s:ByteArray} {i:Nat} (h:i < s.size):(s.data.toList.drop i).all letter=(letter (s.data.toList.getD i 0)&&(s.data.toList.drop (i + 1)).all letter):=by
 rw [getD_drop (d:=0) (by rw [size_len]; exact h)]
 rfl
theorem p147_L2_eq (n:Nat) (s:ByteArray):∀ (m i:Nat),i≤s.size→s.size - i < m→∃ r:Int,p147_L2 n m true s (i:Int)=some ((r,()),())∧decide (r < 0)=(s.data.toList.drop i).all letter
 | 0,i,_,h=>by omega
 | m + 1,i,hi,h=>by
  show ∃ r:Int,st147_L2 n (p147_L2 n m) true s i=_∧_
  simp only [st147_L2,toNat_cast]
  by_cases h1:i < s.size
  ·have h2:decide (i < s.size)=true:=by simpa using h1
   rw [letters_drop h1]
   simp only [h2,cond_true,q120,p120_eq,Option.bind_some]
   have hg:=get!_getD s i h1
   by_cases h3:(s.get! i).toNat < 128
   ·rw [dec_lo s i h3]
    simp only
    by_cases h4:letter (s.data.toList.getD i 0)=true
    ·have h5:¬ (((s.get! i).toNat:Int) < 97∨122 < ((s.get! i).toNat:Int)):=by
      rw [hg]
      simp only [letter,decide_eq_true_eq] at h4
      omega
     simp only [h5,decide_false,Bool.false_eq_true,beq_iff_eq,h4,Bool.true_and,show (false == true)=false from rfl,cond_false]
     exact p147_L2_eq n s m (i + 1) (by omega) (by omega)
    ·have h5:(((s.get! i).toNat:Int) < 97∨122 < ((s.get! i).toNat:Int)):=by
      rw [hg]
      simp only [letter,decide_eq_true_eq] at h4
      omega
     simp only [h5,decide_true,show (true == true)=true from rfl,cond_true,h4,Bool.false_and]
     exact ⟨i,rfl,by simp⟩
   ·have h5:=dec_hi s i h3
    have h6:(((Utf8.decode s i).1:Int) < 97∨122 < ((Utf8.decode s i).1:Int)):=by omega
    have h7:letter (s.data.toList.getD i 0)=false:=by
     rw [← hg]
     simp only [letter,decide_eq_false_iff_not]
     omega
    simp only [h6,decide_true,show (true == true)=true from rfl,cond_true,h7,Bool.false_and]
    exact ⟨i,rfl,by simp⟩
  ·have h2:decide (i < s.size)=false:=by simpa using h1
   simp only [h2,cond_false]
   exact ⟨-1,rfl,by rw [List.drop_eq_nil_of_le (by rw [size_len]; omega)]; simp⟩
theorem p70_eq (n:Nat) (hn:4 < n) (s:ByteArray):p70 n s=some ((nmOk s,()),()):=by
 show st70_top n s=_
 simp only [st70_top,q61,p61_eq,Option.bind_some,nmOk]
 by_cases h:1≤s.size∧s.size≤3
 ·have h1:(1:Int)≤(s.size:Int)∧(s.size:Int)≤3:=by omega
  obtain ⟨r,hr,hr2⟩:=p147_L2_eq n s n 0 (by omega) (by omega)
  have hr':p147_L2 n n true s 0=some ((r,()),()):=hr
  simp only [h1,h,and_self,decide_true,cond_true,q119,p119,st119_top,q147,p147,st147_top,hr',Option.bind_some,hr2,List.drop_zero,Bool.true_and]
 ·have h1:¬ ((1:Int)≤(s.size:Int)∧(s.size:Int)≤3):=by omega
  simp only [h1,h,decide_false,cond_false,Bool.false_and]
theorem p76_L2_eq (n:Nat) (s:ByteArray) (hs:s.size < 4611686018427387904):∀ (m i:Nat),i≤s.size→s.size - i < m→p76_L2 n m s (i:Int)=some (((s.data.toList.drop i).all letter&&decide (1≤s.size∧s.size≤3),()),())
 | 0,i,_,h=>by omega
 | m + 1,i,hi,h=>by
  show st76_L2 n (p76_L2 n m) s i=_
  simp only [st76_L2,toNat_cast]
  by_cases h1:i < s.size
  ·rw [letters_drop h1,wr_succ (by omega),p76_L2_eq n s hs m (i + 1) (by omega) (by omega)]
   simp only [lt_t h1,ge_t,cond_true]
   by_cases h4:((s.data.toList.getD i 0).toNat:Int) < 97
   ·have:letter (s.data.toList.getD i 0)=false:=by simp only [letter,decide_eq_false_iff_not]; omega
    simp only [h4,decide_true,cond_true,this,Bool.false_and]
   ·by_cases h5:122 < ((s.data.toList.getD i 0).toNat:Int)
    ·have:letter (s.data.toList.getD i 0)=false:=by simp only [letter,decide_eq_false_iff_not]; omega
     simp only [h4,h5,decide_true,decide_false,cond_true,cond_false,this,Bool.false_and]
    ·have:letter (s.data.toList.getD i 0)=true:=by simp only [letter,decide_eq_true_eq]; omega
     simp only [h4,h5,decide_false,cond_false,this,Bool.true_and]
  ·have hi':i=s.size:=by omega
   subst hi'
   simp only [lt_f,cond_false,q66,p66_eq,Option.bind_some]
   rw [List.drop_eq_nil_of_le (by rw [size_len]; omega)]
   have:(((1:Int)≤(s.size:Int))∧((s.size:Int)≤3))↔(1≤s.size∧s.size≤3):=by omega
   simp only [List.all_nil,Bool.true_and,this]
theorem p76_eq (n:Nat) (s:ByteArray) (hs:s.size < 4611686018427387904) (hn:s.size < n):p76 n s=some ((nmOk s,()),()):=by
 have:=p76_L2_eq n s hs n 0 (by omega) (by omega)
 rw [List.drop_zero,Bool.and_comm] at this
 exact this
theorem p69_eq (n:Nat) (a:Nd):p69 n a=some ((decide (zr a),()),()):=by
 show st69_top n a=_
 simp only [st69_top,zr]
 obtain ⟨a1,a2,a3,a4,a5,a6,a7,a8,a9⟩:=a
 simp only [empty_iff]
 by_cases h1:a1=0 <;> by_cases h2:a2=0 <;> by_cases h3:a3=0 <;> by_cases h4:a4=0 <;> by_cases h5:a5=0 <;> by_cases h6:a6=0 <;> cases a7 <;> by_cases h8:a8.size=0 <;> simp [h1,h2,h3,h4,h5,h6,h8]
theorem p146_eq (n:Nat) (a:Nd):p146 n a=some ((decide (zr a),()),()):=by
 show st146_top n a=_
 simp only [st146_top,zr]
 obtain ⟨a1,a2,a3,a4,a5,a6,a7,a8,a9⟩:=a
 simp only [empty_iff]
 by_cases h1:a1=0 <;> by_cases h2:a2=0 <;> by_cases h3:a3=0 <;> by_cases h4:a4=0 <;> by_cases h5:a5=0 <;> by_cases h6:a6=0 <;> cases a7 <;> by_cases h8:a8.size=0 <;> simp [h1,h2,h3,h4,h5,h6,h8]
end Go.Proofs.Ytbjgiioppmkpiaa.Rx.S

namespace Go.Proofs.Ytbjgiioppmkpiaa.Rx.S
open Go Go.Proofs.Ytbjgiioppmkpiaa.Rx.Pu Go.Proofs.Ytbjgiioppmkpiaa.Rx.Fs
set_option linter.unusedVariables false
set_option linter.unusedSimpArgs false
theorem lt_fold (a b:ByteArray):Op.bytesLess (ByteArray.toList a) (ByteArray.toList b)=Fs.lt a b:=rfl
theorem wr_pred {i:Nat} (h:i < 4611686018427387904):IntKind.i64.wrap (((i + 1:Nat):Int) - 1)=(i:Int):=(wr (x:=((i + 1:Nat):Int) - 1) (by omega) (by omega)).trans (by omega)
theorem getD_mem {α:Type} {l:List α} {i:Nat} (h:i < l.length) (d:α):l.getD i d ∈ l:=by
 rw [List.getD_eq_getElem?_getD,List.getElem?_eq_getElem h,Option.getD_some]
 exact List.getElem_mem h
def SmE (n:Nat) (es:List En):Prop:=es.length < 4611686018427387904∧∀ e ∈ es,e.1.size < n
def SmN (n:Nat) (a:Nd):Prop:=(tx a).size < 4611686018427387904∧SmE n (nm a)
def SmF (n:Nat) (f:List Nd):Prop:=100 < n∧n < 4611686018427387904∧∀ a ∈ f,SmN n a
theorem p116_L8_eq (n:Nat) (hn:n < 4611686018427387904) (es:List En) (h:SmE n es) (a1 a2 a3 a4 a5 a6:Int) (a7:Bool) (a8:ByteArray):∀ (d m k:Nat),k + d=es.length→d < m→p116_L8 n m k a1 a2 a3 a4 a5 a6 a7 a8 es=some ((entsS es d k,()),())
 | _,0,_,_,h=>by omega
 | 0,m + 1,k,hk,hm=>by
  show st116_L8 n (p116_L8 n m) k a1 a2 a3 a4 a5 a6 a7 a8 es=_
  have:k=es.length:=by omega
  subst this
  simp only [st116_L8,lt_f,cond_false,entsS]
 | d + 1,m + 1,k,hk,hm=>by
  have hl:=h.1
  have hkl:k < es.length:=by omega
  show st116_L8 n (p116_L8 n m) k a1 a2 a3 a4 a5 a6 a7 a8 es=_
  have ih:=p116_L8_eq n hn es h a1 a2 a3 a4 a5 a6 a7 a8 d m (k + 1) (by omega) (by omega)
  have hs:=(h.2 _ (getD_mem hkl e0))
  simp only [st116_L8,entsS,lt_t hkl,ge_t,cond_true,toNat_cast,wr_succ (show k < 4611686018427387904 by omega),ih,q76,p76_eq n _ (Nat.lt_trans hs hn) hs,q66,p66_eq,Option.bind_some,lt_fold,entS,sorted,e0]
  generalize entsS es d (k + 1)=o
  generalize es.getD k (ByteArray.empty,(0:Int))=E
  cases nmOk E.1 with
  | false=>rfl
  | true =>
   cases decide (1≤E.2∧E.2≤9) with
   | false=>rfl
   | true =>
    cases k with
    | zero=>rfl
    | succ k =>
     have e1:decide ((0:Int) < ((k + 1:Nat):Int))=true:=decide_eq_true (by omega)
     simp only [e1,wr_pred (show k < 4611686018427387904 by omega),ge_t,lt_t (show k < es.length by omega),Bool.not_true,cond_false,cond_true,toNat_cast,Nat.add_sub_cancel,Bool.true_and]
     generalize es.getD k (ByteArray.empty,(0:Int))=E'
     cases Fs.lt E'.1 E.1 <;> rfl
theorem p116_eq (n:Nat) (hn:n < 4611686018427387904) (hn2:100 < n) (a:Nd) (h:SmN n a):p116 n a=some ((ndS a,()),()):=by
 have hlp:baseS a=true→p116_L8 n n 0 a.1 a.2.1 a.2.2.1 a.2.2.2.1 a.2.2.2.2.1 a.2.2.2.2.2.1 a.2.2.2.2.2.2.1 a.2.2.2.2.2.2.2.1 (nm a)=some ((entsS (nm a) (nm a).length 0,()),()):=fun h9 =>
  p116_L8_eq n hn (nm a) h.2 _ _ _ _ _ _ _ _ (nm a).length n 0 (by omega) (by have:=baseS_len h9; omega)
 show st116_top n (p116_L8 n n) a=_
 obtain ⟨a1,a2,a3,a4,a5,a6,a7,a8,a9⟩:=a
 simp only [kd,md,ow,gr,lk,op,mk,tx,nm,baseS] at hlp
 simp only [st116_top,ndS,q146,p146_eq,q66,p66_eq,q118,p118_eq,Option.bind_some,empty_iff,baseS,kd,md,ow,gr,lk,op,mk,tx,nm]
 cases decide (a1=0); rotate_left; · rfl
 revert hlp
 cases decide (1≤a1∧a1≤2); · intro; rfl
 cases decide (0≤a2∧a2≤511); · intro; rfl
 cases decide (0≤a3∧a3≤9); · intro; rfl
 cases decide (0≤a4∧a4≤9); · intro; rfl
 cases decide (0≤a6∧a6≤99); · intro; rfl
 cases decide (0≤a5∧a5≤99); · intro; rfl
 cases decide ((40:Int) < (a8.size:Int)); rotate_left; · intro; rfl
 cases decide ((6:Int) < (a9.length:Int)); rotate_left; · intro; rfl
 cases decide (a1=2)
 ·cases decide (a1=1)
  ·intro hlp; exact hlp rfl
  ·cases decide ((0:Int) < (a9.length:Int))
   ·intro hlp; exact hlp rfl
   ·intro; rfl
 ·cases decide (a8.size=0); · intro; rfl
  cases a7; rotate_left; · intro; rfl
  cases decide (a1=1)
  ·intro hlp; exact hlp rfl
  ·cases decide ((0:Int) < (a9.length:Int))
   ·intro hlp; exact hlp rfl
   ·intro; rfl
end Go.Proofs.Ytbjgiioppmkpiaa.Rx.S

namespace Go.Proofs.Ytbjgiioppmkpiaa.Rx.S
open Go Go.Proofs.Ytbjgiioppmkpiaa.Rx.Pu Go.Proofs.Ytbjgiioppmkpiaa.Rx.Fs
set_option linter.unusedVariables false
set_option linter.unusedSimpArgs false
theorem p63_L10_eq (g:Int→List Nd→List Int→Option R63) (n i:Nat) (f:List Nd) (hi:i < f.length) (hi2:f.length=10) (he:∀ e ∈ nm (f.getD i d0),1≤e.2∧e.2≤9):∀ (d m k:Nat) (l:List Int),k + d=(nm (f.getD i d0)).length→(nm (f.getD i d0)).length≤6→d < m →
  l.length=10→(∀ x,0≤l.getD x 0∧l.getD x 0≤1000 - d)→p63_L10 g n m (i:Int) (k:Int) f l=g ((i + 1:Nat):Int) f (cntE l ((nm (f.getD i d0)).drop k))
 | _,0,_,_,_,_,h,_,_=>by omega
 | 0,m + 1,k,l,hk,h6,hm,hl,hb=>by
  show st63_L10 n (p63_L10 g n m) g i k f l=_
  have hk':k=(nm (f.getD i d0)).length:=by omega
  have hf:decide ((k:Int) < ((nm (f.getD i d0)).length:Int))=false:=by rw [hk']; exact lt_f _
  simp only [nm,d0] at hf
  simp only [st63_L10,lt_t hi,ge_t,cond_true,toNat_cast,hf,cond_false,wr_succ (show i < 4611686018427387904 by omega)]
  rw [List.drop_eq_nil_of_le (by omega)]
  rfl
 | d + 1,m + 1,k,l,hk,h6,hm,hl,hb=>by
  show st63_L10 n (p63_L10 g n m) g i k f l=_
  have hkl:k < (nm (f.getD i d0)).length:=by omega
  have hlt:=lt_t hkl
  rw [getD_drop (d:=e0) hkl]
  have hx:=he _ (getD_mem hkl e0)
  obtain ⟨E,hE⟩:∃ E,(nm (f.getD i d0)).getD k e0=E:=⟨_,rfl⟩
  rw [hE] at hx ⊢
  have hE':=hE
  simp only [nm,d0,e0] at hlt hE'
  have hb1:=hb E.2.toNat
  have hw:IntKind.i64.wrap (l.getD E.2.toNat 0 + 1)=l.getD E.2.toNat 0 + 1:=wr (by omega) (by omega)
  have h0:decide (0≤E.2)=true:=decide_eq_true (by omega)
  have h9:decide (E.2 < (l.length:Int))=true:=decide_eq_true (by omega)
  have ih:=p63_L10_eq g n i f hi hi2 he d m (k + 1) (l.set E.2.toNat (l.getD E.2.toNat 0 + 1)) (by omega) h6 (by omega) (by rw [List.length_set]; exact hl) (fun x=>by
   rw [getD_set_i]
   have h1:=hb x
   split <;> omega)
  simp only [st63_L10,lt_t hi,ge_t,cond_true,toNat_cast,hlt,hE',h0,h9,hw,wr_succ (show k < 4611686018427387904 by omega)]
  rw [ih]
  rfl
theorem getD_map' {α β:Type} (l:List α) (g:α→β) (k:Nat) (d:α) (d':β) (h:k < l.length):(l.map g).getD k d'=g (l.getD k d):=by
 rw [List.getD_eq_getElem?_getD,List.getD_eq_getElem?_getD,List.getElem?_map,List.getElem?_eq_getElem h]
 rfl
def nats (l:List Nat):List Int:=l.map fun (x:Nat)=>(x:Int)
theorem nats_length (l:List Nat):(nats l).length=l.length:=by simp [nats]
theorem nats_app (a b:List Nat):nats (a ++ b)=nats a ++ nats b:=by simp [nats]
theorem p117_L10_eq (g:List Nd→List Bool→List Int→Option R117) (n i:Nat) (f:List Nd) (M:List Bool) (hi:i < f.length) (hi2:f.length=10) (he:∀ e ∈ nm (f.getD i d0),1≤e.2∧e.2≤9):∀ (d m k:Nat) (T:List Nat),k + d=(nm (f.getD i d0)).length→(nm (f.getD i d0)).length≤6→d < m→T.length + d≤1000 →
  p117_L10 g n m (i:Int) (k:Int) f M (nats T)=g f M (nats (T ++ ((ids f i).drop k).filter (fold f)))
 | _,0,_,_,_,_,h,_=>by omega
 | 0,m + 1,k,T,hk,h6,hm,hT=>by
  show st117_L10 n (p117_L10 g n m) g i k f M (nats T)=_
  have hk':k=(nm (f.getD i d0)).length:=by omega
  have hf:decide ((k:Int) < ((nm (f.getD i d0)).length:Int))=false:=by rw [hk']; exact lt_f _
  simp only [nm,d0] at hf
  simp only [st117_L10,lt_t hi,ge_t,cond_true,toNat_cast,hf,cond_false]
  rw [List.drop_eq_nil_of_le (by simp only [ids,List.length_map]; omega)]
  simp
 | d + 1,m + 1,k,T,hk,h6,hm,hT=>by
  show st117_L10 n (p117_L10 g n m) g i k f M (nats T)=_
  have hkl:k < (nm (f.getD i d0)).length:=by omega
  have hlt:=lt_t hkl
  have hx:=he _ (getD_mem hkl e0)
  have hdr:(ids f i).drop k=((nm (f.getD i d0)).getD k e0).2.toNat :: (ids f i).drop (k + 1):=by
   rw [getD_drop (d:=0) (by simp only [ids,List.length_map]; exact hkl)]
   congr 1
   exact getD_map' _ _ _ _ _ hkl
  rw [hdr]
  obtain ⟨E,hE⟩:∃ E,(nm (f.getD i d0)).getD k e0=E:=⟨_,rfl⟩
  rw [hE] at hx ⊢
  have hE':=hE
  simp only [nm,d0,e0] at hlt hE'
  have h0:decide (0≤E.2)=true:=decide_eq_true (by omega)
  have h9:decide (E.2 < (f.length:Int))=true:=decide_eq_true (by omega)
  have hn1:E.2=((E.2.toNat:Nat):Int):=by omega
  have hsz:decide (((nats T).length + [E.2].length) * (8:Nat)≤(140737488355328:Nat))=true:=decide_eq_true (by rw [nats_length]; simp; omega)
  have ih1:=p117_L10_eq g n i f M hi hi2 he d m (k + 1) T (by omega) h6 (by omega) (by omega)
  have hT2:p117_L10 g n m (i:Int) ((k + 1:Nat):Int) f M (nats (T ++ [E.2.toNat]))=g f M (nats ((T ++ [E.2.toNat]) ++ ((ids f i).drop (k + 1)).filter (fold f))):=p117_L10_eq g n i f M hi hi2 he d m (k + 1) (T ++ [E.2.toNat]) (by omega) h6 (by omega) (by simp; omega)
  simp only [st117_L10,lt_t hi,ge_t,cond_true,toNat_cast,hlt,hE',h0,h9,hsz,wr_succ (show k < 4611686018427387904 by omega)]
  by_cases hfo:fold f E.2.toNat=true
  ·have hfo2:=hfo
   simp only [fold,kd,d0] at hfo2
   have e1:nats T ++ [E.2]=nats (T ++ [E.2.toNat]):=by rw [nats_app,hn1]; rfl
   simp only [hfo2,cond_true,List.filter_cons,hfo,if_true,e1]
   rw [hT2,List.append_assoc]
   rfl
  ·have hfo2:fold f E.2.toNat=false:=by simpa using hfo
   have hfo3:=hfo2
   simp only [fold,kd,d0] at hfo3
   simp only [hfo3,cond_false,List.filter_cons,hfo2,Bool.false_eq_true,if_false]
   exact ih1
theorem p117_L3_eq (n:Nat) (hn:100 < n) (f:List Nd) (hi2:f.length=10) (hok:∀ i,i < 10→ndS (f.getD i d0)=true):∀ (k m:Nat) (done todo:List Nat),done.Nodup→(∀ x ∈ done,x < 10)→(∀ x ∈ todo,x < 10)→11≤k + done.length→k < m→todo.length + 6 * k≤900 →
  ∃ (M:List Bool) (b:Bool),p117_L3 n m f (metOf done) (nats todo)=some ((M,(b,())),())∧(b=true↔∃ D,Gr.bfs (ids f) (fold f) k done todo=some D)∧∀ D,Gr.bfs (ids f) (fold f) k done todo=some D→M=metOf D
 | _,0,_,_,_,_,_,_,h,_=>by omega
 | k,m + 1,done,[],hnd,hd,ht,hk,hm,hs=>by
  show ∃ M b,st117_L3 n _ f (metOf done) (nats [])=_∧_
  have e1:decide ((0:Int) < ((nats []).length:Int))=false:=rfl
  simp only [st117_L3,e1,cond_false]
  refine ⟨_,_,rfl,?_,fun D hD=>?_⟩
  ·simp only [true_iff]
   exact ⟨done,by cases k <;> rfl⟩
  ·have:some done=some D:=by cases k <;> exact hD
   injection this with this
   rw [this]
 | 0,m + 1,done,id :: todo,hnd,hd,ht,hk,hm,hs=>by
  have:=Gr.nodup_len (B:=List.range 10) hnd (fun a ha=>List.mem_range.2 (hd a ha))
  simp at this
  omega
 | k + 1,m + 1,done,id :: todo,hnd,hd,ht,hk,hm,hs=>by
  show ∃ M b,st117_L3 n (p117_L10 (p117_L3 n m) n n) f (metOf done) (nats (id :: todo))=_∧_
  have hid:=ht id List.mem_cons_self
  have e1:decide ((0:Int) < ((nats (id :: todo)).length:Int))=true:=decide_eq_true (by rw [nats_length]; simp)
  have e2:decide ((1:Int)≤((nats (id :: todo)).length:Int))=true:=decide_eq_true (by rw [nats_length,List.length_cons]; omega)
  have e3:List.take (((nats (id :: todo)).length:Int) - 1).toNat (List.drop ((0:Nat) + Int.toNat 1) (nats (id :: todo)))=nats todo:=by
   rw [show (List.drop ((0:Nat) + Int.toNat 1) (nats (id :: todo)))=nats todo from rfl]
   apply List.take_of_length_le
   rw [nats_length,nats_length]
   simp
  have e4:(nats (id :: todo)).getD (Int.toNat 0) 0=(id:Int):=rfl
  have e5:decide (((0:Nat) + (nats todo).length) * (8:Nat)≤(140737488355328:Nat))=true:=decide_eq_true (by rw [nats_length]; simp at hs; omega)
  have e6:decide ((id:Int) < ((metOf done).length:Int))=true:=decide_eq_true (by rw [metOf_length]; omega)
  simp only [st117_L3,e1,e2,e3,e4,e5,e6,cond_true,ge_t,toNat_cast,metOf_getD done id hid]
  by_cases hm1:id ∈ done
  ·simp only [hm1,decide_true,cond_true]
   refine ⟨_,_,rfl,?_,fun D hD=>?_⟩
   ·simp only [Bool.false_eq_true,false_iff]
    rintro ⟨D,hD⟩
    simp only [Gr.bfs,hm1,if_true] at hD
    cases hD
   ·simp only [Gr.bfs,hm1,if_true] at hD
    cases hD
  ·simp only [hm1,decide_false,cond_false]
   have hlen:=ndS_len (hok id hid)
   have hmem:∀ x ∈ (ids f id).filter (fold f),x < 10:=fun x hx=>by
    obtain ⟨e,he,rfl⟩:=List.mem_map.1 (List.mem_filter.1 hx).1
    have:=ndS_ids (hok id hid) e he
    omega
   have hfl:((ids f id).filter (fold f)).length≤6:=by
    have:=List.length_filter_le (fold f) (ids f id)
    simp only [ids,List.length_map] at this ⊢
    omega
   rw [metOf_set done id hid]
   have hl10:=p117_L10_eq (p117_L3 n m) n id f (metOf (done ++ [id])) (by omega) hi2 (ndS_ids (hok id hid)) (nm (f.getD id d0)).length n 0 todo (by omega) hlen (by omega) (by simp at hs; omega)
   rw [List.drop_zero] at hl10
   have hl10':p117_L10 (p117_L3 n m) n n (id:Int) 0 f (metOf (done ++ [id])) (nats todo)=p117_L3 n m f (metOf (done ++ [id])) (nats (todo ++ (ids f id).filter (fold f))):=hl10
   rw [hl10']
   have ih:=p117_L3_eq n hn f hi2 hok k m (done ++ [id]) (todo ++ (ids f id).filter (fold f)) (by
    rw [List.nodup_append]
    exact ⟨hnd,by simp,fun a ha b hb=>by rw [List.mem_singleton.1 hb]; rintro rfl; exact hm1 ha⟩) (fun x hx=>by
    rcases List.mem_append.1 hx with h | h
    ·exact hd x h
    ·rw [List.mem_singleton.1 h]; exact hid) (fun x hx=>by
    rcases List.mem_append.1 hx with h | h
    ·exact ht x (List.mem_cons_of_mem _ h)
    ·exact hmem x h) (by simp; omega) (by omega) (by simp at hs ⊢; omega)
   have hb:Gr.bfs (ids f) (fold f) (k + 1) done (id :: todo)=Gr.bfs (ids f) (fold f) k (done ++ [id]) (todo ++ (ids f id).filter (fold f)):=by
    simp only [Gr.bfs,hm1,if_false]
    rfl
   rw [hb]
   exact ih
theorem p117_eq (n:Nat) (hn:100 < n) (f:List Nd) (hi2:f.length=10) (hok:∀ i,i < 10→ndS (f.getD i d0)=true) :
  ∃ (M:List Bool) (b:Bool),p117 n f=some ((M,(b,())),())∧(b=true↔∃ D,Gr.bfs (ids f) (fold f) 11 [] [0]=some D)∧∀ D,Gr.bfs (ids f) (fold f) 11 [] [0]=some D→M=metOf D:=by
 have:=p117_L3_eq n hn f hi2 hok 11 n [] [0] List.nodup_nil (by simp) (by simp) (by simp) (by omega) (by simp)
 rw [metOf_nil] at this
 show ∃ M b,st117_top n (p117_L3 n n) f=_∧_
 have e1:decide ((f.length:Int) * ((1:Nat):Int)≤140737488355328)=true:=decide_eq_true (by omega)
 have e2:(f.length:Int).toNat=10:=by omega
 simp only [st117_top,e1,cond_true,e2]
 exact this
end Go.Proofs.Ytbjgiioppmkpiaa.Rx.S

namespace Go.Proofs.Ytbjgiioppmkpiaa.Rx.S
open Go Go.Proofs.Ytbjgiioppmkpiaa.Rx.Pu Go.Proofs.Ytbjgiioppmkpiaa.Rx.Fs
set_option linter.unusedVariables false
set_option linter.unusedSimpArgs false
theorem lt10 {i d:Nat} (h:i + (d + 1)=10):decide ((i:Int) < 10)=true:=decide_eq_true (by omega)
theorem p63_L17_eq (n:Nat) (f:List Nd) (L:List Int) (M:List Bool) (hf:f.length=10) (hL:L.length=10) (hM:M.length=10):∀ (d m i:Nat),i + d=10→d < m→p63_L17 n m true (i:Int) f L M=some ((chksS f L M d i,()),())
 | _,0,_,_,h=>by omega
 | 0,m + 1,i,hi,hm=>by
  obtain rfl:i=10:=by omega
  rfl
 | d + 1,m + 1,i,hi,hm=>by
  show st63_L17 n (p63_L17 n m) true i f L M=_
  have ih:=p63_L17_eq n f L M hf hL hM d m (i + 1) (by omega) (by omega)
  simp only [st63_L17]
  rw [toNat_cast]
  simp only [chksS,chkS,lt10 hi,lt_t (show i < f.length by omega),lt_t (show i < L.length by omega),lt_t (show i < M.length by omega),ge_t,cond_true,wr_succ (show i < 4611686018427387904 by omega),ih]
  generalize chksS f L M d (i + 1)=o
  generalize f.getD i ZN=a
  generalize L.getD i 0=c
  generalize M.getD i false=b
  simp only [chkSv,kd,lk,op]
  cases decide (0 < c) <;> cases decide (a.1=0) <;> cases decide (a.2.2.2.2.1=c) <;> cases decide (a.1=2) <;> cases b <;> cases decide (a.1=1) <;> cases decide (a.2.2.2.2.1=0) <;> cases decide (a.2.2.2.2.2.1=0) <;> rfl
theorem p63_L5_eq (n:Nat) (f:List Nd) (hf:f.length=10) (hs:SmF n f):∀ (d m i:Nat) (L:List Int),i + d=10→d < m→L.length=10→(∀ x,0≤L.getD x 0∧L.getD x 0≤6 * i)→(∀ j,j < i→ndS (f.getD j d0)=true) →
  p63_L5 n m (i:Int) f L=some (((ndsS f d i&&(decide (kd (f.getD 0 d0)=2)&&(match Gr.bfs (ids f) (fold f) 11 [] [0] with | some D=>chksS f (cntN L (f.drop i)) (metOf D) 10 0 | none=>false))),()),())
 | _,0,_,_,_,h,_,_,_=>by omega
 | 0,m + 1,i,L,hi,hm,hL,hb,hj=>by
  obtain rfl:i=10:=by omega
  show st63_L5 n (p63_L10 (p63_L5 n m) n n) (p63_L17 n n) ((10:Nat):Int) f L=_
  have e1:decide (((10:Nat):Int) < 10)=false:=by decide
  have e2:decide ((0:Int) < (f.length:Int))=true:=decide_eq_true (by omega)
  obtain ⟨M,b,h1,h2,h3⟩:=p117_eq n hs.1 f hf (fun i hi=>hj i hi)
  simp only [st63_L5,e1,e2,cond_false,cond_true,ndsS,Bool.true_and,q117,h1,Option.bind_some,kd,d0]
  rw [List.drop_eq_nil_of_le (by omega),show Int.toNat 0=0 from rfl]
  cases decide ((f.getD 0 ZN).1=2) with
  | false=>rfl
  | true =>
   simp only [Bool.not_true,cond_false,Bool.true_and]
   cases hb:Gr.bfs (ids f) (fold f) 11 [] [0] with
   | none =>
    have:b=false:=by
     cases b with
     | false=>rfl
     | true=>obtain ⟨D,hD⟩:=h2.1 rfl; rw [hb] at hD; cases hD
    subst this
    obtain ⟨n',rfl⟩:∃ k,n=k + 1:=⟨n - 1,by have:=hs.1; omega⟩
    rfl
   | some D =>
    have:b=true:=h2.2 ⟨D,hb⟩
    subst this
    rw [h3 D hb]
    exact p63_L17_eq n f (cntN L []) (metOf D) hf hL (metOf_length D) 10 n 0 (by omega) (by have:=hs.1; omega)
 | d + 1,m + 1,i,L,hi,hm,hL,hb,hj=>by
  show st63_L5 n (p63_L10 (p63_L5 n m) n n) (p63_L17 n n) (i:Int) f L=_
  have hi10:i < f.length:=by omega
  have hnd:=p116_eq n hs.2.1 hs.1 (f.getD i d0) (hs.2.2 _ (getD_mem hi10 d0))
  have hdr:cntN L (f.drop i)=cntN (cntE L (nm (f.getD i d0))) (f.drop (i + 1)):=by rw [getD_drop (d:=d0) hi10]; rfl
  rw [hdr]
  have hq:q116 n (((f.getD i d0).1,(f.getD i d0).2.1,(f.getD i d0).2.2.1,(f.getD i d0).2.2.2.1,(f.getD i d0).2.2.2.2.1,(f.getD i d0).2.2.2.2.2.1,(f.getD i d0).2.2.2.2.2.2.1,(f.getD i d0).2.2.2.2.2.2.2.1,(f.getD i d0).2.2.2.2.2.2.2.2),())=some ((ndS (f.getD i d0),()),()):=hnd
  simp only [d0] at hq
  simp only [st63_L5,lt10 hi,lt_t hi10,ge_t,cond_true,toNat_cast,ndsS,d0]
  rw [hq]
  simp only [Option.bind_some]
  cases hnS:ndS (f.getD i ZN) with
  | false=>rfl
  | true =>
   have hnS':ndS (f.getD i d0)=true:=hnS
   have hlen:=ndS_len hnS'
   have hbd:=cntE_bound (nm (f.getD i d0)) L (6 * i) hb
   have h10:=p63_L10_eq (p63_L5 n m) n i f hi10 hf (ndS_ids hnS') (nm (f.getD i d0)).length n 0 L (by omega) hlen (by have:=hs.1; omega) hL (fun x=>by
    have:=hb x
    omega)
   rw [List.drop_zero] at h10
   have h10':p63_L10 (p63_L5 n m) n n (i:Int) 0 f L=p63_L5 n m ((i + 1:Nat):Int) f (cntE L (nm (f.getD i d0))):=h10
   simp only [Bool.not_true,cond_false,Bool.true_and]
   rw [h10']
   exact p63_L5_eq n f hf hs d m (i + 1) _ (by omega) (by omega) (by rw [cntE_length]; exact hL) (fun x=>by
    have:=hbd x
    omega) (fun j hji=>by
    rcases Nat.lt_or_ge j i with h | h
    ·exact hj j h
    ·obtain rfl:j=i:=by omega
     exact hnS')
theorem p63_eq (n:Nat) (f:List Nd) (hs:SmF n f):p63 n f=some ((okS f,()),()):=by
 show st63_top n (p63_L5 n n) f=_
 by_cases hf:f.length=10
 ·have e1:decide ((f.length:Int)=10)=true:=decide_eq_true (by omega)
  have:=p63_L5_eq n f hf hs 10 n 0 z10 (by omega) (by have:=hs.1; omega) (by simp [z10]) (fun x=>by rw [z10_getD]; omega) (fun j hj=>by omega)
  rw [List.drop_zero] at this
  simp only [st63_top,e1,Bool.not_true,cond_false,okS,hf,decide_true,Bool.true_and]
  exact this
 ·have e1:decide ((f.length:Int)=10)=false:=decide_eq_false (by omega)
  simp only [st63_top,e1,Bool.not_false,cond_true,okS,hf,decide_false,Bool.false_and]
end Go.Proofs.Ytbjgiioppmkpiaa.Rx.S

namespace Go.Proofs.Ytbjgiioppmkpiaa.Rx.S
open Go Go.Proofs.Ytbjgiioppmkpiaa.Rx.Pu Go.Proofs.Ytbjgiioppmkpiaa.Rx.Fs
set_option linter.unusedVariables false
set_option linter.unusedSimpArgs false
theorem p19_L36_eq (g:List Nd→Int→Int→List Int→List Int→Option R19) (n:Nat) (f:List Nd) (x3 x4:Int) (L A:List Int) (hA:A.length=10) (hb:∀ x,0≤A.getD x 0∧A.getD x 0≤9):∀ (d m s a:Nat),s + d=11→a < 10→d < m →
  p19_L36 g n m (a:Int) (s:Int) f x3 x4 L A=bif Gr.up (abF A) d a then g f x3 (IntKind.i64.wrap (x4 + 1)) L A else some ((false,()),())
 | _,0,_,_,_,_,h=>by omega
 | 0,m + 1,s,a,hs,ha,hm=>by
  obtain rfl:s=11:=by omega
  show st19_L36 n (p19_L36 g n m) g a ((11:Nat):Int) f x3 x4 L A=_
  have e1:decide ((10:Int) < ((11:Nat):Int))=true:=by decide
  cases a with
  | zero=>rfl
  | succ a =>
   have e2:decide (((a + 1:Nat):Int)=0)=false:=decide_eq_false (by omega)
   simp only [st19_L36,e1,e2,Bool.not_false,cond_true,Gr.up,cond_false]
 | d + 1,m + 1,s,a,hs,ha,hm=>by
  show st19_L36 n (p19_L36 g n m) g a (s:Int) f x3 x4 L A=_
  have e1:decide ((10:Int) < (s:Int))=false:=decide_eq_false (by omega)
  cases a with
  | zero=>
   have e2:decide (((0:Nat):Int)=0)=true:=rfl
   simp only [st19_L36,e2,Bool.not_true,cond_false,Gr.up,cond_true]
  | succ a =>
   have e2:decide (((a + 1:Nat):Int)=0)=false:=decide_eq_false (by omega)
   have hba:=hb (a + 1)
   have e3:A.getD (a + 1) 0=((abF A (a + 1):Nat):Int):=by simp only [abF]; omega
   have ih:=p19_L36_eq g n f x3 x4 L A hA hb d m (s + 1) (abF A (a + 1)) (by omega) (by simp only [abF]; omega) (by omega)
   simp only [st19_L36,e1,e2,Bool.not_false,cond_true,Gr.up,cond_false,ge_t,lt_t (show a + 1 < A.length by omega),toNat_cast,wr_succ (show s < 4611686018427387904 by omega),e3,ih]
theorem p19_L25_eq (n:Nat) (hn:100 < n) (f:List Nd) (L A:List Int) (hf:f.length=10) (hL:L.length=10) (hA:A.length=10) (hb:∀ x,0≤A.getD x 0∧A.getD x 0≤9):∀ (d m i:Nat),i + d=10→d < m→p19_L25 n m f 10 (i:Int) L A=some ((chksI f L A d i,()),())
 | _,0,_,_,h=>by omega
 | 0,m + 1,i,hi,hm=>by
  obtain rfl:i=10:=by omega
  rfl
 | d + 1,m + 1,i,hi,hm=>by
  show st19_L25 n (p19_L25 n m) (p19_L36 (p19_L25 n m) n n) f 10 (i:Int) L A=_
  have ih:=p19_L25_eq n hn f L A hf hL hA hb d m (i + 1) (by omega) (by omega)
  have hup:=p19_L36_eq (p19_L25 n m) n f 10 (i:Int) L A hA hb 11 n 0 i (by omega) (by omega) (by omega)
  have hup':p19_L36 (p19_L25 n m) n n (i:Int) 0 f 10 (i:Int) L A=_:=hup
  rw [wr_succ (show i < 4611686018427387904 by omega),ih] at hup'
  simp only [st19_L25]
  rw [toNat_cast]
  simp only [chksI,chkI,lt10 hi,lt_t (show i < f.length by omega),lt_t (show i < L.length by omega),ge_t,cond_true,wr_succ (show i < 4611686018427387904 by omega),ih,hup']
  clear hup hup' ih
  generalize chksI f L A d (i + 1)=o
  generalize f.getD i ZN=a
  generalize L.getD i 0=c
  generalize Gr.up (abF A) 11 i=u
  simp only [chkIv,kd,lk,op]
  cases decide (a.1=0); rotate_left; · rfl
  cases decide (a.2.2.2.2.1=c); · rfl
  cases decide (a.1=1) <;> cases decide (a.2.2.2.2.1=0) <;> cases decide (a.2.2.2.2.2.1=0) <;> cases decide (a.1=2) <;> cases decide ((0:Int) < (i:Int)) <;> cases decide (a.2.2.2.2.1=1) <;> cases decide ((i:Int)=0) <;> cases u <;> rfl
theorem p19_L16_eq (g:List Nd→Int→Int→List Nd→List Int→List Int→Option R19) (n:Nat) (hn:100 < n) (f:List Nd) (hf:f.length=10) (i:Nat) (hi:i < 10) (es:List En) (a1 a2 a3 a4 a5 a6:Int) (a7:Bool) (a8:ByteArray) (h6:es.length≤6):∀ (d m k:Nat) (L A:List Int),k + d=es.length→d < m→L.length=10→A.length=10→(∀ x,0≤L.getD x 0∧L.getD x 0≤1000 - d) →
  p19_L16 g n m (i:Int) f 10 (i:Int) es (es.length:Int) (k:Int) f L A a1 a2 a3 a4 a5 a6 a7 a8 es=bif entsI f es d k then g f 10 ((i + 1:Nat):Int) f (cntE L (es.drop k)) (abvE i A (es.drop k)) else some ((false,()),())
 | _,0,_,_,_,_,h,_,_,_=>by omega
 | 0,m + 1,k,L,A,hk,hm,hL,hA,hb=>by
  obtain rfl:k=es.length:=by omega
  show st19_L16 n (p19_L16 g n m) g (i:Int) f 10 (i:Int) es (es.length:Int) (es.length:Int) f L A a1 a2 a3 a4 a5 a6 a7 a8 es=_
  simp only [st19_L16,lt_f,cond_false,entsI,cond_true,wr_succ (show i < 4611686018427387904 by omega),List.drop_length]
  rfl
 | d + 1,m + 1,k,L,A,hk,hm,hL,hA,hb=>by
  have hkl:k < es.length:=by omega
  show st19_L16 n (p19_L16 g n m) g (i:Int) f 10 (i:Int) es (es.length:Int) (k:Int) f L A a1 a2 a3 a4 a5 a6 a7 a8 es=_
  rw [getD_drop (d:=e0) hkl]
  obtain ⟨E,hE⟩:∃ E,es.getD k e0=E:=⟨_,rfl⟩
  have hE':=hE
  simp only [e0] at hE'
  rw [hE]
  simp only [entsI,entI,hE,st19_L16,toNat_cast,hE',lt_t hkl,ge_t,cond_true,q70,p70_eq n (show 4 < n by omega),q61,p61_eq,Option.bind_some,kd,sorted]
  cases nmOk E.1 with
  | false=>rfl
  | true =>
   by_cases h9:0≤E.2∧E.2≤9
   ·have b0:decide (0≤E.2)=true:=decide_eq_true h9.1
    have b1:decide (E.2 < (f.length:Int))=true:=decide_eq_true (by omega)
    have b2:decide (E.2 < (L.length:Int))=true:=decide_eq_true (by omega)
    have b3:decide (E.2 < (A.length:Int))=true:=decide_eq_true (by omega)
    have hb1:=hb E.2.toNat
    have hw:IntKind.i64.wrap (L.getD E.2.toNat 0 + 1)=L.getD E.2.toNat 0 + 1:=wr (by omega) (by omega)
    have ih:=p19_L16_eq g n hn f hf i hi es a1 a2 a3 a4 a5 a6 a7 a8 h6 d m (k + 1) (L.set E.2.toNat (L.getD E.2.toNat 0 + 1)) (A.set E.2.toNat (i:Int)) (by omega) (by omega) (by rw [List.length_set]; exact hL) (by rw [List.length_set]; exact hA) (fun x=>by
     rw [getD_set_i]
     have h1:=hb x
     split <;> omega)
    have hcn:cntE L (E :: es.drop (k + 1))=cntE (L.set E.2.toNat (L.getD E.2.toNat 0 + 1)) (es.drop (k + 1)):=rfl
    have hab:abvE i A (E :: es.drop (k + 1))=abvE i (A.set E.2.toNat (i:Int)) (es.drop (k + 1)):=rfl
    rw [hcn,hab]
    simp only [h9,and_self,decide_true,Bool.not_true,cond_false,b0,b1,b2,b3,cond_true,hw,wr_succ (show k < 4611686018427387904 by omega),ih,Bool.true_and]
    by_cases hk0:(f.getD E.2.toNat ZN).1=0
    ·have hk0':(f.getD E.2.toNat d0).1=0:=hk0
     simp only [hk0,hk0',decide_true,cond_true,Bool.not_true,Bool.false_and,cond_false]
    ·have hk0':¬ (f.getD E.2.toNat d0).1=0:=hk0
     simp only [hk0,hk0',decide_false,cond_false,Bool.not_false,Bool.true_and]
     cases k with
     | zero =>
      have z1:decide ((0:Int) < ((0:Nat):Int))=false:=rfl
      simp only [z1,cond_false,decide_true,Bool.true_or,Bool.true_and]
     | succ k =>
      have e1:decide ((0:Int) < ((k + 1:Nat):Int))=true:=decide_eq_true (by omega)
      have e2:decide (k + 1=0)=false:=decide_eq_false (by omega)
      simp only [e1,e2,wr_pred (show k < 4611686018427387904 by omega),ge_t,lt_t (show k < es.length by omega),cond_true,toNat_cast,Nat.add_sub_cancel,Bool.false_or,lt_fold]
      have hE2:es.getD (k + 1) (ByteArray.empty,(0:Int))=E:=hE'
      obtain ⟨E',hE3⟩:∃ E',es.getD k e0=E':=⟨_,rfl⟩
      have hE4:=hE3
      simp only [e0] at hE4
      simp only [hE3,hE4]
      cases Fs.lt E'.1 E.1 with
      | false=>rfl
      | true=>simp only [Bool.not_true,cond_false,Bool.true_and]
   ·simp only [h9,decide_false,Bool.not_false,Bool.not_true,cond_true,Bool.false_and,Bool.and_false,cond_false]
theorem p19_L6_eq (n:Nat) (hn:100 < n) (f:List Nd) (hf:f.length=10):∀ (d m i:Nat) (L A:List Int),i + d=10→d < m→L.length=10→A.length=10→(∀ x,0≤L.getD x 0∧L.getD x 0≤6 * i)→(∀ x,0≤A.getD x 0∧A.getD x 0≤9) →
  p19_L6 n m f 10 (i:Int) f L A=some ((ndsI f d i&&chksI f (cntN L (f.drop i)) (abvN A i (f.drop i)) 10 0,()),())
 | _,0,_,_,_,_,h,_,_,_,_=>by omega
 | 0,m + 1,i,L,A,hi,hm,hL,hA,hb,hc=>by
  obtain rfl:i=10:=by omega
  show st19_L6 n (p19_L6 n m) (p19_L16 (p19_L6 n m) n n) (p19_L25 n n) f 10 ((10:Nat):Int) f L A=_
  have e1:decide (((10:Nat):Int) < 10)=false:=by decide
  have h25:=p19_L25_eq n hn f L A hf hL hA hc 10 n 0 (by omega) (by omega)
  have h25':p19_L25 n n f (f.length:Int) 0 L A=some ((chksI f L A 10 0,()),()):=by rw [hf]; exact h25
  simp only [st19_L6,e1,cond_false,ndsI,Bool.true_and,h25']
  rw [List.drop_eq_nil_of_le (by omega)]
  rfl
 | d + 1,m + 1,i,L,A,hi,hm,hL,hA,hb,hc=>by
  show st19_L6 n (p19_L6 n m) (p19_L16 (p19_L6 n m) n n) (p19_L25 n n) f 10 (i:Int) f L A=_
  have hi10:i < f.length:=by omega
  have hdr:cntN L (f.drop i)=cntN (cntE L (nm (f.getD i d0))) (f.drop (i + 1)):=by rw [getD_drop (d:=d0) hi10]; rfl
  have hdr2:abvN A i (f.drop i)=abvN (abvE i A (nm (f.getD i d0))) (i + 1) (f.drop (i + 1)):=by rw [getD_drop (d:=d0) hi10]; rfl
  rw [hdr,hdr2]
  simp only [st19_L6]
  rw [toNat_cast]
  simp only [lt10 hi,lt_t hi10,ge_t,cond_true,ndsI,wr_succ (show i < 4611686018427387904 by omega)]
  obtain ⟨⟨a1,a2,a3,a4,a5,a6,a7,a8,a9⟩,ha⟩:∃ a,f.getD i d0=a:=⟨_,rfl⟩
  have ha':=ha
  simp only [d0] at ha'
  simp only [ha,ha',nm]
  have hnext:=fun (hl:a9.length≤6)=>p19_L6_eq n hn f hf d m (i + 1) (cntE L a9) (abvE i A a9) (show i + 1 + d=10 by omega) (by omega) (by rw [cntE_length]; exact hL) (by rw [abvE_length]; exact hA) (fun x=>by
   have:=cntE_bound a9 L (6 * i) hb x
   omega) (abvE_bound i (by omega) a9 A hc)
  have h16:=fun (hl:a9.length≤6)=>p19_L16_eq (p19_L6 n m) n hn f hf i (by omega) a9 a1 a2 a3 a4 a5 a6 a7 a8 hl a9.length n 0 L A (by omega) (by omega) hL hA (fun x=>by have:=hb x; omega)
  have hlp:baseI (a1,a2,a3,a4,a5,a6,a7,a8,a9)=true→p19_L16 (p19_L6 n m) n n (i:Int) f 10 (i:Int) a9 (a9.length:Int) 0 f L A a1 a2 a3 a4 a5 a6 a7 a8 a9=some (((entsI f a9 a9.length 0&&ndsI f d (i + 1))&&chksI f (cntN (cntE L a9) (f.drop (i + 1))) (abvN (abvE i A a9) (i + 1) (f.drop (i + 1))) 10 0,()),()):=fun hbs=>by
   have hl:=baseI_len hbs
   have h1:=h16 hl
   rw [List.drop_zero,hnext hl] at h1
   refine Eq.trans h1 ?_
   cases entsI f a9 a9.length 0 <;> simp
  have hz:zr (a1,a2,a3,a4,a5,a6,a7,a8,a9)→p19_L6 n m f 10 ((i + 1:Nat):Int) f L A=some ((ndsI f d (i + 1)&&chksI f (cntN (cntE L a9) (f.drop (i + 1))) (abvN (abvE i A a9) (i + 1) (f.drop (i + 1))) 10 0,()),()):=fun hz=>by
   have h9:a9=[]:=List.eq_nil_of_length_eq_zero hz.2.2.2.2.2.2.2.2
   have:=hnext (by rw [h9]; simp)
   subst h9
   exact this
  clear hnext h16 hdr hdr2 ha ha'
  simp only [ndI,baseI,kd,md,ow,gr,lk,op,mk,tx,nm] at hlp ⊢
  simp only [q69,p69_eq,q61,p61_eq,Option.bind_some,empty_iff]
  generalize chksI f (cntN (cntE L a9) (f.drop (i + 1))) (abvN (abvE i A a9) (i + 1) (f.drop (i + 1))) 10 0=o1 at hlp hz ⊢
  generalize ndsI f d (i + 1)=o2 at hlp hz ⊢
  generalize entsI f a9 a9.length 0=o3 at hlp ⊢
  cases decide (a1=0)
  ·clear hz
   revert hlp
   cases decide (1≤a1∧a1≤2); · intro; rfl
   cases decide (0≤a2∧a2≤511); · intro; rfl
   cases decide (0≤a3∧a3≤9); · intro; rfl
   cases decide (0≤a4∧a4≤9); · intro; rfl
   cases decide (0≤a6∧a6≤99); · intro; rfl
   cases decide (a1=1)
   ·cases decide (a1=2)
    ·intro hlp; exact hlp rfl
    ·cases decide (a8.size=0); · intro; rfl
     cases a7; rotate_left; · intro; rfl
     cases decide ((6:Int) < (a9.length:Int)); rotate_left; · intro; rfl
     intro hlp; exact hlp rfl
   ·cases decide ((40:Int) < (a8.size:Int)); rotate_left; · intro; rfl
    cases decide ((0:Int) < (a9.length:Int)); rotate_left; · intro; rfl
    cases decide (a1=2)
    ·intro hlp; exact hlp rfl
    ·cases decide (a8.size=0); · intro; rfl
     cases a7; rotate_left; · intro; rfl
     cases decide ((6:Int) < (a9.length:Int)); rotate_left; · intro; rfl
     intro hlp; exact hlp rfl
  ·clear hlp
   by_cases hzr:zr (a1,a2,a3,a4,a5,a6,a7,a8,a9)
   ·simp only [cond_true,hzr,decide_true,Bool.not_true,cond_false,Bool.true_and]
    exact hz hzr
   ·simp only [cond_true,hzr,decide_false,Bool.not_false,Bool.false_and]
theorem p19_eq (n:Nat) (hn:100 < n) (f:List Nd):p19 n f=some ((okI f,()),()):=by
 show st19_top n (p19_L6 n n) f=_
 by_cases hf:f.length=10
 ·have e1:decide ((f.length:Int)=10)=true:=decide_eq_true (by omega)
  have e2:decide ((0:Int) < (f.length:Int))=true:=decide_eq_true (by omega)
  have e3:List.replicate (Int.toNat 10) (0:Int)=z10:=rfl
  have:=p19_L6_eq n hn f hf 10 n 0 z10 z10 (by omega) (by omega) (by simp [z10]) (by simp [z10]) (fun x=>by rw [z10_getD]; omega) (fun x=>by rw [z10_getD]; omega)
  rw [List.drop_zero] at this
  have e4:decide (((10:Nat):Int)=10)=true:=rfl
  have e5:decide ((0:Int) < ((10:Nat):Int))=true:=rfl
  have this':p19_L6 n n f ((10:Nat):Int) 0 f z10 z10=some ((ndsI f 10 0&&chksI f (cntN z10 f) (abvN z10 0 f) 10 0,()),()):=this
  simp only [st19_top,e4,e5,e3,Bool.not_true,cond_false,cond_true,okI,hf,decide_true,Bool.true_and,this']
  rw [show Int.toNat 0=0 from rfl]
  simp only [kd,d0]
  cases decide ((f.getD 0 ZN).1=2) with
  | false=>rfl
  | true=>rfl
 ·have e1:decide ((f.length:Int)=10)=false:=decide_eq_false (by omega)
  simp only [st19_top,e1,Bool.not_false,cond_true,okI,hf,decide_false,Bool.false_and]
end Go.Proofs.Ytbjgiioppmkpiaa.Rx.S

namespace Go.Proofs.Ytbjgiioppmkpiaa.Rx.Fs
open Go Go.Proofs.Ytbjgiioppmkpiaa.Rx.Pu Go.Proofs.Ytbjgiioppmkpiaa.Rx.Gr
set_option linter.unusedVariables false
set_option linter.unusedSimpArgs false
theorem mem_getD {α:Type} {l:List α} {k:Nat} (h:k < l.length) (d:α):l.getD k d ∈ l:=by
 rw [List.getD_eq_getElem?_getD,List.getElem?_eq_getElem h,Option.getD_some]
 exact List.getElem_mem h
theorem getD_get {α:Type} {l:List α} {k:Nat} (h:k < l.length) (d:α):l.getD k d=l[k]:=by
 rw [List.getD_eq_getElem?_getD,List.getElem?_eq_getElem h,Option.getD_some]
def flat (ns:List Nd):List Nat:=ns.flatMap fun n=>(nm n).map fun e=>e.2.toNat
theorem cntE_getD:∀ (es:List En) (l:List Int) (x:Nat),x < l.length→(cntE l es).getD x 0=l.getD x 0 + (((es.map fun e=>e.2.toNat).count x:Nat):Int)
 | [],l,x,_=>by simp [cntE]
 | e :: es,l,x,h=>by
  have:=cntE_getD es (l.set e.2.toNat (l.getD e.2.toNat 0 + 1)) x (by rw [List.length_set]; exact h)
  show (cntE (l.set e.2.toNat (l.getD e.2.toNat 0 + 1)) es).getD x 0=_
  rw [this,getD_set_i,List.map_cons,List.count_cons]
  by_cases hx:e.2.toNat=x
  ·subst hx
   rw [if_pos ⟨rfl,h⟩]
   simp
   omega
  ·have:¬ (e.2.toNat=x∧e.2.toNat < l.length):=fun h=>hx h.1
   rw [if_neg this]
   simp [hx]
theorem cntN_getD:∀ (ns:List Nd) (l:List Int) (x:Nat),x < l.length→(cntN l ns).getD x 0=l.getD x 0 + (((flat ns).count x:Nat):Int)
 | [],l,x,_=>by simp [cntN,flat]
 | n :: ns,l,x,h=>by
  have:=cntN_getD ns (cntE l (nm n)) x (by rw [cntE_length]; exact h)
  show (cntN (cntE l (nm n)) ns).getD x 0=_
  have e2:flat (n :: ns)=((nm n).map fun e=>e.2.toNat) ++ flat ns:=by simp [flat]
  rw [this,cntE_getD _ _ _ h,e2,List.count_append]
  omega
theorem abvE_getD (i:Nat):∀ (es:List En) (l:List Int) (x:Nat),x < l.length→(x ∈ (es.map fun e=>e.2.toNat)→(abvE i l es).getD x 0=i)∧(x ∉ (es.map fun e=>e.2.toNat)→(abvE i l es).getD x 0=l.getD x 0)
 | [],l,x,_=>by simp [abvE]
 | e :: es,l,x,h=>by
  obtain ⟨h1,h2⟩:=abvE_getD i es (l.set e.2.toNat (i:Int)) x (by rw [List.length_set]; exact h)
  have e1:(abvE i l (e :: es))=abvE i (l.set e.2.toNat (i:Int)) es:=rfl
  rw [e1]
  constructor
  ·intro hx
   by_cases hm:x ∈ (es.map fun e=>e.2.toNat)
   ·exact h1 hm
   ·rw [h2 hm,getD_set_i]
    rw [List.map_cons] at hx
    rcases List.mem_cons.1 hx with rfl | hx
    ·rw [if_pos ⟨rfl,h⟩]
    ·exact absurd hx hm
  ·intro hx
   rw [List.map_cons,List.mem_cons] at hx
   have hx1:¬ x=e.2.toNat:=fun h=>hx (.inl h)
   rw [h2 (fun h=>hx (.inr h)),getD_set_i,if_neg (fun h=>hx1 h.1.symm)]
theorem abvN_getD:∀ (ns:List Nd) (i:Nat) (l:List Int) (x:Nat),x < l.length→(x ∈ flat ns→∃ j,j < ns.length∧(abvN l i ns).getD x 0=((i + j:Nat):Int)∧x ∈ (nm (ns.getD j d0)).map fun e=>e.2.toNat)∧(x ∉ flat ns→(abvN l i ns).getD x 0=l.getD x 0)
 | [],i,l,x,_=>by simp [abvN,flat]
 | n :: ns,i,l,x,h=>by
  obtain ⟨h1,h2⟩:=abvN_getD ns (i + 1) (abvE i l (nm n)) x (by rw [abvE_length]; exact h)
  obtain ⟨g1,g2⟩:=abvE_getD i (nm n) l x h
  have e1:(abvN l i (n :: ns))=abvN (abvE i l (nm n)) (i + 1) ns:=rfl
  have e2:flat (n :: ns)=((nm n).map fun e=>e.2.toNat) ++ flat ns:=by simp [flat]
  rw [e1,e2]
  constructor
  ·intro hx
   by_cases hm:x ∈ flat ns
   ·obtain ⟨j,hj,h3,h4⟩:=h1 hm
    exact ⟨j + 1,by simp; omega,by rw [h3]; omega,h4⟩
   ·rcases List.mem_append.1 hx with hx | hx
    ·exact ⟨0,by simp,by rw [h2 hm,g1 hx]; simp,hx⟩
    ·exact absurd hx hm
  ·intro hx
   rw [h2 (fun h=>hx (List.mem_append_right _ h)),g2 (fun h=>hx (List.mem_append_left _ h))]
theorem flat_eq {f:List Nd} (hf:f.length=10):flat f=(List.range 10).flatMap (ids f):=by
 have h:f=(List.range 10).map fun i=>f.getD i d0:=by
  apply List.ext_getElem?
  intro j
  rw [List.getElem?_map]
  by_cases hj:j < 10
  ·rw [List.getElem?_range hj,Option.map_some,List.getElem?_eq_getElem (by omega),List.getD_eq_getElem?_getD,List.getElem?_eq_getElem (by omega)]
   rfl
  ·rw [List.getElem?_eq_none (by omega),List.getElem?_eq_none (by simp; omega)]
   rfl
 conv=>lhs; rw [h]
 unfold flat
 rw [List.flatMap_map]
 rfl
theorem cnt_many {f:List Nd} (hf:f.length=10) {x:Nat} (hx:x < 10):(cntN z10 f).getD x 0=((many (ids f) 10 x:Nat):Int):=by
 rw [cntN_getD _ _ _ (by simp [z10]; exact hx),z10_getD,flat_eq hf]
 simp [many]
theorem ids_out {f:List Nd} (hf:f.length=10) {i:Nat} (hi:10≤i):ids f i=[]:=by
 unfold ids
 rw [List.getD_eq_getElem?_getD,List.getElem?_eq_none (by omega)]
 rfl
theorem mem_many {f:List Nd} {x i:Nat} (hi:i < 10) (h:x ∈ ids f i):0 < many (ids f) 10 x:=by
 unfold many
 rw [List.count_pos_iff,List.mem_flatMap]
 exact ⟨i,List.mem_range.2 hi,h⟩
theorem many_mem {f:List Nd} {x:Nat} (h:0 < many (ids f) 10 x):∃ i,i < 10∧x ∈ ids f i:=by
 unfold many at h
 rw [List.count_pos_iff,List.mem_flatMap] at h
 obtain ⟨i,hi,hx⟩:=h
 exact ⟨i,List.mem_range.1 hi,hx⟩
theorem many_le {f:List Nd} (h:∀ i,i < 10→(nm (f.getD i d0)).length≤6) (x:Nat):many (ids f) 10 x≤60:=by
 unfold many
 have h1:∀ (l:List Nat),(∀ i ∈ l,i < 10)→(l.flatMap (ids f)).length≤6 * l.length:=by
  intro l
  induction l with
  | nil=>simp
  | cons a l ih =>
   intro hl
   have h2:=ih (fun i hi=>hl i (List.mem_cons_of_mem _ hi))
   have h3:=h a (hl a List.mem_cons_self)
   rw [List.flatMap_cons,List.length_append,List.length_cons]
   have:(ids f a).length=(nm (f.getD a d0)).length:=by simp [ids]
   omega
 have h4:=List.count_le_length (a:=x) (l:=(List.range 10).flatMap (ids f))
 have h5:=h1 (List.range 10) (fun i hi=>List.mem_range.1 hi)
 rw [List.length_range] at h5
 omega
structure OkF (f:List Nd):Prop where
 len:f.length=10
 root:kd (f.getD 0 d0)=2
 base:∀ i,i < 10→kd (f.getD i d0) ≠ 0→baseI (f.getD i d0)=true
 zero:∀ i,i < 10→kd (f.getD i d0)=0→zr (f.getD i d0)
 ents:∀ i k,i < 10→k < (nm (f.getD i d0)).length→nmOk ((nm (f.getD i d0)).getD k e0).1=true∧(1≤((nm (f.getD i d0)).getD k e0).2∧((nm (f.getD i d0)).getD k e0).2≤9)∧kd (f.getD ((nm (f.getD i d0)).getD k e0).2.toNat d0) ≠ 0∧sorted (nm (f.getD i d0)) k=true
 links:∀ i,i < 10→kd (f.getD i d0) ≠ 0→lk (f.getD i d0)=((many (ids f) 10 i:Nat):Int)
 live:∀ i,i < 10→kd (f.getD i d0)=1→¬ (lk (f.getD i d0)=0∧op (f.getD i d0)=0)
 tree:∃ D,Gr.bfs (ids f) (fold f) 11 [] [0]=some D∧∀ x,x < 10→fold f x=true→x ∈ D
theorem okSv {a:Nd} {c:Int} {b:Bool}:chkSv a c b=true↔¬ (0 < c∧kd a=0)∧(kd a ≠ 0→lk a=c)∧(kd a=2→b=true)∧¬ (kd a=1∧lk a=0∧op a=0):=by
 unfold chkSv
 by_cases h1:kd a=0 <;> by_cases h2:kd a=2 <;> by_cases h5:kd a=1 <;> by_cases h6:lk a=0 <;> simp [h1,h2,h5,h6]
theorem okIv {a:Nd} {c i:Int} {u:Bool}:chkIv a c i u=true↔(kd a=0∨(lk a=c∧¬ (kd a=1∧lk a=0∧op a=0)∧(kd a=2→0 < i→lk a=1)∧(i=0→lk a=0)∧(kd a=2→u=true))):=by
 unfold chkIv
 by_cases h1:kd a=0 <;> by_cases h2:kd a=2 <;> by_cases h3:i=0 <;> by_cases h4:0 < i <;> by_cases h5:kd a=1 <;> by_cases h6:lk a=0 <;> simp [h1,h2,h3,h4,h5,h6]
theorem okS_iff (f:List Nd):okS f=true↔OkF f:=by
 unfold okS
 constructor
 ·intro h
  simp only [Bool.and_eq_true,decide_eq_true_eq] at h
  obtain ⟨hf,hn,hr,hD⟩:=h
  cases hb:Gr.bfs (ids f) (fold f) 11 [] [0] with
  | none=>rw [hb] at hD; cases hD
  | some D =>
   rw [hb] at hD
   have hc:=(chksS_iff f _ _ 10 0).1 hD
   have hn':=(ndsS_iff f 10 0).1 hn
   have hcv:∀ i,i < 10→¬ (0 < many (ids f) 10 i∧kd (f.getD i d0)=0)∧(kd (f.getD i d0) ≠ 0→lk (f.getD i d0)=((many (ids f) 10 i:Nat):Int))∧(kd (f.getD i d0)=2→i ∈ D)∧¬ (kd (f.getD i d0)=1∧lk (f.getD i d0)=0∧op (f.getD i d0)=0):=fun i hi=>by
    have:=okSv.1 (hc i (by omega) (by omega))
    rw [cnt_many hf hi,metOf_getD D i hi] at this
    refine ⟨fun h=>this.1 ⟨by omega,h.2⟩,this.2.1,fun h=>by simpa using this.2.2.1 h,this.2.2.2⟩
   have hbase:∀ i,i < 10→kd (f.getD i d0) ≠ 0→baseS (f.getD i d0)=true∧entsS (nm (f.getD i d0)) (nm (f.getD i d0)).length 0=true:=fun i hi hk=>by
    have:=hn' i (by omega) (by omega)
    unfold ndS at this
    rw [decide_eq_false hk] at this
    simpa using this
   have hzero:∀ i,i < 10→kd (f.getD i d0)=0→zr (f.getD i d0):=fun i hi hk=>by
    have:=hn' i (by omega) (by omega)
    unfold ndS at this
    rw [decide_eq_true hk] at this
    simpa using this
   refine ⟨hf,hr,fun i hi hk=>?_,hzero,fun i k hi hk=>?_,fun i hi=>(hcv i hi).2.1,fun i hi hk h=>(hcv i hi).2.2.2 ⟨hk,h⟩,D,hb,fun x hx hfx=>(hcv x hx).2.2.1 (by simpa [fold] using hfx)⟩
   ·have h1:=(hbase i hi hk).1
    simp only [baseS,baseI,Bool.and_eq_true,Bool.not_eq_true',decide_eq_true_eq,decide_eq_false_iff_not] at h1 ⊢
    obtain ⟨b1,b2,b3,b4,b5,b6,b7,b8,b9,b10⟩:=h1
    refine ⟨b1,b2,b3,b4,b5,?_,?_⟩
    ·by_cases h:kd (f.getD i d0)=1
     ·simp only [h,decide_true,cond_true,Bool.and_eq_true,Bool.not_eq_true',decide_eq_false_iff_not] at b10 ⊢
      exact ⟨b7,b10⟩
     ·simp only [h,decide_false,cond_false]
    ·by_cases h:kd (f.getD i d0)=2
     ·simp only [h,decide_true,cond_true,Bool.and_eq_true,Bool.not_eq_true',decide_eq_false_iff_not] at b9 ⊢
      exact ⟨b9.1,b9.2,b8⟩
     ·simp only [h,decide_false,cond_false]
   ·have hk0:kd (f.getD i d0) ≠ 0:=fun h=>by
     have:=(hzero i hi h).2.2.2.2.2.2.2.2
     omega
    have h1:=(entsS_iff _ _ 0).1 (hbase i hi hk0).2 k (by omega) (by omega)
    simp only [entS,Bool.and_eq_true,decide_eq_true_eq] at h1
    refine ⟨h1.1,h1.2.1,fun h=>?_,h1.2.2⟩
    have hx:((nm (f.getD i d0)).getD k e0).2.toNat < 10:=by omega
    refine (hcv _ hx).1 ⟨mem_many hi ?_,h⟩
    exact List.mem_map.2 ⟨_,mem_getD hk _,rfl⟩
 ·intro h
  obtain ⟨D,hb,hall⟩:=h.tree
  simp only [Bool.and_eq_true,decide_eq_true_eq,hb]
  have hlen:∀ i,i < 10→(nm (f.getD i d0)).length≤6:=fun i hi=>by
   by_cases hk:kd (f.getD i d0)=0
   ·have:=(h.zero i hi hk).2.2.2.2.2.2.2.2; omega
   ·exact baseI_len (h.base i hi hk)
  refine ⟨h.len,(ndsS_iff f 10 0).2 fun i _ hi=>?_,h.root,(chksS_iff f _ _ 10 0).2 fun i _ hi=>okSv.2 ?_⟩
  ·have hi:i < 10:=by omega
   unfold ndS
   by_cases hk:kd (f.getD i d0)=0
   ·rw [decide_eq_true hk]
    exact decide_eq_true (h.zero i hi hk)
   ·rw [decide_eq_false hk]
    simp only [cond_false,Bool.and_eq_true]
    have h1:=h.base i hi hk
    refine ⟨?_,(entsS_iff _ _ 0).2 fun k _ hk2=>?_⟩
    ·have hl:=h.links i hi hk
     have hm:=many_le hlen i
     simp only [baseS,baseI,Bool.and_eq_true,Bool.not_eq_true',decide_eq_true_eq,decide_eq_false_iff_not] at h1 ⊢
     obtain ⟨b1,b2,b3,b4,b5,b6,b7⟩:=h1
     have:kd (f.getD i d0)=1∨kd (f.getD i d0)=2:=by omega
     rcases this with h12 | h12
     ·simp only [h12,decide_true,cond_true,Bool.and_eq_true,Bool.not_eq_true',decide_eq_false_iff_not] at b6 b7 ⊢
      refine ⟨by omega,b2,b3,b4,b5,by omega,b6.1,by omega,by simp,b6.2⟩
     ·simp only [h12,decide_true,cond_true,Bool.and_eq_true,Bool.not_eq_true',decide_eq_false_iff_not,decide_eq_true_eq] at b6 b7 ⊢
      refine ⟨by omega,b2,b3,b4,b5,by omega,by omega,b7.2.2,⟨b7.1,b7.2.1⟩,by simp⟩
    ·have:=h.ents i k hi (by omega)
     simp only [entS,Bool.and_eq_true,decide_eq_true_eq]
     exact ⟨this.1,this.2.1,this.2.2.2⟩
  ·have hi:i < 10:=by omega
   rw [cnt_many h.len hi,metOf_getD D i hi]
   refine ⟨fun hh=>?_,h.links i hi,fun hk=>?_,fun hh=>h.live i hi hh.1 hh.2⟩
   ·obtain ⟨j,hj,hx⟩:=many_mem (f:=f) (x:=i) (by omega)
    obtain ⟨e,he,hei⟩:=List.mem_map.1 hx
    obtain ⟨k,hk,hke⟩:=List.getElem_of_mem he
    have:=(h.ents j k hj hk).2.2.1
    rw [getD_get hk,hke,hei] at this
    exact this hh.2
   ·simpa using hall i hi (by simpa [fold] using hk)
theorem OkF.nlen {f:List Nd} (h:OkF f):∀ i,i < 10→(nm (f.getD i d0)).length≤6:=fun i hi=>by
 by_cases hk:kd (f.getD i d0)=0
 ·have:=(h.zero i hi hk).2.2.2.2.2.2.2.2; omega
 ·exact baseI_len (h.base i hi hk)
theorem fold_pre {f:List Nd} (hf:f.length=10) (hb:∀ i,i < 10→kd (f.getD i d0) ≠ 0→baseI (f.getD i d0)=true) (hz:∀ i,i < 10→kd (f.getD i d0)=0→zr (f.getD i d0))
  (he:∀ i,i < 10→∀ e ∈ nm (f.getD i d0),1≤e.2∧e.2≤9):(∀ i,∀ x ∈ ids f i,x < 10)∧(∀ i,0 ∉ ids f i)∧(∀ i,ids f i ≠ []→fold f i=true)∧(∀ i,10≤i→ids f i=[]) ∧
  (∀ x,many (ids f) 10 x=1→abF (abvN z10 0 f) x < 10∧x ∈ ids f (abF (abvN z10 0 f) x)):=by
 have h1:∀ i,∀ x ∈ ids f i,1≤x∧x < 10:=fun i x hx=>by
  by_cases hi:i < 10
  ·obtain ⟨e,he1,rfl⟩:=List.mem_map.1 hx
   have:=he i hi e he1
   omega
  ·rw [ids_out hf (by omega)] at hx; cases hx
 refine ⟨fun i x hx=>(h1 i x hx).2,fun i hx=>by have:=h1 i 0 hx; omega,fun i hne=>?_,fun i hi=>ids_out hf hi,fun x hx=>?_⟩
 ·by_cases hi:i < 10
  ·by_cases hk:kd (f.getD i d0)=0
   ·have:=(hz i hi hk).2.2.2.2.2.2.2.2
    exact absurd (by unfold ids; rw [List.eq_nil_of_length_eq_zero this]; rfl) hne
   ·have h2:=hb i hi hk
    simp only [baseI,Bool.and_eq_true,Bool.not_eq_true',decide_eq_true_eq,decide_eq_false_iff_not] at h2
    obtain ⟨b1,_,_,_,_,b6,_⟩:=h2
    have:kd (f.getD i d0)=1∨kd (f.getD i d0)=2:=by omega
    rcases this with h12 | h12
    ·simp only [h12,decide_true,cond_true,Bool.and_eq_true,Bool.not_eq_true',decide_eq_false_iff_not] at b6
     have:(nm (f.getD i d0)).length=0:=by omega
     exact absurd (by unfold ids; rw [List.eq_nil_of_length_eq_zero this]; rfl) hne
    ·simp only [fold,h12,decide_true]
  ·exact absurd (ids_out hf (by omega)) hne
 ·obtain ⟨i,hi,hxi⟩:=many_mem (f:=f) (x:=x) (by omega)
  have hx10:=(h1 i x hxi).2
  have hfl:x ∈ flat f:=by rw [flat_eq hf,List.mem_flatMap]; exact ⟨i,List.mem_range.2 hi,hxi⟩
  obtain ⟨j,hj,h3,h4⟩:=(abvN_getD f 0 z10 x (by simp [z10]; exact hx10)).1 hfl
  have:abF (abvN z10 0 f) x=j:=by simp only [abF,h3]; omega
  rw [this]
  exact ⟨by omega,h4⟩
theorem okI_iff (f:List Nd):okI f=true↔OkF f:=by
 unfold okI
 constructor
 ·intro h
  simp only [Bool.and_eq_true,decide_eq_true_eq] at h
  obtain ⟨hf,hr,hn,hD⟩:=h
  have hc:=(chksI_iff f _ _ 10 0).1 hD
  have hn':=(ndsI_iff f 10 0).1 hn
  have hcv:∀ i,i < 10→kd (f.getD i d0) ≠ 0→lk (f.getD i d0)=((many (ids f) 10 i:Nat):Int)∧¬ (kd (f.getD i d0)=1∧lk (f.getD i d0)=0∧op (f.getD i d0)=0)∧(kd (f.getD i d0)=2→0 < (i:Int)→lk (f.getD i d0)=1)∧((i:Int)=0→lk (f.getD i d0)=0)∧(kd (f.getD i d0)=2→Gr.up (abF (abvN z10 0 f)) 11 i=true):=fun i hi hk=>by
   rcases okIv.1 (hc i (by omega) (by omega)) with h | h
   ·exact absurd h hk
   ·rw [cnt_many hf hi] at h
    exact h
  have hbase:∀ i,i < 10→kd (f.getD i d0) ≠ 0→baseI (f.getD i d0)=true∧entsI f (nm (f.getD i d0)) (nm (f.getD i d0)).length 0=true:=fun i hi hk=>by
   have:=hn' i (by omega) (by omega)
   unfold ndI at this
   rw [decide_eq_false hk] at this
   simpa using this
  have hzero:∀ i,i < 10→kd (f.getD i d0)=0→zr (f.getD i d0):=fun i hi hk=>by
   have:=hn' i (by omega) (by omega)
   unfold ndI at this
   rw [decide_eq_true hk] at this
   simpa using this
  have hm0:many (ids f) 10 0=0:=by
   have h1:=hcv 0 (by omega) (by rw [hr]; decide)
   have h2:=h1.2.2.2.1 rfl
   have h3:=h1.1
   omega
  have hents:∀ i k,i < 10→k < (nm (f.getD i d0)).length→nmOk ((nm (f.getD i d0)).getD k e0).1=true∧(1≤((nm (f.getD i d0)).getD k e0).2∧((nm (f.getD i d0)).getD k e0).2≤9)∧kd (f.getD ((nm (f.getD i d0)).getD k e0).2.toNat d0) ≠ 0∧sorted (nm (f.getD i d0)) k=true:=fun i k hi hk=>by
   have hk0:kd (f.getD i d0) ≠ 0:=fun h=>by
    have:=(hzero i hi h).2.2.2.2.2.2.2.2
    omega
   have h1:=(entsI_iff f _ _ 0).1 (hbase i hi hk0).2 k (by omega) (by omega)
   simp only [entI,Bool.and_eq_true,decide_eq_true_eq,Bool.not_eq_true',decide_eq_false_iff_not] at h1
   refine ⟨h1.1,⟨?_,h1.2.1.2⟩,h1.2.2.1,h1.2.2.2⟩
   have hne:((nm (f.getD i d0)).getD k e0).2.toNat ≠ 0:=fun h0=>by
    have:0 ∈ ids f i:=by
     exact List.mem_map.2 ⟨_,mem_getD hk _,h0⟩
    have:=mem_many hi this
    omega
   omega
  have hmem:∀ i,i < 10→∀ e ∈ nm (f.getD i d0),1≤e.2∧e.2≤9:=fun i hi e he=>by
   obtain ⟨k,hk,hke⟩:=List.getElem_of_mem he
   have:=(hents i k hi hk).2.1
   rwa [getD_get hk,hke] at this
  obtain ⟨p1,p2,p3,p4,p5⟩:=fold_pre hf (fun i hi hk=>(hbase i hi hk).1) hzero hmem
  have hfo:=(Gr.folders_iff (N:=10) (K:=11) (by omega) (by omega) p1 p2 p3 p4 (by simp only [fold,hr,decide_true]) p5).1
  refine ⟨hf,hr,fun i hi hk=>(hbase i hi hk).1,hzero,hents,fun i hi hk=>(hcv i hi hk).1,fun i hi hk h=>(hcv i hi (by rw [hk]; decide)).2.1 ⟨hk,h⟩,hfo.2 fun x hx hfx hx0=>?_⟩
  have h2:kd (f.getD x d0)=2:=by simpa [fold] using hfx
  have:=hcv x hx (by rw [h2]; decide)
  have h3:=this.2.2.1 h2 (by omega)
  have h4:=this.1
  exact ⟨by omega,this.2.2.2.2 h2⟩
 ·intro h
  simp only [Bool.and_eq_true,decide_eq_true_eq]
  have hmem:∀ i,i < 10→∀ e ∈ nm (f.getD i d0),1≤e.2∧e.2≤9:=fun i hi e he=>by
   obtain ⟨k,hk,hke⟩:=List.getElem_of_mem he
   have:=(h.ents i k hi hk).2.1
   rwa [getD_get hk,hke] at this
  obtain ⟨p1,p2,p3,p4,p5⟩:=fold_pre h.len h.base h.zero hmem
  have hfo:=(Gr.folders_iff (N:=10) (K:=11) (by omega) (by omega) p1 p2 p3 p4 (by simp only [fold,h.root,decide_true]) p5).1.1 h.tree
  refine ⟨h.len,h.root,(ndsI_iff f 10 0).2 fun i _ hi=>?_,(chksI_iff f _ _ 10 0).2 fun i _ hi=>okIv.2 ?_⟩
  ·have hi:i < 10:=by omega
   unfold ndI
   by_cases hk:kd (f.getD i d0)=0
   ·rw [decide_eq_true hk]
    exact decide_eq_true (h.zero i hi hk)
   ·rw [decide_eq_false hk]
    simp only [cond_false,Bool.and_eq_true]
    refine ⟨h.base i hi hk,(entsI_iff f _ _ 0).2 fun k _ hk2=>?_⟩
    have:=h.ents i k hi (by omega)
    simp only [entI,Bool.and_eq_true,decide_eq_true_eq,Bool.not_eq_true',decide_eq_false_iff_not]
    exact ⟨this.1,by omega,this.2.2.1,this.2.2.2⟩
  ·have hi:i < 10:=by omega
   rw [cnt_many h.len hi]
   by_cases hk:kd (f.getD i d0)=0
   ·exact .inl hk
   ·refine .inr ⟨h.links i hi hk,fun hh=>h.live i hi hh.1 hh.2,fun h2 h0=>?_,fun h0=>?_,fun h2=>?_⟩
    ·have:=(hfo i hi (by simpa [fold] using h2) (by omega)).1
     have h3:=h.links i hi hk
     omega
    ·have h3:=h.links i hi hk
     have hi0:i=0:=by omega
     have:many (ids f) 10 i=0:=by
      by_cases hp:0 < many (ids f) 10 i
      ·obtain ⟨j,_,hj⟩:=many_mem hp
       rw [hi0] at hj
       exact absurd hj (p2 j)
      ·omega
     omega
    ·by_cases hi0:i=0
     ·subst hi0; rfl
     ·exact (hfo i hi (by simpa [fold] using h2) hi0).2
theorem ok_eq (f:List Nd):okI f=okS f:=by
 have h:=(okI_iff f).trans (okS_iff f).symm
 cases h1:okI f <;> cases h2:okS f <;> simp_all
end Go.Proofs.Ytbjgiioppmkpiaa.Rx.Fs

namespace Go.Proofs.Ytbjgiioppmkpiaa.Rx.S
open Go Go.Proofs.Ytbjgiioppmkpiaa.Rx.Pu Go.Proofs.Ytbjgiioppmkpiaa.Rx.Fs
set_option linter.unusedVariables false
set_option linter.unusedSimpArgs false
structure SzN (B:Nat) (a:Nd):Prop where
 tx:(tx a).size≤B
 nm:(nm a).length≤B
 en:∀ e ∈ Fs.nm a,e.1.size≤B
structure SzF (B:Nat) (f:List Nd):Prop where
 len:f.length≤B
 nd:∀ a ∈ f,SzN B a
theorem SzF.sm {B n:Nat} {f:List Nd} (h:SzF B f) (hB:B < n) (hn:100 < n) (hn2:n < 4611686018427387904):SmF n f :=
 ⟨hn,hn2,fun a ha=>⟨by have:=(h.nd a ha).tx; omega,by have:=(h.nd a ha).nm; omega,fun e he=>by have:=(h.nd a ha).en e he; omega⟩⟩
abbrev Cr:=Int × Int × List Int
theorem set_self {α:Type} {l:List α} {i:Nat} (d:α) (h:i < l.length):l.set i (l.getD i d)=l:=by
 rw [getD_get h]
 exact List.set_getElem_self h
theorem p115_eq (n:Nat) (l:List En) (h:l.length≤2000000):p115 n l=some ((l,()),()):=by
 have e:decide ((0 + l.length) * (24:Nat)≤(140737488355328:Nat))=true:=decide_eq_true (by omega)
 unfold p115
 rw [e]
 rfl
theorem p114_eq (n:Nat) (l:List Nd) (h:l.length≤2000000):p114 n l=some ((l,()),()):=by
 have e:decide (l.length * (96:Nat)≤(140737488355328:Nat))=true:=decide_eq_true (by omega)
 unfold p114
 rw [e]
 rfl
theorem p62_eq (n:Nat) (f:List Nd) (h:SzF 2000000 f) (hn:2000000 < n):p62 n f=some ((f,()),()):=by
 have hlen:=h.len
 show st62_top n (p62_L3 n n) f=_
 simp only [st62_top,q114,p114_eq n f h.len,Option.bind_some]
 exact round_loop (F:=fun k i=>p62_L3 n k (f.length:Int) i f i) (r:=some ((f,()),())) f.length (fun k i hi=>by
  show st62_L3 n (p62_L3 n k) (f.length:Int) (i:Int) f (i:Int)=_
  have hc:=p115_eq n (nm (f.getD i d0)) (h.nd _ (getD_mem hi d0)).nm
  simp only [nm,d0] at hc
  have hs:f.set i ((f.getD i d0).1,(f.getD i d0).2.1,(f.getD i d0).2.2.1,(f.getD i d0).2.2.2.1,(f.getD i d0).2.2.2.2.1,(f.getD i d0).2.2.2.2.2.1,(f.getD i d0).2.2.2.2.2.2.1,(f.getD i d0).2.2.2.2.2.2.2.1,(f.getD i d0).2.2.2.2.2.2.2.2)=f:=set_self d0 hi
  simp only [d0] at hs
  have ele:decide ((i:Int)≤(i:Int))=true:=decide_eq_true (Int.le_refl _)
  have ele2:decide ((i:Int)≤((i:Nat):Int))=true:=ele
  simp only [st62_L3,lt_t hi,ge_t,ele,cond_true,toNat_cast,q115,hc,Option.bind_some,hs,decide_true,wr_succ (show i < 4611686018427387904 by omega)]
  rw [succI]) (fun k=>by
  show st62_L3 n (p62_L3 n k) (f.length:Int) (f.length:Int) f (f.length:Int)=_
  have ele:decide ((f.length:Int)≤(f.length:Int))=true:=decide_eq_true (Int.le_refl _)
  simp only [st62_L3,lt_f,cond_false,ele,cond_true]) f.length n 0 (by omega) (by omega)
theorem take_snoc {α:Type} {l:List α} {i:Nat} (h:i < l.length) (d:α):l.take i ++ [l.getD i d]=l.take (i + 1):=by
 rw [getD_get h,List.take_add_one,List.getElem?_eq_getElem h]
 rfl
theorem p67_eq (n:Nat) (f:List Nd) (h:SzF 2000000 f) (hn:2000000 < n):p67 n f=some ((f,()),()):=by
 have hlen:=h.len
 have:=round_loop (F:=fun k i=>p67_L3 n k i f (f.take i.toNat)) (r:=some ((f,()),())) f.length (fun k i hi=>by
  show st67_L3 n (p67_L3 n k) (i:Int) f (f.take i)=_
  have e1:decide ((0 + (nm (f.getD i d0)).length) * (24:Nat)≤(140737488355328:Nat))=true:=decide_eq_true (by have:=(h.nd _ (getD_mem hi d0)).nm; omega)
  have e2:∀ x:Nd,decide (((f.take i).length + [x].length) * (96:Nat)≤(140737488355328:Nat))=true:=fun x=>decide_eq_true (by rw [List.length_take]; simp only [List.length_cons,List.length_nil]; omega)
  have hs:f.take i ++ [((f.getD i d0).1,(f.getD i d0).2.1,(f.getD i d0).2.2.1,(f.getD i d0).2.2.2.1,(f.getD i d0).2.2.2.2.1,(f.getD i d0).2.2.2.2.2.1,(f.getD i d0).2.2.2.2.2.2.1,(f.getD i d0).2.2.2.2.2.2.2.1,(f.getD i d0).2.2.2.2.2.2.2.2)]=f.take (i + 1):=take_snoc hi d0
  simp only [d0,nm] at hs e1
  simp only [st67_L3,lt_t hi,ge_t,cond_true,toNat_cast,e1,e2,hs,wr_succ (show i < 4611686018427387904 by omega)]) (fun k=>by
  show st67_L3 n (p67_L3 n k) (f.length:Int) f (f.take f.length)=_
  simp only [st67_L3,lt_f,cond_false,List.take_length]) f.length n 0 (by omega) (by omega)
 exact this
theorem p157_eq (n:Nat) (e:En):p157 n e=some ((e,()),()):=rfl
theorem p150_eq (n:Nat) (l:List En) (hl:l.length≤2000000) (hn:l.length < n):p150 n l=some ((l,()),()):=by
 have h0:decide ((l.length:Int) * ((24:Nat):Int)≤140737488355328)=true:=decide_eq_true (by omega)
 show st150_top n (p150_L3 n n) l=_
 simp only [st150_top,h0,cond_true]
 have:=copy_loop (F:=p150_L3 n) (R:=fun acc=>some ((acc,()),())) (g:=id) (da:=(ByteArray.empty,(0:Int))) l (fun k i acc hi ha=>by
   show st150_L3 n (p150_L3 n k) l i acc=_
   rw [← ha] at hi
   simp only [st150_L3,lt_t hi,ha ▸ lt_t hi,ge_t,cond_true,toNat_cast,q157,p157_eq,Option.bind_some]
   rw [wr_succ (by omega)]
   rfl) (fun k acc=>by
   show st150_L3 n (p150_L3 n k) l l.length acc=_
   simp only [st150_L3,lt_f,cond_false]) l.length n 0 (List.replicate (l.length:Int).toNat (ByteArray.empty,(0:Int))) (by simp) (by omega) hn (fun j hj=>by omega)
 rw [List.map_id] at this
 exact this
theorem p134_eq (n:Nat) (a:Nd) (hl:(nm a).length≤2000000) (hn:(nm a).length < n):p134 n a=some ((a,()),()):=by
 show st134_top n a=_
 have:=p150_eq n (nm a) hl hn
 simp only [nm] at this
 simp only [st134_top,q150,this,Option.bind_some]
theorem p97_eq (n:Nat) (l:List Nd) (h:SzF 2000000 l) (hn:2000000 < n):p97 n l=some ((l,()),()):=by
 have hlen:=h.len
 have h0:decide ((l.length:Int) * ((96:Nat):Int)≤140737488355328)=true:=decide_eq_true (by omega)
 show st97_top n (p97_L3 n n) l=_
 simp only [st97_top,h0,cond_true]
 have:=copy_loop (F:=p97_L3 n) (R:=fun acc=>some ((acc,()),())) (g:=id) (da:=d0) l (fun k i acc hi ha=>by
   show st97_L3 n (p97_L3 n k) l i acc=_
   have hc:=p134_eq n (l.getD i d0) (h.nd _ (getD_mem hi d0)).nm (by have:=(h.nd _ (getD_mem hi d0)).nm; omega)
   simp only [d0] at hc
   have hia:=hi
   rw [← ha] at hia
   simp only [st97_L3,lt_t hi,lt_t hia,ge_t,cond_true,toNat_cast,q134,hc,Option.bind_some]
   rw [wr_succ (by omega)]
   rfl) (fun k acc=>by
   show st97_L3 n (p97_L3 n k) l l.length acc=_
   simp only [st97_L3,lt_f,cond_false]) l.length n 0 (List.replicate (l.length:Int).toNat d0) (by simp) (by omega) (by omega) (fun j hj=>by omega)
 rw [List.map_id] at this
 exact this
theorem p40_eq (n:Nat) (f:List Nd) (h:SzF 2000000 f) (hn:2000000 < n):p40 n f=some ((f,()),()):=by
 show st40_top n f=_
 simp only [st40_top,q97,p97_eq n f h hn,Option.bind_some]
theorem p90_eq (n:Nat) (l:List Int) (hl:l.length≤2000000) (hn:l.length < n):p90 n l=some ((l,()),()):=by
 have h0:decide ((l.length:Int) * ((8:Nat):Int)≤140737488355328)=true:=decide_eq_true (by omega)
 show st90_top n (p90_L3 n n) l=_
 simp only [st90_top,h0,cond_true]
 have:=copy_loop (F:=p90_L3 n) (R:=fun acc=>some ((acc,()),())) (g:=id) (da:=0) l (fun k i acc hi ha=>by
   show st90_L3 n (p90_L3 n k) l i acc=_
   rw [← ha] at hi
   simp only [st90_L3,lt_t hi,ha ▸ lt_t hi,ge_t,cond_true,toNat_cast]
   rw [wr_succ (by omega)]
   rfl) (fun k acc=>by
   show st90_L3 n (p90_L3 n k) l l.length acc=_
   simp only [st90_L3,lt_f,cond_false]) l.length n 0 (List.replicate (l.length:Int).toNat 0) (by simp) (by omega) hn (fun j hj=>by omega)
 rw [List.map_id] at this
 exact this
theorem p33_eq (n:Nat) (c:Cr) (h1:c.2.2.length≤2000000) (hn:2000000 < n):p33 n c=some ((c,()),()):=by
 show st33_top n c=_
 simp only [st33_top,q90,p90_eq n c.2.2 h1 (by omega),Option.bind_some]
theorem p158_refl (n:Nat) (e:En):p158 n e e=some ((true,()),()):=by
 show st158_top n e e=_
 simp only [st158_top,beq_self_eq_true,decide_true,Bool.not_true,cond_false]
theorem p151_refl (n:Nat) (l:List En) (hl:l.length≤2000000) (hn:l.length < n):p151 n l l=some ((true,()),()):=by
 show st151_top n (p151_L4 n n) l l=_
 simp only [st151_top,decide_true,Bool.not_true,cond_false]
 exact round_loop (F:=fun k i=>p151_L4 n k l l i) (r:=some ((true,()),())) l.length (fun k i hi=>by
  show st151_L4 n (p151_L4 n k) l l i=_
  simp only [st151_L4,lt_t hi,ge_t,cond_true,q158,p158_refl,Option.bind_some,Bool.not_true,cond_false]
  rw [wr_succ (by omega)]) (fun k=>by
  show st151_L4 n (p151_L4 n k) l l l.length=_
  simp only [st151_L4,lt_f,cond_false]) l.length n 0 (by omega) hn
theorem p135_refl (n:Nat) (a:Nd) (hl:(nm a).length≤2000000) (hn:(nm a).length < n):p135 n a a=some ((true,()),()):=by
 show st135_top n a a=_
 have:=p151_refl n (nm a) hl hn
 simp only [nm] at this
 simp only [st135_top,q151,this,Option.bind_some,decide_true,Bool.not_true,cond_false,beq_self_eq_true]
theorem p98_refl (n:Nat) (l:List Nd) (h:SzF 2000000 l) (hn:2000000 < n):p98 n l l=some ((true,()),()):=by
 have hlen:=h.len
 show st98_top n (p98_L4 n n) l l=_
 simp only [st98_top,decide_true,Bool.not_true,cond_false]
 exact round_loop (F:=fun k i=>p98_L4 n k l l i) (r:=some ((true,()),())) l.length (fun k i hi=>by
  show st98_L4 n (p98_L4 n k) l l i=_
  have hc:=p135_refl n (l.getD i d0) (h.nd _ (getD_mem hi d0)).nm (by have:=(h.nd _ (getD_mem hi d0)).nm; omega)
  simp only [d0] at hc
  simp only [st98_L4,lt_t hi,ge_t,cond_true,toNat_cast,q135,hc,Option.bind_some,Bool.not_true,cond_false]
  rw [wr_succ (by omega)]) (fun k=>by
  show st98_L4 n (p98_L4 n k) l l l.length=_
  simp only [st98_L4,lt_f,cond_false]) l.length n 0 (by omega) (by omega)
theorem p41_refl (n:Nat) (f:List Nd) (h:SzF 2000000 f) (hn:2000000 < n):p41 n f f=some ((true,()),()):=by
 show st41_top n f f=_
 simp only [st41_top,q98,p98_refl n f h hn,Option.bind_some,Bool.not_true,cond_false]
theorem p92_refl (n:Nat) (l:List Int) (hl:l.length≤2000000) (hn:l.length < n):p92 n l l=some ((true,()),()):=by
 show st92_top n (p92_L4 n n) l l=_
 simp only [st92_top,decide_true,Bool.not_true,cond_false]
 exact round_loop (F:=fun k i=>p92_L4 n k l l i) (r:=some ((true,()),())) l.length (fun k i hi=>by
  show st92_L4 n (p92_L4 n k) l l i=_
  simp only [st92_L4,lt_t hi,ge_t,cond_true,decide_true,Bool.not_true,cond_false]
  rw [wr_succ (by omega)]) (fun k=>by
  show st92_L4 n (p92_L4 n k) l l l.length=_
  simp only [st92_L4,lt_f,cond_false]) l.length n 0 (by omega) hn
theorem p35_refl (n:Nat) (c:Cr) (hl:c.2.2.length≤2000000) (hn:2000000 < n):p35 n c c=some ((true,()),()):=by
 show st35_top n c c=_
 simp only [st35_top,q92,p92_refl n c.2.2 hl (by omega),Option.bind_some,decide_true,Bool.not_true,cond_false]
theorem p156_eq (n:Nat) (e:En) (b:Int) (hb:0≤b∧b≤1048576) (he:e.1.size≤9223372036854775807):∃ r:Int,p156 n e b=some ((r,()),())∧r≤b∧(0≤r→e.1.size≤1048576):=by
 show ∃ r,st156_top n e b=_∧_
 have w1:IntKind.i64.wrap (b - (e.1.size:Int))=b - e.1.size:=wr (by omega) (by omega)
 simp only [st156_top,w1]
 by_cases z:b - (e.1.size:Int) < 0
 ·simp only [z,decide_true,cond_true]; exact ⟨-1,rfl,by omega,fun h=>by omega⟩
 ·simp only [z,decide_false,cond_false]; exact ⟨_,rfl,by omega,fun h=>by omega⟩
theorem p149_L5_eq (n:Nat) (l:List En) (hl:l.length≤9223372036854775807) (hw:∀ e ∈ l,e.1.size≤9223372036854775807):∀ (d m k:Nat) (b:Int),k + d=l.length→l.length≤1048576→d < m→(0≤b∧b≤1048576) →
  ∃ r:Int,p149_L5 n m l b (k:Int)=some ((r,()),())∧r≤b∧(0≤r→∀ j,k≤j→j < l.length→(l.getD j e0).1.size≤1048576)
 | _,0,_,_,_,_,h,_=>by omega
 | 0,m + 1,k,b,hk,h1,hm,hb=>by
  obtain rfl:k=l.length:=by omega
  show ∃ r,st149_L5 n (p149_L5 n m) l b (l.length:Int)=_∧_
  simp only [st149_L5,lt_f,cond_false]
  exact ⟨b,rfl,by omega,fun _ j hj hj2=>by omega⟩
 | d + 1,m + 1,k,b,hk,h1,hm,hb=>by
  have hkl:k < l.length:=by omega
  show ∃ r,st149_L5 n (p149_L5 n m) l b (k:Int)=_∧_
  obtain ⟨r,hr,hr1,hr2⟩:=p156_eq n (l.getD k e0) b hb (hw _ (getD_mem hkl e0))
  simp only [e0] at hr
  simp only [st149_L5,lt_t hkl,ge_t,cond_true,toNat_cast,q156,hr,Option.bind_some]
  by_cases z:r < 0
  ·simp only [z,decide_true,cond_true]; exact ⟨-1,rfl,by omega,fun h=>by omega⟩
  ·simp only [z,decide_false,cond_false]
   rw [wr_succ (by omega)]
   obtain ⟨s,hs,hs1,hs2⟩:=p149_L5_eq n l hl hw d m (k + 1) r (by omega) h1 (by omega) (by omega)
   refine ⟨s,hs,by omega,fun h j hj hj2=>?_⟩
   rcases Nat.eq_or_lt_of_le hj with rfl | hlt
   ·exact hr2 (by omega)
   ·exact hs2 h j (by omega) hj2
theorem p149_eq (n:Nat) (hn:2000000 < n) (l:List En) (hl:l.length≤9223372036854775807) (hw:∀ e ∈ l,e.1.size≤9223372036854775807) (b:Int) (hb:0≤b∧b≤1048576) :
  ∃ r:Int,p149 n l b=some ((r,()),())∧r≤b∧(0≤r→l.length≤1048576∧∀ e ∈ l,e.1.size≤1048576):=by
 show ∃ r,st149_top n (p149_L5 n n) l b=_∧_
 have w1:IntKind.i64.wrap (b - (l.length:Int))=b - l.length:=wr (by omega) (by omega)
 simp only [st149_top,w1]
 by_cases z:b - (l.length:Int) < 0
 ·simp only [z,decide_true,cond_true]; exact ⟨-1,rfl,by omega,fun h=>by omega⟩
 ·simp only [z,decide_false,cond_false]
  obtain ⟨s,hs,hs1,hs2⟩:=p149_L5_eq n l hl hw l.length n 0 (b - l.length) (by omega) (by omega) (by omega) (by omega)
  refine ⟨s,hs,by omega,fun h=>⟨by omega,fun e he=>?_⟩⟩
  obtain ⟨k,hk,hke⟩:=List.getElem_of_mem he
  have:=hs2 h k (by omega) hk
  rwa [getD_get hk,hke] at this
structure WfN (a:Nd):Prop where
 tx:(tx a).size≤9223372036854775807
 nm:(nm a).length≤9223372036854775807
 en:∀ e ∈ Fs.nm a,e.1.size≤9223372036854775807
theorem p133_eq (n:Nat) (hn:2000000 < n) (a:Nd) (hw:WfN a) (b:Int) (hb:0≤b∧b≤1048576):∃ r:Int,p133 n a b=some ((r,()),())∧r≤b∧(0≤r→SzN 1048576 a):=by
 show ∃ r,st133_top n a b=_∧_
 have ht:=hw.tx
 have w1:IntKind.i64.wrap (b - ((tx a).size:Int))=b - (tx a).size:=wr (by omega) (by omega)
 simp only [tx] at w1
 simp only [st133_top,w1]
 by_cases z:b - ((tx a).size:Int) < 0
 ·have z':=z
  simp only [tx] at z'
  simp only [z',decide_true,cond_true]; exact ⟨-1,rfl,by omega,fun h=>by omega⟩
 ·have z':=z
  simp only [tx] at z'
  obtain ⟨r,hr,hr1,hr2⟩:=p149_eq n hn (nm a) hw.nm hw.en (b - (tx a).size) (by omega)
  simp only [nm,tx] at hr
  simp only [z',decide_false,cond_false,q149,hr,Option.bind_some]
  by_cases z2:r < 0
  ·simp only [z2,decide_true,cond_true]; exact ⟨-1,rfl,by omega,fun h=>by omega⟩
  ·simp only [z2,decide_false,cond_false]
   exact ⟨r,rfl,by omega,fun h=>⟨by omega,(hr2 h).1,(hr2 h).2⟩⟩
theorem p96_L5_eq (n:Nat) (hn:2000000 < n) (l:List Nd) (hl:l.length≤9223372036854775807) (hw:∀ a ∈ l,WfN a):∀ (d m k:Nat) (b:Int),k + d=l.length→l.length≤1048576→d < m→(0≤b∧b≤1048576) →
  ∃ r:Int,p96_L5 n m l b (k:Int)=some ((r,()),())∧r≤b∧(0≤r→∀ j,k≤j→j < l.length→SzN 1048576 (l.getD j d0))
 | _,0,_,_,_,_,h,_=>by omega
 | 0,m + 1,k,b,hk,h1,hm,hb=>by
  obtain rfl:k=l.length:=by omega
  show ∃ r,st96_L5 n (p96_L5 n m) l b (l.length:Int)=_∧_
  simp only [st96_L5,lt_f,cond_false]
  exact ⟨b,rfl,by omega,fun _ j hj hj2=>by omega⟩
 | d + 1,m + 1,k,b,hk,h1,hm,hb=>by
  have hkl:k < l.length:=by omega
  show ∃ r,st96_L5 n (p96_L5 n m) l b (k:Int)=_∧_
  obtain ⟨r,hr,hr1,hr2⟩:=p133_eq n hn (l.getD k d0) (hw _ (getD_mem hkl d0)) b hb
  have hr':q133 n (((l.getD k d0).1,(l.getD k d0).2.1,(l.getD k d0).2.2.1,(l.getD k d0).2.2.2.1,(l.getD k d0).2.2.2.2.1,(l.getD k d0).2.2.2.2.2.1,(l.getD k d0).2.2.2.2.2.2.1,(l.getD k d0).2.2.2.2.2.2.2.1,(l.getD k d0).2.2.2.2.2.2.2.2),b,())=some ((r,()),()):=hr
  simp only [d0] at hr'
  simp only [st96_L5,lt_t hkl,ge_t,cond_true,toNat_cast,hr',Option.bind_some]
  by_cases z:r < 0
  ·simp only [z,decide_true,cond_true]; exact ⟨-1,rfl,by omega,fun h=>by omega⟩
  ·simp only [z,decide_false,cond_false]
   rw [wr_succ (by omega)]
   obtain ⟨s,hs,hs1,hs2⟩:=p96_L5_eq n hn l hl hw d m (k + 1) r (by omega) h1 (by omega) (by omega)
   refine ⟨s,hs,by omega,fun h j hj hj2=>?_⟩
   rcases Nat.eq_or_lt_of_le hj with rfl | hlt
   ·exact hr2 (by omega)
   ·exact hs2 h j (by omega) hj2
structure WfF (f:List Nd):Prop where
 len:f.length≤9223372036854775807
 nd:∀ a ∈ f,WfN a
theorem p39_eq (n:Nat) (hn:2000000 < n) (f:List Nd) (hw:WfF f) (b:Int) (hb:0≤b∧b≤1048576):∃ r:Int,p39 n f b=some ((r,()),())∧r≤b∧(0≤r→SzF 1048576 f):=by
 have h72:∃ r:Int,p96 n f b=some ((r,()),())∧r≤b∧(0≤r→SzF 1048576 f):=by
  show ∃ r,st96_top n (p96_L5 n n) f b=_∧_
  have hl:=hw.len
  have w1:IntKind.i64.wrap (b - (f.length:Int))=b - f.length:=wr (by omega) (by omega)
  simp only [st96_top,w1]
  by_cases z:b - (f.length:Int) < 0
  ·simp only [z,decide_true,cond_true]; exact ⟨-1,rfl,by omega,fun h=>by omega⟩
  ·simp only [z,decide_false,cond_false]
   obtain ⟨s,hs,hs1,hs2⟩:=p96_L5_eq n hn f hl hw.nd f.length n 0 (b - f.length) (by omega) (by omega) (by omega) (by omega)
   refine ⟨s,hs,by omega,fun h=>⟨by omega,fun a ha=>?_⟩⟩
   obtain ⟨k,hk,hka⟩:=List.getElem_of_mem ha
   have:=hs2 h k (by omega) hk
   rwa [getD_get hk,hka] at this
 obtain ⟨r,hr,hr1,hr2⟩:=h72
 show ∃ r,st39_top n f b=_∧_
 simp only [st39_top,q96,hr,Option.bind_some]
 by_cases z:r < 0
 ·simp only [z,decide_true,cond_true]; exact ⟨-1,rfl,by omega,fun h=>by omega⟩
 ·simp only [z,decide_false,cond_false]; exact ⟨r,rfl,hr1,hr2⟩
theorem p31_eq (n:Nat) (c:Cr) (hw:c.2.2.length≤9223372036854775807) (b:Int) (hb:0≤b∧b≤1048576):∃ r:Int,p31 n c b=some ((r,()),())∧r≤b∧(0≤r→c.2.2.length≤1048576):=by
 have h73:∃ r:Int,p88 n c.2.2 b=some ((r,()),())∧r≤b∧(0≤r→c.2.2.length≤1048576):=by
  show ∃ r,st88_top n c.2.2 b=_∧_
  have w1:IntKind.i64.wrap (b - (c.2.2.length:Int))=b - c.2.2.length:=wr (by omega) (by omega)
  simp only [st88_top,w1]
  by_cases z:b - (c.2.2.length:Int) < 0
  ·simp only [z,decide_true,cond_true]; exact ⟨-1,rfl,by omega,fun h=>by omega⟩
  ·simp only [z,decide_false,cond_false]; exact ⟨_,rfl,by omega,fun h=>by omega⟩
 obtain ⟨r,hr,hr1,hr2⟩:=h73
 show ∃ r,st31_top n c b=_∧_
 simp only [st31_top,q88,hr,Option.bind_some]
 by_cases z:r < 0
 ·simp only [z,decide_true,cond_true]; exact ⟨-1,rfl,by omega,fun h=>by omega⟩
 ·simp only [z,decide_false,cond_false]; exact ⟨r,rfl,hr1,hr2⟩
end Go.Proofs.Ytbjgiioppmkpiaa.Rx.S

namespace Go.Proofs.Ytbjgiioppmkpiaa.Rx.S
open Go Go.Proofs.Ytbjgiioppmkpiaa.Rx.Pu Go.Proofs.Ytbjgiioppmkpiaa.Rx.Fs
set_option linter.unusedVariables false
set_option linter.unusedSimpArgs false
theorem p136_L4_ex (n:Nat):∀ (d m:Nat) (k:Nat) (s:ByteArray),k < 10 ^ d→k < 4611686018427387904→d < m→s.size + d≤1000→∃ r,p136_L4 n m (k:Int) s=some ((r,()),())
 | _,0,_,_,_,_,h,_=>by omega
 | 0,m + 1,k,s,hk,hb,hm,hs=>by
  have:k=0:=by simpa using hk
  subst this
  show ∃ r,st136_L4 n (p136_L4 n m) ((0:Nat):Int) s=_
  have e1:decide ((0:Int) < ((0:Nat):Int))=false:=rfl
  have e2:decide ((ByteArray.mk #[(109:UInt8)]).size + s.size≤(9223372036854775807:Nat))=true:=decide_eq_true (by show 1 + s.size≤_; omega)
  simp only [st136_L4,e1,e2,cond_false,cond_true]
  exact ⟨_,rfl⟩
 | d + 1,m + 1,k,s,hk,hb,hm,hs=>by
  show ∃ r,st136_L4 n (p136_L4 n m) (k:Int) s=_
  by_cases h0:k=0
  ·subst h0
   have e1:decide ((0:Int) < ((0:Nat):Int))=false:=rfl
   have e2:decide ((ByteArray.mk #[(109:UInt8)]).size + s.size≤(9223372036854775807:Nat))=true:=decide_eq_true (by show 1 + s.size≤_; omega)
   simp only [st136_L4,e1,e2,cond_false,cond_true]
   exact ⟨_,rfl⟩
  ·have e1:decide ((0:Int) < (k:Int))=true:=decide_eq_true (by omega)
   have hs1:∀ x:Int,(List.foldl (fun (r:ByteArray) (n:Int)=>r.push (UInt8.ofNat n.toNat)) ByteArray.empty [x]).size=1:=fun x=>rfl
   have e2:∀ x:Int,decide ((List.foldl (fun (r:ByteArray) (n:Int)=>r.push (UInt8.ofNat n.toNat)) ByteArray.empty [x]).size + s.size≤(9223372036854775807:Nat))=true:=fun x=>decide_eq_true (by rw [hs1]; omega)
   have e3:IntKind.i64.wrap ((k:Int).tdiv 10)=((k / 10:Nat):Int):=by
    have h1:(k:Int).tdiv 10=((k / 10:Nat):Int):=rfl
    rw [h1]
    exact wr (by omega) (by omega)
   simp only [st136_L4,e1,e2,e3,cond_true]
   exact p136_L4_ex n d m (k / 10) _ (by rw [Nat.pow_succ] at hk; omega) (by omega) (by omega) (by rw [ByteArray.size_append,hs1]; omega)
theorem p136_ex (n:Nat) (hn:100 < n) (k:Int) (hk:0≤k∧k≤4600000000000000000):∃ r,p136 n k=some ((r,()),()):=by
 show ∃ r,st136_top n (p136_L4 n n) k=_
 by_cases h0:k≤0
 ·simp only [st136_top,h0,decide_true,cond_true]
  exact ⟨_,rfl⟩
 ·simp only [st136_top,h0,decide_false,cond_false]
  obtain ⟨j,rfl⟩:=Int.eq_ofNat_of_zero_le hk.1
  exact p136_L4_ex n 20 n j _ (Nat.lt_of_le_of_lt (show j≤4600000000000000000 by omega) (by decide)) (by omega) (by omega) (by decide)
noncomputable def mtx (n:Nat) (k:Int):ByteArray:=match p136 n k with | some r=>r.1.1 | none=>ByteArray.empty
theorem p136_eq (n:Nat) (hn:100 < n) (k:Int) (hk:0≤k∧k≤4600000000000000000):p136 n k=some ((mtx n k,()),()):=by
 obtain ⟨r,hr⟩:=p136_ex n hn k hk
 unfold mtx
 rw [hr]
noncomputable def mkE (n:Nat) (m:Int):En:=(mtx n m,m + 1)
theorem p137_eq (n:Nat) (hn:2000000 < n) (l:List En) (m:Int) (hm:0≤m∧m≤4500000000000000000) (hl:l.length≤2000000):p137 n l m=some ((m + 2 * l.length,()),(marks (mkE n) 2 m l.length,())):=by
 show p137_L2 n n m 0 l=_
 have:=mark_loop (F:=p137_L2 n) (R:=fun m xs=>some ((m,()),(xs,()))) (f:=mkE n) (s:=2) (m0:=m) (n:=l.length) (fun k i xs hi hx=>by
   show st137_L2 n (p137_L2 n k) (m + 2 * (i:Int)) i xs=_
   rw [← hx] at hi
   have g1:∀ (xs:List En),xs.length=l.length→∀ x:En,(xs.set i x).getD i (ByteArray.empty,(0:Int))=x:=fun xs h x=>by
    rw [getD_set_i,if_pos ⟨rfl,by omega⟩]
   have w1:IntKind.i64.wrap (m + 2 * (i:Int) + 1)=m + 2 * (i:Int) + 1:=wr (by omega) (by omega)
   have w2:IntKind.i64.wrap (m + 2 * (i:Int) + 1 + 1)=m + 2 * ((i + 1:Nat):Int):=(wr (x:=m + 2 * (i:Int) + 1 + 1) (by omega) (by omega)).trans (by omega)
   have hmt:=p136_eq n (by omega) (m + 2 * (i:Int)) (by omega)
   simp only [st137_L2,q136,hmt,Option.bind_some,List.length_set,lt_t hi,ge_t,cond_true,toNat_cast,w1,w2,wr_succ (show i < 4611686018427387904 by omega),List.set_set]
   simp only [g1 xs hx,mkE]) (fun k xs hx=>by
   show st137_L2 n (p137_L2 n k) (m + 2 * (l.length:Int)) l.length xs=_
   rw [← hx]
   simp only [st137_L2,lt_f,cond_false]) l.length n 0 l rfl (by omega) (by omega) (fun j hj=>by omega)
 simpa using this
theorem p138_eq (n:Nat) (hn:2000000 < n) (c:Nat) (m:Int) (hm:0≤m∧m≤4500000000000000000) (hl:c≤2000000):p138 n (marks (mkE n) 2 m c) m=some ((m + 2 * c,()),()):=by
 show p138_L2 n n (marks (mkE n) 2 m c) m 0=_
 have:=held_loop (F:=fun k m' i=>p138_L2 n k (marks (mkE n) 2 m c) m' i) (R:=fun m=>some ((m,()),())) (s:=2) (m0:=m) (n:=c) (fun k i hi=>by
   show st138_L2 n (p138_L2 n k) (marks (mkE n) 2 m c) (m + 2 * (i:Int)) i=_
   have hi':i < (marks (mkE n) 2 m c).length:=by rw [marks_length]; exact hi
   have w1:IntKind.i64.wrap (m + 2 * (i:Int) + 1)=m + 2 * (i:Int) + 1:=wr (by omega) (by omega)
   have w2:IntKind.i64.wrap (m + 2 * (i:Int) + 1 + 1)=m + 2 * ((i + 1:Nat):Int):=(wr (x:=m + 2 * (i:Int) + 1 + 1) (by omega) (by omega)).trans (by omega)
   have hmt:=p136_eq n (by omega) (m + 2 * (i:Int)) (by omega)
   simp only [st138_L2,q136,hmt,Option.bind_some,lt_t hi',ge_t,cond_true,toNat_cast,marks_getD (mkE n) 2 m c i hi (ByteArray.empty,(0:Int)),mkE,decide_true,Bool.not_true,cond_false,beq_self_eq_true,w1,w2,wr_succ (show i < 4611686018427387904 by omega)]) (fun k=>by
   show st138_L2 n (p138_L2 n k) (marks (mkE n) 2 m c) (m + 2 * (c:Int)) c=_
   have:decide ((c:Int) < ((marks (mkE n) 2 m c).length:Int))=false:=by rw [marks_length]; simp
   simp only [st138_L2,this,cond_false]) c n 0 (by omega) (by omega)
 simpa using this
noncomputable def mkN (n:Nat) (m:Int) (a:Nd):Nd:=(m,m + 1,m + 2,m + 3,m + 4,m + 5,decide ((m + 6).tmod 3=0),mtx n (m + 7),marks (mkE n) 2 (m + 8) (nm a).length)
noncomputable def mkF (n:Nat):Int→List Nd→List Nd
 | _,[]=>[]
 | m,a :: rs=>mkN n m a :: mkF n (m + 8 + 2 * (nm a).length) rs
def mkS:Int→List Nd→Int
 | m,[]=>m
 | m,a :: rs=>mkS (m + 8 + 2 * (nm a).length) rs
theorem mkS_le:∀ (l:List Nd) (m:Int),(∀ a ∈ l,(nm a).length≤2000000)→m≤mkS m l∧mkS m l≤m + 4000008 * l.length
 | [],m,_=>by simp [mkS]
 | a :: rs,m,h=>by
  have h1:=h a List.mem_cons_self
  have:=mkS_le rs (m + 8 + 2 * (nm a).length) (fun b hb=>h b (List.mem_cons_of_mem _ hb))
  simp only [mkS,List.length_cons]
  omega
theorem getD_mid {α:Type} (l:List α) (a:α) (r:List α) (d:α):(l ++ a :: r).getD l.length d=a:=by
 rw [List.getD_eq_getElem?_getD,List.getElem?_append_right (Nat.le_refl _),Nat.sub_self]
 rfl
theorem set_mid {α:Type} (l:List α) (a b:α) (r:List α):(l ++ a :: r).set l.length b=l ++ b :: r:=by
 rw [List.set_append_right _ _ (Nat.le_refl _),Nat.sub_self]
 rfl
theorem p99_L2_eq (n:Nat) (hn:2000000 < n):∀ (rest:List Nd) (k:Nat) (done:List Nd) (m:Int),rest.length < k→done.length + rest.length≤2000000→(∀ a ∈ rest,(nm a).length≤2000000)→0≤m→m + 4000008 * rest.length≤4500000000000000000 →
  p99_L2 n k m (done.length:Int) (done ++ rest)=some ((mkS m rest,()),(done ++ mkF n m rest,()))
 | _,0,_,_,h,_,_,_,_=>by omega
 | [],k + 1,done,m,hk,hd,hs,hm0,hm=>by
  show st99_L2 n _ m (done.length:Int) (done ++ [])=_
  rw [List.append_nil]
  simp only [st99_L2,lt_f,cond_false,mkS,mkF,List.append_nil]
 | a :: rest,k + 1,done,m,hk,hd,hs,hm0,hm=>by
  have ih:=p99_L2_eq n hn rest k (done ++ [mkN n m a]) (m + 8 + 2 * (nm a).length) (by simp at hk; omega) (by simp at hd ⊢; omega) (fun b hb=>hs b (List.mem_cons_of_mem _ hb)) (by omega) (by
   have:=hs a List.mem_cons_self
   simp only [List.length_cons] at hm
   omega)
  simp only [List.length_cons] at hm hd
  have ha:=hs a List.mem_cons_self
  have e0:∀ b:Nd,decide ((done.length:Int) < ((done ++ b :: rest).length:Int))=true:=fun b=>decide_eq_true (by simp; omega)
  have hidx:IntKind.i64.wrap ((done.length:Int) + 1)=((done ++ [mkN n m a]).length:Int):=by
   rw [wr_succ (by omega)]
   simp
  have w1:IntKind.i64.wrap (m + 1)=m + 1:=wr (by omega) (by omega)
  have w2:IntKind.i64.wrap (m + 1 + 1)=m + 2:=(wr (x:=m + 1 + 1) (by omega) (by omega)).trans (by omega)
  have w3:IntKind.i64.wrap (m + 2 + 1)=m + 3:=(wr (x:=m + 2 + 1) (by omega) (by omega)).trans (by omega)
  have w4:IntKind.i64.wrap (m + 3 + 1)=m + 4:=(wr (x:=m + 3 + 1) (by omega) (by omega)).trans (by omega)
  have w5:IntKind.i64.wrap (m + 4 + 1)=m + 5:=(wr (x:=m + 4 + 1) (by omega) (by omega)).trans (by omega)
  have w6:IntKind.i64.wrap (m + 5 + 1)=m + 6:=(wr (x:=m + 5 + 1) (by omega) (by omega)).trans (by omega)
  have w7:IntKind.i64.wrap (m + 6 + 1)=m + 7:=(wr (x:=m + 6 + 1) (by omega) (by omega)).trans (by omega)
  have w8:IntKind.i64.wrap (m + 7 + 1)=m + 8:=(wr (x:=m + 7 + 1) (by omega) (by omega)).trans (by omega)
  have hmt:=p136_eq n (by omega) (m + 7) (by omega)
  have hen:=p137_eq n hn (nm a) (m + 8) (by omega) ha
  have e9:m + 8 + 2 * ((nm a).length:Int)=m + 8 + 2 * (nm a).length:=rfl
  show st99_L2 n _ m (done.length:Int) (done ++ a :: rest)=_
  obtain ⟨a1,a2,a3,a4,a5,a6,a7,a8,a9⟩:=a
  simp only [nm] at hen ih
  simp only [st99_L2,st99_C6_0,st99_C8_0,st99_C10_0,st99_C12_0,st99_C14_0,st99_C16_0,st99_C18_0,st99_C20_0,p99_C6_0,p99_C8_0,p99_C10_0,p99_C12_0,p99_C14_0,p99_C16_0,p99_C18_0,p99_C20_0,e0,ge_t,cond_true,toNat_cast,getD_mid,set_mid,w1,w2,w3,w4,w5,w6,w7,w8,q136,hmt,q137,hen,Option.bind_some,hidx]
  have e10:∀ b:Nd,done ++ b :: rest=(done ++ [b]) ++ rest:=fun b=>by simp
  rw [e10]
  refine Eq.trans ih ?_
  simp only [mkS,mkF,nm,List.append_assoc,List.singleton_append]
theorem p94_eq (n:Nat) (l:List Int) (m:Int) (hm:0≤m∧m≤4500000000000000000) (hl:l.length≤2000000) (hn:l.length < n):p94 n l m=some ((m + l.length,()),(marks id 1 m l.length,())):=by
 show p94_L2 n n m 0 l=_
 have:=mark_loop (F:=p94_L2 n) (R:=fun m xs=>some ((m,()),(xs,()))) (f:=id) (s:=1) (m0:=m) (n:=l.length) (fun k i xs hi hx=>by
   show st94_L2 n (p94_L2 n k) (m + 1 * (i:Int)) i xs=_
   rw [← hx] at hi
   simp only [st94_L2,lt_t hi,ge_t,cond_true,toNat_cast,wr_succ (show i < 4611686018427387904 by omega)]
   rw [wr (x:=m + 1 * (i:Int) + 1) (by omega) (by omega)]
   congr 1
   omega) (fun k xs hx=>by
   show st94_L2 n (p94_L2 n k) (m + 1 * (l.length:Int)) l.length xs=_
   rw [← hx]
   simp only [st94_L2,lt_f,cond_false]) l.length n 0 l rfl (by omega) hn (fun j hj=>by omega)
 simpa using this
theorem p37_eq (n:Nat) (hn:2000000 < n) (c:Cr) (m:Int) (hm:0≤m∧m≤4500000000000000000) (hl:c.2.2.length≤2000000):∃ o,p37 n c m=some ((m + c.2.2.length,()),o):=by
 show ∃ o,st37_top n c m=_
 simp only [st37_top,q94,p94_eq n c.2.2 m hm hl (by omega),Option.bind_some]
 exact ⟨_,rfl⟩
theorem p100_L2_eq (n:Nat) (hn:2000000 < n):∀ (rest:List Nd) (k:Nat) (done:List Nd) (m:Int),rest.length < k→done.length + rest.length≤2000000→(∀ a ∈ rest,(nm a).length≤2000000)→0≤m→m + 4000008 * rest.length≤4500000000000000000 →
  p100_L2 n k (done ++ mkF n m rest) m (done.length:Int)=some ((mkS m rest,()),())
 | _,0,_,_,h,_,_,_,_=>by omega
 | [],k + 1,done,m,hk,hd,hs,hm0,hm=>by
  show st100_L2 n _ (done ++ []) m (done.length:Int)=_
  rw [List.append_nil]
  simp only [st100_L2,lt_f,cond_false,mkS]
 | a :: rest,k + 1,done,m,hk,hd,hs,hm0,hm=>by
  have ih:=p100_L2_eq n hn rest k (done ++ [mkN n m a]) (m + 8 + 2 * (nm a).length) (by simp at hk; omega) (by simp at hd ⊢; omega) (fun b hb=>hs b (List.mem_cons_of_mem _ hb)) (by omega) (by
   have:=hs a List.mem_cons_self
   simp only [List.length_cons] at hm
   omega)
  simp only [List.length_cons] at hm hd
  have ha:=hs a List.mem_cons_self
  have e0:∀ (b:Nd) (r:List Nd),decide ((done.length:Int) < ((done ++ b :: r).length:Int))=true:=fun b r=>decide_eq_true (by simp; omega)
  have hidx:IntKind.i64.wrap ((done.length:Int) + 1)=((done ++ [mkN n m a]).length:Int):=by
   rw [wr_succ (by omega)]
   simp
  have w1:IntKind.i64.wrap (m + 1)=m + 1:=wr (by omega) (by omega)
  have w2:IntKind.i64.wrap (m + 1 + 1)=m + 2:=(wr (x:=m + 1 + 1) (by omega) (by omega)).trans (by omega)
  have w3:IntKind.i64.wrap (m + 2 + 1)=m + 3:=(wr (x:=m + 2 + 1) (by omega) (by omega)).trans (by omega)
  have w4:IntKind.i64.wrap (m + 3 + 1)=m + 4:=(wr (x:=m + 3 + 1) (by omega) (by omega)).trans (by omega)
  have w5:IntKind.i64.wrap (m + 4 + 1)=m + 5:=(wr (x:=m + 4 + 1) (by omega) (by omega)).trans (by omega)
  have w6:IntKind.i64.wrap (m + 5 + 1)=m + 6:=(wr (x:=m + 5 + 1) (by omega) (by omega)).trans (by omega)
  have w7:IntKind.i64.wrap (m + 6 + 1)=m + 7:=(wr (x:=m + 6 + 1) (by omega) (by omega)).trans (by omega)
  have w8:IntKind.i64.wrap (m + 7 + 1)=m + 8:=(wr (x:=m + 7 + 1) (by omega) (by omega)).trans (by omega)
  have hmt:=p136_eq n (by omega) (m + 7) (by omega)
  have hen:=p138_eq n hn (nm a).length (m + 8) (by omega) ha
  have hz:decide (m + 8 + 2 * ((nm a).length:Int) < 0)=false:=decide_eq_false (by omega)
  have bb:∀ b:Bool,(!b == b)=false:=by intro b; cases b <;> rfl
  show st100_L2 n _ (done ++ mkN n m a :: mkF n (m + 8 + 2 * (nm a).length) rest) m (done.length:Int)=_
  have hmN:mkN n m a=(m,m + 1,m + 2,m + 3,m + 4,m + 5,decide ((m + 6).tmod 3=0),mtx n (m + 7),marks (mkE n) 2 (m + 8) (nm a).length):=rfl
  simp only [st100_L2,e0,ge_t,cond_true,toNat_cast,getD_mid]
  simp only [hmN] at hidx ih ⊢
  simp only [w1,w2,w3,w4,w5,w6,w7,w8,q136,hmt,q138,hen,Option.bind_some,decide_true,Bool.not_true,cond_false,beq_self_eq_true,bb,hz,hidx]
  have e10:∀ (b:Nd) r,done ++ b :: r=(done ++ [b]) ++ r:=fun b r=>by simp
  rw [e10]
  exact ih
end Go.Proofs.Ytbjgiioppmkpiaa.Rx.S

namespace Go.Proofs.Ytbjgiioppmkpiaa.Rx.S
open Go Go.Proofs.Ytbjgiioppmkpiaa.Rx.Pu Go.Proofs.Ytbjgiioppmkpiaa.Rx.Fs
set_option linter.unusedVariables false
set_option linter.unusedSimpArgs false
def credL (l:List Int):Nat→Nat→Bool
 | 0,_=>true
 | d + 1,k=>decide (0≤l.getD k 0∧l.getD k 0≤9)&&((decide (k=0) || !decide (l.getD k 0≤l.getD (k - 1) 0))&&credL l d (k + 1))
def credOk (c:Cr):Bool:=credL c.2.2 c.2.2.length 0&&(decide (0≤c.1∧c.1≤9)&&(decide (0≤c.2.1∧c.2.1≤9)&&decide ((c.2.2.length:Int)≤3)))
theorem p79_L2_eq (n:Nat) (l:List Int) (hl:l.length≤2000000) (u r:Int):∀ (d m k:Nat),k + d=l.length→d < m→p79_L2 n m l (l.length:Int) (k:Int) u r l=some ((credL l d k&&(decide (0≤u∧u≤9)&&(decide (0≤r∧r≤9)&&decide ((l.length:Int)≤3))),()),())
 | _,0,_,_,h=>by omega
 | 0,m + 1,k,hk,hm=>by
  obtain rfl:k=l.length:=by omega
  show st79_L2 n (p79_L2 n m) l (l.length:Int) (l.length:Int) u r l=_
  simp only [st79_L2,lt_f,cond_false,credL,Bool.true_and,q61,p61_eq,Option.bind_some]
  cases decide (0≤u∧u≤9); · rfl
  cases decide (0≤r∧r≤9) <;> rfl
 | d + 1,m + 1,k,hk,hm=>by
  have hkl:k < l.length:=by omega
  show st79_L2 n (p79_L2 n m) l (l.length:Int) (k:Int) u r l=_
  have ih:=p79_L2_eq n l hl u r d m (k + 1) (by omega) (by omega)
  simp only [st79_L2,lt_t hkl,ge_t,cond_true,toNat_cast,credL,q61,p61_eq,Option.bind_some,wr_succ (show k < 4611686018427387904 by omega),ih]
  cases decide (0≤l.getD k 0∧l.getD k 0≤9); · rfl
  cases k with
  | zero=>rfl
  | succ k =>
   have e1:decide ((0:Int) < ((k + 1:Nat):Int))=true:=decide_eq_true (by omega)
   have e2:decide (k + 1=0)=false:=decide_eq_false (by omega)
   simp only [e1,e2,wr_pred (show k < 4611686018427387904 by omega),ge_t,lt_t (show k < l.length by omega),Bool.not_true,cond_true,cond_false,toNat_cast,Nat.add_sub_cancel,Bool.false_or,Bool.true_and]
   cases decide (l.getD (k + 1) 0≤l.getD k 0) <;> rfl
theorem p79_eq (n:Nat) (c:Cr) (hl:c.2.2.length≤2000000) (hn:2000000 < n):p79 n c=some ((credOk c,()),()):=p79_L2_eq n c.2.2 hl c.1 c.2.1 c.2.2.length n 0 (by omega) (by omega)
theorem p64_L2_eq (n:Nat) (l:List Int) (hl:l.length≤2000000) (u r:Int):∀ (d m k:Nat),k + d=l.length→d < m→p64_L2 n m (k:Int) u r l=some ((credL l d k&&(decide (0≤u∧u≤9)&&(decide (0≤r∧r≤9)&&decide ((l.length:Int)≤3))),()),())
 | _,0,_,_,h=>by omega
 | 0,m + 1,k,hk,hm=>by
  obtain rfl:k=l.length:=by omega
  show st64_L2 n (p64_L2 n m) (l.length:Int) u r l=_
  simp only [st64_L2,lt_f,cond_false,credL,Bool.true_and,q118,p118_eq,Option.bind_some]
  cases decide (0≤u∧u≤9); · rfl
  cases decide (0≤r∧r≤9) <;> rfl
 | d + 1,m + 1,k,hk,hm=>by
  have hkl:k < l.length:=by omega
  show st64_L2 n (p64_L2 n m) (k:Int) u r l=_
  have ih:=p64_L2_eq n l hl u r d m (k + 1) (by omega) (by omega)
  simp only [st64_L2,lt_t hkl,ge_t,cond_true,toNat_cast,credL,q118,p118_eq,Option.bind_some,wr_succ (show k < 4611686018427387904 by omega),ih]
  cases decide (0≤l.getD k 0∧l.getD k 0≤9); · rfl
  cases k with
  | zero=>rfl
  | succ k =>
   have e1:decide ((0:Int) < ((k + 1:Nat):Int))=true:=decide_eq_true (by omega)
   have e2:decide (k + 1=0)=false:=decide_eq_false (by omega)
   simp only [e1,e2,wr_pred (show k < 4611686018427387904 by omega),ge_t,lt_t (show k < l.length by omega),Bool.not_true,cond_true,cond_false,toNat_cast,Nat.add_sub_cancel,Bool.false_or,Bool.true_and]
   cases decide (l.getD (k + 1) 0≤l.getD k 0) <;> rfl
theorem p64_eq (n:Nat) (c:Cr) (hl:c.2.2.length≤2000000) (hn:2000000 < n):p64 n c=some ((credOk c,()),()):=p64_L2_eq n c.2.2 hl c.1 c.2.1 c.2.2.length n 0 (by omega) (by omega)
def hasB (f:List Nd) (id:Int):Bool:=decide (0≤id∧id≤9)&&!decide ((f.getD id.toNat d0).1=0)
theorem p86_eq (n:Nat) (f:List Nd) (hf:f.length=10) (id:Int):p86 n f id=some ((hasB f id,()),()):=by
 show st86_top n f id=_
 have w:IntKind.i64.wrap ((f.length:Int) - 1)=9:=by rw [hf]; rfl
 simp only [st86_top,w,q61,p61_eq,Option.bind_some,hasB]
 by_cases h:0≤id∧id≤9
 ·have e1:decide (0≤id)=true:=decide_eq_true h.1
  have e2:decide (id < (f.length:Int))=true:=decide_eq_true (by omega)
  simp only [h,and_self,decide_true,cond_true,e1,e2,Bool.true_and]
 ·simp only [h,decide_false,cond_false,Bool.false_and]
theorem p65_eq (n:Nat) (f:List Nd) (hf:f.length=10) (id:Int):p65 n f id=some ((hasB f id,()),()):=by
 show st65_top n f id=_
 have w:IntKind.i64.wrap ((f.length:Int) - 1)=9:=by rw [hf]; rfl
 simp only [st65_top,w,q66,p66_eq,Option.bind_some,hasB]
 by_cases h:0≤id∧id≤9
 ·have e1:decide (0≤id)=true:=decide_eq_true h.1
  have e2:decide (id < (f.length:Int))=true:=decide_eq_true (by omega)
  simp only [h,and_self,decide_true,cond_true,e1,e2,Bool.true_and]
 ·simp only [h,decide_false,cond_false,Bool.false_and]
theorem okS_len {f:List Nd} (h:okS f=true):f.length=10:=((okS_iff f).1 h).len
theorem p19_eq' (n:Nat) (hn:100 < n) (f:List Nd):p19 n f=some ((okS f,()),()):=by rw [p19_eq n hn,ok_eq]
theorem SzF.set {B:Nat} {f:List Nd} (h:SzF B f) {i:Nat} {a:Nd} (ha:SzN B a):SzF B (f.set i a) :=
 ⟨by rw [List.length_set]; exact h.len,fun b hb=>by
  rcases List.mem_or_eq_of_mem_set hb with h1 | h1
  ·exact h.nd b h1
  ·rw [h1]; exact ha⟩
theorem SzF.getD {B:Nat} {f:List Nd} (h:SzF B f) {i:Nat} (hi:i < f.length):SzN B (f.getD i d0):=h.nd _ (getD_mem hi d0)
theorem SzF.nil (B:Nat):SzF B []:=⟨by simp,by simp⟩
end Go.Proofs.Ytbjgiioppmkpiaa.Rx.S

namespace Go.Proofs.Ytbjgiioppmkpiaa.Rx.S
open Go Go.Proofs.Ytbjgiioppmkpiaa.Rx.Pu Go.Proofs.Ytbjgiioppmkpiaa.Rx.Fs
set_option linter.unusedVariables false
set_option linter.unusedSimpArgs false
theorem SzN.d0 (B:Nat):SzN B d0:=⟨Nat.zero_le _,Nat.zero_le _,fun x hx=>by cases hx⟩
end Go.Proofs.Ytbjgiioppmkpiaa.Rx.S

namespace Go.Proofs.Ytbjgiioppmkpiaa.Rx.Gr
set_option linter.unusedVariables false
set_option linter.unusedSimpArgs false
section
variable {e e':Nat→List Nat} {fo fo':Nat→Bool}
theorem many_succ (N x:Nat):many e (N + 1) x=many e N x + (e N).count x:=by
 unfold many
 rw [List.range_succ,List.flatMap_append,List.count_append]
 simp
theorem many_congr {N x:Nat} (h:∀ j,j < N→(e' j).count x=(e j).count x):many e' N x=many e N x:=by
 induction N with
 | zero=>rfl
 | succ N ih=>rw [many_succ,many_succ,ih (fun j hj=>h j (by omega)),h N (by omega)]
theorem many_upd {N x i:Nat} (hi:i < N) (h:∀ j,j < N→j ≠ i→(e' j).count x=(e j).count x):many e' N x + (e i).count x=many e N x + (e' i).count x:=by
 induction N with
 | zero=>omega
 | succ N ih =>
  rw [many_succ,many_succ]
  by_cases hn:i=N
  ·subst hn
   rw [many_congr (fun j hj=>h j (by omega) (by omega))]
   omega
  ·have:=ih (by omega) (fun j hj=>h j (by omega))
   have:=h N (by omega) (fun e=>hn e.symm)
   omega
theorem many_pos {N x:Nat} (h:0 < many e N x):∃ i,i < N∧x ∈ e i:=by
 induction N with
 | zero=>simp [many] at h
 | succ N ih =>
  rw [many_succ] at h
  by_cases h1:0 < (e N).count x
  ·exact ⟨N,by omega,List.count_pos_iff.1 h1⟩
  ·obtain ⟨i,h2,h3⟩:=ih (by omega)
   exact ⟨i,by omega,h3⟩
theorem Way.mono (he:∀ i,∀ x ∈ e i,x ∈ e' i) (hf:∀ x,fo x=true→fo' x=true):∀ {x k:Nat},Way e fo x k→Way e' fo' x k
 | _,_,.root=>.root
 | y,_,.next hw hy=>.next (Way.mono he hf hw) (by
  obtain ⟨h1,h2⟩:=List.mem_filter.1 hy
  exact List.mem_filter.2 ⟨he _ _ h1,hf _ h2⟩)
theorem Way.lt {N:Nat} (hN:0 < N) (hr:∀ i,∀ x ∈ e i,x < N) {x k:Nat} (h:Way e fo x k):x < N:=by
 cases h with
 | root=>exact hN
 | next _ hy=>exact hr _ _ (List.mem_filter.1 hy).1
structure Tree (N:Nat) (e:Nat→List Nat) (fo:Nat→Bool):Prop where
 rg:∀ i,∀ x ∈ e i,x < N
 nz:∀ i,0 ∉ e i
 un:∀ x,x < N→fo x=true→x ≠ 0→many e N x=1
 wy:∀ x,x < N→fo x=true→∃ k,Way e fo x k
theorem Tree.par {N:Nat} (h:Tree N e fo) (hN:0 < N) {x i j:Nat} (hi:i < N) (hj:j < N) (hf:fo x=true) (h1:x ∈ e i) (h2:x ∈ e j):i=j:=by
 by_cases hij:i=j
 ·exact hij
 ·have:=many_two hi hj hij h1 h2
  have:=h.un x (h.rg i x h1) hf (fun e=>by subst e; exact h.nz i h1)
  omega
theorem Tree.uniq {N:Nat} (h:Tree N e fo) (hN:0 < N):∀ {x k:Nat},Way e fo x k→∀ {k':Nat},Way e fo x k'→k=k'
 | _,_,.root,k',h'=>by
  generalize hx:(0:Nat)=x at h'
  cases h' with
  | root=>rfl
  | next _ hy=>subst hx; exact absurd (List.mem_filter.1 hy).1 (h.nz _)
 | y,_,.next (x:=x) (k:=k) hw hy,k',h'=>by
  obtain ⟨h1,h2⟩:=List.mem_filter.1 hy
  cases h' with
  | root=>exact absurd h1 (h.nz _)
  | next hw' hy' =>
   obtain ⟨h3,h4⟩:=List.mem_filter.1 hy'
   have:=h.par hN (hw.lt hN h.rg) (hw'.lt hN h.rg) h2 h1 h3
   subst this
   rw [h.uniq hN hw hw']
theorem Tree.path {N:Nat} (h:Tree N e fo) (hN:0 < N):∀ {x k:Nat},Way e fo x k→∃ l:List Nat,l.Nodup∧l.length=k + 1∧∀ y ∈ l,y < N∧∃ j,j≤k∧Way e fo y j
 | _,_,.root=>⟨[0],by simp,rfl,fun y hy=>by
  rw [List.mem_singleton.1 hy]; exact ⟨hN,0,Nat.le_refl _,.root⟩⟩
 | y,_,.next (x:=x) (k:=k) hw hy=>by
  obtain ⟨l,h1,h2,h3⟩:=h.path hN hw
  have hwy:Way e fo y (k + 1):=.next hw hy
  refine ⟨y :: l,List.nodup_cons.2 ⟨fun hm=>?_,h1⟩,by simp [h2],fun z hz=>?_⟩
  ·obtain ⟨_,j,hj,hwj⟩:=h3 y hm
   have:=h.uniq hN hwy hwj
   omega
  ·rcases List.mem_cons.1 hz with rfl | hz
   ·exact ⟨hwy.lt hN h.rg,k + 1,Nat.le_refl _,hwy⟩
   ·obtain ⟨h4,j,hj,hwj⟩:=h3 z hz
    exact ⟨h4,j,by omega,hwj⟩
theorem Tree.bound {N:Nat} (h:Tree N e fo) (hN:0 < N) {x k:Nat} (hw:Way e fo x k):k < N:=by
 obtain ⟨l,h1,h2,h3⟩:=h.path hN hw
 have:=nodup_len (B:=List.range N) h1 (fun a ha=>List.mem_range.2 (h3 a ha).1)
 simp at this
 omega
theorem up_mono {ab:Nat→Nat}:∀ (k m x:Nat),k≤m→up ab k x=true→up ab m x=true:=by
 intro k
 induction k with
 | zero =>
  intro m x _ h
  cases x with
  | zero=>cases m <;> simp [up]
  | succ x=>simp [up] at h
 | succ k ih =>
  intro m x hm h
  cases x with
  | zero=>cases m <;> simp [up]
  | succ x =>
   cases m with
   | zero=>omega
   | succ m =>
    simp only [up] at h ⊢
    exact ih m _ (by omega) h
theorem tree_iff {N K:Nat} (hN:0 < N) (hK:N < K) (hr:∀ i,∀ x ∈ e i,x < N) (hz:∀ i,0 ∉ e i) (hf:∀ i,e i ≠ []→fo i=true) (hl:∀ i,N≤i→e i=[]) (h0:fo 0=true) :
  (∃ D,bfs e fo K [] [0]=some D∧∀ x,x < N→fo x=true→x ∈ D)↔Tree N e fo:=by
 classical
 have hex:∀ x,∃ a,many e N x=1→a < N∧x ∈ e a:=fun x=>by
  by_cases h:many e N x=1
  ·obtain ⟨i,h1,h2⟩:=many_pos (e:=e) (N:=N) (x:=x) (by omega)
   exact ⟨i,fun _=>⟨h1,h2⟩⟩
  ·exact ⟨0,fun h'=>absurd h' h⟩
 let ab:Nat→Nat:=fun x=>(hex x).choose
 have hab:∀ x,many e N x=1→ab x < N∧x ∈ e (ab x):=fun x=>(hex x).choose_spec
 have hfi:=(folders_iff (ab:=ab) hN hK hr hz hf hl h0 hab).1
 constructor
 ·intro hD
  have h1:=hfi.1 hD
  obtain ⟨D,hD1,hD2⟩:=hD
  have hw:=(bfs_way hr (inv0 hN h0) (fun x hx=>by
   have:x=0:=by simpa using hx
   subst this
   exact ⟨0,Nat.le_refl _,.root⟩) hD1).2
  exact ⟨hr,hz,fun x hx hf' hne=>(h1 x hx hf' hne).1,fun x hx hf'=>by
   obtain ⟨q,_,h2⟩:=hw x (hD2 x hx hf')
   exact ⟨q,h2⟩⟩
 ·intro ht
  refine hfi.2 fun x hx hf' hne=>⟨ht.un x hx hf' hne,?_⟩
  obtain ⟨k,hk⟩:=ht.wy x hx hf'
  exact up_mono k (N + 1) x (by have:=ht.bound hN hk; omega) (way_up hr hN ht.un hab hk).2
end
end Go.Proofs.Ytbjgiioppmkpiaa.Rx.Gr

namespace Go.Proofs.Ytbjgiioppmkpiaa.Rx.Fs
open Go Go.Proofs.Ytbjgiioppmkpiaa.Rx.Gr
set_option linter.unusedVariables false
set_option linter.unusedSimpArgs false
def ltE (a b:En):Prop:=lt a.1 b.1=true
theorem sorted_pw (es:List En):(∀ k,k < es.length→sorted es k=true)↔es.Pairwise ltE:=by
 rw [List.pairwise_iff_getElem]
 constructor
 ·intro h
  have key:∀ d i,(hj:i + d + 1 < es.length)→lt (es.getD i e0).1 (es.getD (i + d + 1) e0).1=true:=by
   intro d
   induction d with
   | zero =>
    intro i hj
    have:=h (i + 1) hj
    simp only [sorted,Bool.or_eq_true,decide_eq_true_eq] at this
    rcases this with h1 | h1
    ·omega
    ·simpa using h1
   | succ d ih =>
    intro i hj
    have h1:=ih i (by omega)
    have:=h (i + (d + 1) + 1) hj
    simp only [sorted,Bool.or_eq_true,decide_eq_true_eq] at this
    rcases this with h2 | h2
    ·omega
    ·exact lt_trans h1 (by simpa [Nat.add_assoc] using h2)
  intro i j hi hj hij
  have:=key (j - i - 1) i (by omega)
  rw [show i + (j - i - 1) + 1=j by omega] at this
  simpa [ltE,List.getD_eq_getElem?_getD,List.getElem?_eq_getElem hi,List.getElem?_eq_getElem hj] using this
 ·intro h k hk
  simp only [sorted,Bool.or_eq_true,decide_eq_true_eq]
  by_cases h0:k=0
  ·exact .inl h0
  ·right
   have:=h (k - 1) k (by omega) hk (by omega)
   simpa [ltE,List.getD_eq_getElem?_getD,List.getElem?_eq_getElem hk,List.getElem?_eq_getElem (show k - 1 < es.length by omega)] using this
def baseW (n:Nd):Prop:=(1≤kd n∧kd n≤2)∧(0≤md n∧md n≤511)∧(0≤op n∧op n≤99)∧(kd n=1→(tx n).size≤40∧(nm n).length=0)∧(kd n=2→(tx n).size=0∧mk n=false∧(nm n).length≤6)
def ownW (n:Nd):Prop:=(0≤ow n∧ow n≤9)∧(0≤gr n∧gr n≤9)
theorem baseI_iff (n:Nd):baseI n=true↔(1≤kd n∧kd n≤2)∧(0≤md n∧md n≤511)∧(0≤ow n∧ow n≤9)∧(0≤gr n∧gr n≤9)∧(0≤op n∧op n≤99) ∧
  (kd n=1→(tx n).size≤40∧(nm n).length=0)∧(kd n=2→(tx n).size=0∧mk n=false∧(nm n).length≤6):=by
 obtain ⟨k,m,o,g,l,p,mm,t,e⟩:=n
 simp only [baseI,kd,md,ow,gr,op,tx,nm,mk,Bool.and_eq_true,decide_eq_true_eq]
 by_cases h1:k=1
 ·subst h1
  simp
  omega
 ·by_cases h2:k=2
  ·subst h2
   simp
   omega
  ·simp [h1,h2]
theorem baseI_W (n:Nd):baseI n=true↔baseW n∧ownW n:=by
 rw [baseI_iff]
 unfold baseW ownW
 constructor
 ·rintro ⟨h1,h2,h3,h4,h5,h6,h7⟩; exact ⟨⟨h1,h2,h5,h6,h7⟩,h3,h4⟩
 ·rintro ⟨⟨h1,h2,h5,h6,h7⟩,h3,h4⟩; exact ⟨h1,h2,h3,h4,h5,h6,h7⟩
structure OkW (f:List Nd):Prop where
 len:f.length=10
 root:kd (f.getD 0 d0)=2
 base:∀ i,i < 10→kd (f.getD i d0) ≠ 0→baseW (f.getD i d0)
 zero:∀ i,i < 10→kd (f.getD i d0)=0→zr (f.getD i d0)
 ents:∀ i k,i < 10→k < (nm (f.getD i d0)).length→nmOk ((nm (f.getD i d0)).getD k e0).1=true∧(1≤((nm (f.getD i d0)).getD k e0).2∧((nm (f.getD i d0)).getD k e0).2≤9)∧kd (f.getD ((nm (f.getD i d0)).getD k e0).2.toNat d0) ≠ 0∧sorted (nm (f.getD i d0)) k=true
 links:∀ i,i < 10→kd (f.getD i d0) ≠ 0→lk (f.getD i d0)=((many (ids f) 10 i:Nat):Int)
 live:∀ i,i < 10→kd (f.getD i d0)=1→¬ (lk (f.getD i d0)=0∧op (f.getD i d0)=0)
 tree:∃ D,Gr.bfs (ids f) (fold f) 11 [] [0]=some D∧∀ x,x < 10→fold f x=true→x ∈ D
theorem okW_iff (f:List Nd):OkF f↔OkW f∧∀ i,i < 10→kd (f.getD i d0) ≠ 0→ownW (f.getD i d0):=by
 constructor
 ·intro h
  exact ⟨⟨h.len,h.root,fun i hi hk=>((baseI_W _).1 (h.base i hi hk)).1,h.zero,h.ents,h.links,h.live,h.tree⟩,fun i hi hk=>((baseI_W _).1 (h.base i hi hk)).2⟩
 ·rintro ⟨h,ho⟩
  exact ⟨h.len,h.root,fun i hi hk=>(baseI_W _).2 ⟨h.base i hi hk,ho i hi hk⟩,h.zero,h.ents,h.links,h.live,h.tree⟩
theorem OkF.toW {f:List Nd} (h:OkF f):OkW f:=((okW_iff f).1 h).1
theorem OkW.nlen {f:List Nd} (h:OkW f):∀ i,i < 10→(nm (f.getD i d0)).length≤6:=fun i hi=>by
 by_cases hk:kd (f.getD i d0)=0
 ·have:=(h.zero i hi hk).2.2.2.2.2.2.2.2; omega
 ·obtain ⟨h1,_,_,h4,h5⟩:=h.base i hi hk
  have:kd (f.getD i d0)=1∨kd (f.getD i d0)=2:=by omega
  rcases this with h6 | h6
  ·have:=(h4 h6).2; omega
  ·exact (h5 h6).2.2
structure EntsOk (f:List Nd) (es:List En):Prop where
 all:∀ e ∈ es,nmOk e.1=true∧(1≤e.2∧e.2≤9)∧kd (f.getD e.2.toNat d0) ≠ 0
 pw:es.Pairwise ltE
theorem ents_mk {f:List Nd} {es:List En} (h:EntsOk f es):∀ k,k < es.length→nmOk (es.getD k e0).1=true∧(1≤(es.getD k e0).2∧(es.getD k e0).2≤9)∧kd (f.getD (es.getD k e0).2.toNat d0) ≠ 0∧sorted es k=true:=fun k hk=>by
 obtain ⟨h1,h2,h3⟩:=h.all _ (mem_getD hk e0)
 exact ⟨h1,h2,h3,(sorted_pw es).2 h.pw k hk⟩
theorem OkW.entsOk {f:List Nd} (h:OkW f) {i:Nat} (hi:i < 10):EntsOk f (nm (f.getD i d0)) :=
 ⟨fun e he=>by
  obtain ⟨k,hk,rfl⟩:=List.mem_iff_getElem.1 he
  have:=h.ents i k hi hk
  rw [getD_get hk] at this
  exact ⟨this.1,this.2.1,this.2.2.1⟩,(sorted_pw _).1 fun k hk=>(h.ents i k hi hk).2.2.2⟩
theorem pre_of {f:List Nd} (hf:f.length=10) (hb:∀ i,i < 10→kd (f.getD i d0) ≠ 0→baseW (f.getD i d0)) (hz:∀ i,i < 10→kd (f.getD i d0)=0→zr (f.getD i d0))
  (he:∀ i,i < 10→EntsOk f (nm (f.getD i d0))):(∀ i,∀ x ∈ ids f i,x < 10)∧(∀ i,0 ∉ ids f i)∧(∀ i,ids f i ≠ []→fold f i=true)∧(∀ i,10≤i→ids f i=[]):=by
 have h1:∀ i,∀ x ∈ ids f i,1≤x∧x < 10:=fun i x hx=>by
  by_cases hi:i < 10
  ·obtain ⟨e,he1,rfl⟩:=List.mem_map.1 hx
   have:=((he i hi).all e he1).2.1
   omega
  ·rw [ids_out hf (by omega)] at hx; exact (List.not_mem_nil hx).elim
 refine ⟨fun i x hx=>(h1 i x hx).2,fun i hx=>by have:=h1 i 0 hx; omega,fun i hne=>?_,fun i hi=>ids_out hf hi⟩
 by_cases hi:i < 10
 ·by_cases hk:kd (f.getD i d0)=0
  ·have:=(hz i hi hk).2.2.2.2.2.2.2.2
   exact absurd (by unfold ids; rw [List.eq_nil_of_length_eq_zero this]; rfl) hne
  ·obtain ⟨b1,_,_,b4,_⟩:=hb i hi hk
   have:kd (f.getD i d0)=1∨kd (f.getD i d0)=2:=by omega
   rcases this with h12 | h12
   ·exact absurd (by unfold ids; rw [List.eq_nil_of_length_eq_zero (b4 h12).2]; rfl) hne
   ·exact decide_eq_true h12
 ·exact absurd (ids_out hf (by omega)) hne
theorem OkW.pre {f:List Nd} (h:OkW f):(∀ i,∀ x ∈ ids f i,x < 10)∧(∀ i,0 ∉ ids f i)∧(∀ i,ids f i ≠ []→fold f i=true)∧(∀ i,10≤i→ids f i=[]) :=
 pre_of h.len h.base h.zero (fun i hi=>h.entsOk hi)
theorem OkW.tr {f:List Nd} (h:OkW f):Tree 10 (ids f) (fold f):=by
 obtain ⟨h1,h2,h3,h4⟩:=h.pre
 exact (tree_iff (by omega) (by omega) h1 h2 h3 h4 (decide_eq_true h.root)).1 h.tree
theorem OkW.of {f:List Nd} (hlen:f.length=10) (hroot:kd (f.getD 0 d0)=2) (hbase:∀ i,i < 10→kd (f.getD i d0) ≠ 0→baseW (f.getD i d0)) (hzero:∀ i,i < 10→kd (f.getD i d0)=0→zr (f.getD i d0))
  (hents:∀ i,i < 10→EntsOk f (nm (f.getD i d0))) (hlinks:∀ i,i < 10→kd (f.getD i d0) ≠ 0→lk (f.getD i d0)=((many (ids f) 10 i:Nat):Int))
  (hlive:∀ i,i < 10→kd (f.getD i d0)=1→¬ (lk (f.getD i d0)=0∧op (f.getD i d0)=0)) (hun:∀ x,x < 10→fold f x=true→x ≠ 0→many (ids f) 10 x=1)
  (hwy:∀ x,x < 10→fold f x=true→∃ k,Gr.Way (ids f) (fold f) x k):OkW f:=by
 obtain ⟨h1,h2,h3,h4⟩:=pre_of hlen hbase hzero hents
 exact ⟨hlen,hroot,hbase,hzero,fun i k hi hk=>ents_mk (hents i hi) k hk,hlinks,hlive,(tree_iff (by omega) (by omega) h1 h2 h3 h4 (decide_eq_true hroot)).2 ⟨h1,h2,hun,hwy⟩⟩
theorem getD_set1 {f:List Nd} {i:Nat} (hi:i < f.length) (a:Nd) (j:Nat):(f.set i a).getD j d0=if j=i then a else f.getD j d0:=by
 rw [getD_set_i]
 by_cases h:j=i
 ·subst h; rw [if_pos ⟨rfl,hi⟩,if_pos rfl]
 ·rw [if_neg (fun h'=>h h'.1.symm),if_neg h]
theorem OkW.same {f:List Nd} (h:OkW f) {i:Nat} (hi:i < 10) {a:Nd} (hk0:kd (f.getD i d0) ≠ 0) (hk:kd a=kd (f.getD i d0)) (hl:lk a=lk (f.getD i d0)) (hn:nm a=nm (f.getD i d0)) (hb:baseW a)
  (hv:kd a=1→¬ (lk a=0∧op a=0)):OkW (f.set i a):=by
 have hg:=getD_set1 (f:=f) (i:=i) (by rw [h.len]; exact hi) a
 have hkd:∀ j,kd ((f.set i a).getD j d0)=kd (f.getD j d0):=fun j=>by
  rw [hg]
  split
  ·rename_i e; rw [e]; exact hk
  ·rfl
 have hnm:∀ j,nm ((f.set i a).getD j d0)=nm (f.getD j d0):=fun j=>by
  rw [hg]
  split
  ·rename_i e; rw [e]; exact hn
  ·rfl
 have hlk:∀ j,lk ((f.set i a).getD j d0)=lk (f.getD j d0):=fun j=>by
  rw [hg]
  split
  ·rename_i e; rw [e]; exact hl
  ·rfl
 have hids:ids (f.set i a)=ids f:=by funext j; simp only [ids,hnm]
 have hfold:fold (f.set i a)=fold f:=by funext j; simp only [fold,hkd]
 refine OkW.of (by rw [List.length_set]; exact h.len) (by rw [hkd]; exact h.root) (fun j hj hj0=>?_) (fun j hj hj0=>?_) (fun j hj=>?_) (fun j hj hj0=>?_) (fun j hj hj1=>?_) ?_ ?_
 ·rw [hkd] at hj0; rw [hg]; split
  ·exact hb
  ·exact h.base j hj hj0
 ·rw [hkd] at hj0; rw [hg]; split
  ·rename_i e; subst e; exact absurd hj0 hk0
  ·exact h.zero j hj hj0
 ·rw [hnm]; exact ⟨fun e he=>by rw [hkd]; exact (h.entsOk hj).all e he,(h.entsOk hj).pw⟩
 ·rw [hkd] at hj0; rw [hlk,hids]; exact h.links j hj hj0
 ·rw [hg] at hj1 ⊢
  split
  ·rename_i e; rw [if_pos e] at hj1; exact hv hj1
  ·rename_i e; rw [if_neg e] at hj1; exact h.live j hj hj1
 ·rw [hids,hfold]; exact h.tr.un
 ·rw [hids,hfold]; exact h.tr.wy
theorem zr_d0:zr d0:=⟨rfl,rfl,rfl,rfl,rfl,rfl,rfl,rfl,rfl⟩
theorem OkW.nm_file {f:List Nd} (h:OkW f) {i:Nat} (hi:i < 10) (hk:kd (f.getD i d0) ≠ 2):nm (f.getD i d0)=[]:=by
 by_cases h0:ids f i=[]
 ·unfold ids at h0; exact List.map_eq_nil_iff.1 h0
 ·have:=h.pre.2.2.1 i h0
  simp only [fold,decide_eq_true_eq] at this
  exact absurd this hk
theorem OkW.many0 {f:List Nd} (h:OkW f) {x:Nat} (hx:kd (f.getD x d0)=0):many (ids f) 10 x=0:=by
 by_cases h0:many (ids f) 10 x=0
 ·exact h0
 ·obtain ⟨i,hi,hm⟩:=many_mem (f:=f) (x:=x) (by omega)
  obtain ⟨e,he,rfl⟩:=List.mem_map.1 hm
  exact absurd hx ((h.entsOk hi).all e he).2.2
end Go.Proofs.Ytbjgiioppmkpiaa.Rx.Fs

namespace Go.Proofs.Ytbjgiioppmkpiaa.Rx.Fs
open Go Go.Proofs.Ytbjgiioppmkpiaa.Rx.Gr
set_option linter.unusedVariables false
set_option linter.unusedSimpArgs false
def insE (x:En):List En→List En
 | []=>[x]
 | y :: ys=>bif lt x.1 y.1 then x :: y :: ys else y :: insE x ys
theorem insE_perm (x:En):∀ es:List En,(insE x es).Perm (x :: es)
 | []=>List.Perm.refl _
 | y :: ys=>by
  simp only [insE]
  cases lt x.1 y.1 with
  | true=>exact List.Perm.refl _
  | false=>exact ((insE_perm x ys).cons y).trans (List.Perm.swap x y ys)
theorem insE_len (x:En) (es:List En):(insE x es).length=es.length + 1:=by rw [(insE_perm x es).length_eq,List.length_cons]
theorem insE_mem {x y:En} {es:List En}:y ∈ insE x es↔y=x∨y ∈ es:=by rw [(insE_perm x es).mem_iff,List.mem_cons]
theorem insE_pw {x:En}:∀ {es:List En},es.Pairwise ltE→(∀ y ∈ es,y.1 ≠ x.1)→(insE x es).Pairwise ltE
 | [],_,_=>List.pairwise_singleton _ _
 | y :: ys,h,hn=>by
  obtain ⟨h1,h2⟩:=List.pairwise_cons.1 h
  simp only [insE]
  cases hl:lt x.1 y.1 with
  | true =>
   refine List.pairwise_cons.2 ⟨fun z hz=>?_,h⟩
   rcases List.mem_cons.1 hz with rfl | hz
   ·exact hl
   ·exact lt_trans hl (h1 z hz)
  | false =>
   refine List.pairwise_cons.2 ⟨fun z hz=>?_,insE_pw h2 (fun z hz=>hn z (List.mem_cons_of_mem _ hz))⟩
   rcases insE_mem.1 hz with rfl | hz
   ·rcases lt_total y.1 z.1 with h3 | h3 | h3
    ·exact h3
    ·exact absurd h3 (hn y List.mem_cons_self)
    ·rw [h3] at hl; cases hl
   ·exact h1 z hz
noncomputable def setNm (a:Nd) (es:List En):Nd:=(a.1,a.2.1,a.2.2.1,a.2.2.2.1,a.2.2.2.2.1,a.2.2.2.2.2.1,a.2.2.2.2.2.2.1,a.2.2.2.2.2.2.2.1,es)
theorem base_nm {a:Nd} (hk:kd a=2) (h:baseW a) {es:List En} (hl:es.length≤6):baseW (setNm a es):=by
 obtain ⟨h1,h2,h5,h6,h7⟩:=h
 refine ⟨h1,h2,h5,fun hk1=>?_,fun hk2=>?_⟩
 ·exact absurd (show kd a=1 from hk1) (by omega)
 ·exact ⟨(h7 hk).1,(h7 hk).2.1,hl⟩
theorem ids_set2 {f:List Nd} (hlen:f.length=10) {i y:Nat} (hi:i < 10) (hy:y < 10) (hiy:i ≠ y) (A B:Nd) (j:Nat):((f.set y A).set i B).getD j d0=if j=i then B else if j=y then A else f.getD j d0:=by
 rw [getD_set1 (by rw [List.length_set,hlen]; exact hi),getD_set1 (by rw [hlen]; exact hy)]
theorem OkW.put {f:List Nd} (h:OkW f) {i y:Nat} (hi:i < 10) (hy:y < 10) (hki:kd (f.getD i d0)=2) {A:Nd} {name:ByteArray} (hA:kd A=1∨kd A=2) (hnA:nm A=[]) (hbA:baseW A) (hlA:lk A ≠ 0)
  (hc:(kd (f.getD y d0)=0∧lk A=1)∨(kd (f.getD y d0)=1∧kd A=1∧lk A=lk (f.getD y d0) + 1)) (hname:nmOk name=true) (hfr:∀ e ∈ nm (f.getD i d0),e.1 ≠ name) (hl:(nm (f.getD i d0)).length≤5) :
  OkW ((f.set y A).set i (setNm (f.getD i d0) (insE (name,(y:Int)) (nm (f.getD i d0))))):=by
 have hiy:i ≠ y:=fun e=>by subst e; rw [hki] at hc; omega
 have hy0:y ≠ 0:=fun e=>by subst e; have:=h.root; omega
 have hny:nm (f.getD y d0)=[]:=h.nm_file hy (by omega)
 generalize hB:setNm (f.getD i d0) (insE (name,(y:Int)) (nm (f.getD i d0)))=B
 have hkB:kd B=2:=by rw [← hB]; exact hki
 have hlB:lk B=lk (f.getD i d0):=by rw [← hB]; rfl
 have hnB:nm B=insE (name,(y:Int)) (nm (f.getD i d0)):=by rw [← hB]; rfl
 have hbB:baseW B:=by rw [← hB]; exact base_nm hki (h.base i hi (by omega)) (by rw [insE_len]; omega)
 have hg:=ids_set2 h.len hi hy hiy A B
 have hids:∀ j,j ≠ i→ids ((f.set y A).set i B) j=ids f j:=fun j hj=>by
  simp only [ids,hg,if_neg hj]
  split
  ·rename_i e; rw [e,hny,hnA]
  ·rfl
 have hidi:∀ x,(ids ((f.set y A).set i B) i).count x=(ids f i).count x + (if x=y then 1 else 0):=fun x=>by
  simp only [ids,hg,if_true,hnB]
  rw [((insE_perm (name,(y:Int)) (nm (f.getD i d0))).map _).count_eq,List.map_cons,List.count_cons]
  simp only [Int.toNat_natCast,beq_iff_eq]
  by_cases e:x=y
  ·rw [if_pos e,if_pos e.symm]
  ·rw [if_neg e,if_neg (fun e'=>e e'.symm)]
 have hsub:∀ j,∀ x ∈ ids f j,x ∈ ids ((f.set y A).set i B) j:=fun j x hx=>by
  by_cases hj:j=i
  ·subst hj
   have:=hidi x
   have:=List.count_pos_iff.2 hx
   exact List.count_pos_iff.1 (by omega)
  ·rw [hids j hj]; exact hx
 have hyi:y ∈ ids ((f.set y A).set i B) i:=List.count_pos_iff.1 (by rw [hidi,if_pos rfl]; omega)
 have hmany:∀ x,many (ids ((f.set y A).set i B)) 10 x=many (ids f) 10 x + (if x=y then 1 else 0):=fun x=>by
  have:=many_upd (e:=ids f) (e':=ids ((f.set y A).set i B)) (N:=10) (x:=x) hi (fun j _ hj=>by rw [hids j hj])
  rw [hidi] at this
  omega
 have hmy:lk A=((many (ids f) 10 y:Nat):Int) + 1:=by
  rcases hc with ⟨h1,h2⟩ | ⟨h1,_,h2⟩
  ·rw [h.many0 h1,h2]; rfl
  ·rw [h2,h.links y hy (by omega)]
 have hfo:∀ x,fold f x=true→fold ((f.set y A).set i B) x=true:=fun x hx=>by
  simp only [fold,decide_eq_true_eq,hg] at hx ⊢
  split
  ·exact hkB
  ·split
   ·rename_i e; subst e; omega
   ·exact hx
 have hwy:∀ x k,Gr.Way (ids f) (fold f) x k→Gr.Way (ids ((f.set y A).set i B)) (fold ((f.set y A).set i B)) x k:=fun x k hw=>hw.mono hsub hfo
 have hkd0:∀ x,kd (f.getD x d0) ≠ 0→kd (((f.set y A).set i B).getD x d0) ≠ 0:=fun x hx=>by
  rw [hg]
  split
  ·omega
  ·split
   ·omega
   ·exact hx
 have hr:kd (((f.set y A).set i B).getD 0 d0)=2:=by
  rw [hg]
  split
  ·exact hkB
  ·rw [if_neg (fun e=>hy0 e.symm)]; exact h.root
 refine OkW.of (by rw [List.length_set,List.length_set]; exact h.len) hr (fun j hj hj0=>?_) (fun j hj hj0=>?_) (fun j hj=>?_) (fun j hj hj0=>?_) (fun j hj hj1=>?_) (fun x hx hxf hx0=>?_) (fun x hx hxf=>?_)
 ·rw [hg] at hj0 ⊢
  split
  ·exact hbB
  ·split
   ·exact hbA
   ·rename_i e1 e2; rw [if_neg e1,if_neg e2] at hj0; exact h.base j hj hj0
 ·rw [hg] at hj0 ⊢
  split
  ·rename_i e; rw [if_pos e] at hj0; omega
  ·split
   ·rename_i e1 e2; rw [if_neg e1,if_pos e2] at hj0; omega
   ·rename_i e1 e2; rw [if_neg e1,if_neg e2] at hj0; exact h.zero j hj hj0
 ·by_cases hji:j=i
  ·subst hji
   rw [hg,if_pos rfl,hnB]
   refine ⟨fun e he=>?_,insE_pw (h.entsOk hj).pw hfr⟩
   rcases insE_mem.1 he with rfl | he
   ·refine ⟨hname,⟨by show (1:Int)≤(y:Int); omega,by show (y:Int)≤9; omega⟩,?_⟩
    show kd (((f.set y A).set j B).getD (y:Int).toNat d0) ≠ 0
    rw [Int.toNat_natCast,hg,if_neg (fun e=>hiy e.symm),if_pos rfl]
    omega
   ·obtain ⟨h1,h2,h3⟩:=(h.entsOk hj).all e he
    exact ⟨h1,h2,hkd0 _ h3⟩
  ·rw [hg,if_neg hji]
   split
   ·rw [hnA]; exact ⟨fun e he=>(List.not_mem_nil he).elim,List.Pairwise.nil⟩
   ·refine ⟨fun e he=>?_,(h.entsOk hj).pw⟩
    obtain ⟨h1,h2,h3⟩:=(h.entsOk hj).all e he
    exact ⟨h1,h2,hkd0 _ h3⟩
 ·rw [hmany]
  rw [hg] at hj0 ⊢
  split
  ·rename_i e; subst e; rw [if_neg hiy,hlB]; exact h.links j hj (by omega)
  ·rename_i e1
   split
   ·rename_i e; subst e; rw [hmy]; rfl
   ·rename_i e2; rw [if_neg e1,if_neg e2] at hj0; exact h.links j hj hj0
 ·rw [hg] at hj1 ⊢
  split
  ·rename_i e; rw [if_pos e] at hj1; omega
  ·split
   ·exact fun h2=>hlA h2.1
   ·rename_i e1 e2; rw [if_neg e1,if_neg e2] at hj1; exact h.live j hj hj1
 ·rw [hmany]
  by_cases e:x=y
  ·subst e
   rw [if_pos rfl]
   rcases hc with ⟨h1,_⟩ | ⟨_,h1,_⟩
   ·rw [h.many0 h1]
   ·simp only [fold,hg,if_neg (Ne.symm hiy),if_true,decide_eq_true_eq] at hxf
    omega
  ·rw [if_neg e]
   refine h.tr.un x hx ?_ hx0
   simp only [fold,hg,decide_eq_true_eq] at hxf ⊢
   by_cases e2:x=i
   ·rw [e2]; exact hki
   ·rw [if_neg e2,if_neg e] at hxf; exact hxf
 ·by_cases e:x=y
  ·subst e
   obtain ⟨k,hk⟩:=h.tr.wy i hi (decide_eq_true hki)
   exact ⟨k + 1,.next (hwy i k hk) (List.mem_filter.2 ⟨hyi,hxf⟩)⟩
  ·have hxf':fold f x=true:=by
    simp only [fold,hg,decide_eq_true_eq] at hxf ⊢
    by_cases e2:x=i
    ·rw [e2]; exact hki
    ·rw [if_neg e2,if_neg e] at hxf; exact hxf
   obtain ⟨k,hk⟩:=h.tr.wy x hx hxf'
   exact ⟨k,hwy x k hk⟩
end Go.Proofs.Ytbjgiioppmkpiaa.Rx.Fs

namespace Go.Proofs.Ytbjgiioppmkpiaa.Rx.Gr
inductive DnR (e:Nat→List Nat) (fo:Nat→Bool) (y:Nat):Nat→Prop
 | refl:DnR e fo y y
 | step {x z:Nat}:DnR e fo y x→z ∈ chl e fo x→DnR e fo y z
end Go.Proofs.Ytbjgiioppmkpiaa.Rx.Gr
namespace Go.Proofs.Ytbjgiioppmkpiaa.Rx.Fs
open Go Go.Proofs.Ytbjgiioppmkpiaa.Rx.Gr
set_option linter.unusedVariables false
set_option linter.unusedSimpArgs false
theorem erase_count {es:List En} {k:Nat} (hk:k < es.length) (x:Nat):((es.eraseIdx k).map fun e=>e.2.toNat).count x + (if x=(es.getD k e0).2.toNat then 1 else 0)=(es.map fun e=>e.2.toNat).count x:=by
 have e1:es.eraseIdx k=es.take k ++ es.drop (k + 1):=List.eraseIdx_eq_take_drop_succ es k
 have e2:es=es.take k ++ (es[k] :: es.drop (k + 1)):=by rw [← List.drop_eq_getElem_cons hk,List.take_append_drop]
 have e3:(es.map fun e=>e.2.toNat).count x=((es.take k ++ (es[k] :: es.drop (k + 1))).map fun e:En=>e.2.toNat).count x:=by rw [← e2]
 rw [getD_get hk,e1,e3]
 simp only [List.map_append,List.map_cons,List.count_append,List.count_cons,beq_iff_eq]
 by_cases e:x=es[k].2.toNat
 ·rw [if_pos e,if_pos e.symm]; omega
 ·rw [if_neg e,if_neg (fun e'=>e e'.symm)]; omega
theorem erase_len {es:List En} {k:Nat} (hk:k < es.length):(es.eraseIdx k).length + 1=es.length:=by rw [List.length_eraseIdx,if_pos hk]; omega
theorem erase_mem {es:List En} {k:Nat} {e:En} (h:e ∈ es.eraseIdx k):e ∈ es:=(List.eraseIdx_sublist es k).subset h
theorem erase_pw {es:List En} {k:Nat} (h:es.Pairwise ltE):(es.eraseIdx k).Pairwise ltE:=h.sublist (List.eraseIdx_sublist es k)
theorem OkW.drop {f:List Nd} (h:OkW f) {i k y:Nat} (hi:i < 10) (hki:kd (f.getD i d0)=2) (hk:k < (nm (f.getD i d0)).length) (hy:y=((nm (f.getD i d0)).getD k e0).2.toNat) {A:Nd} (hnA:nm A=[])
  (hny:nm (f.getD y d0)=[]) (hc:(A=d0∧lk (f.getD y d0)=1)∨(kd A=1∧kd (f.getD y d0)=1∧lk A=lk (f.getD y d0) - 1∧baseW A∧¬ (lk A=0∧op A=0))) :
  OkW ((f.set i (setNm (f.getD i d0) ((nm (f.getD i d0)).eraseIdx k))).set y A):=by
 obtain ⟨_,hy9,hky⟩:=(h.entsOk hi).all _ (mem_getD hk e0)
 rw [← hy] at hky
 have hy10:y < 10:=by omega
 have hy0:y ≠ 0:=by omega
 have hyi:y ≠ i:=fun e=>by rw [e] at hny; rw [hny] at hk; simp at hk
 generalize hB:setNm (f.getD i d0) ((nm (f.getD i d0)).eraseIdx k)=B
 have hkB:kd B=2:=by rw [← hB]; exact hki
 have hlB:lk B=lk (f.getD i d0):=by rw [← hB]; rfl
 have hnB:nm B=(nm (f.getD i d0)).eraseIdx k:=by rw [← hB]; rfl
 have hel:=erase_len hk
 have hnl:=h.nlen i hi
 have hbB:baseW B:=by rw [← hB]; exact base_nm hki (h.base i hi (by omega)) (by omega)
 have hg:=ids_set2 h.len hy10 hi hyi B A
 have hmy:many (ids f) 10 y=(lk (f.getD y d0)).toNat:=by have:=h.links y hy10 hky; omega
 have hids:∀ j,j ≠ i→ids ((f.set i B).set y A) j=ids f j:=fun j hj=>by
  simp only [ids,hg]
  split
  ·rename_i e; rw [e,hny,hnA]
  ·first | rw [if_neg hj] | rfl
 have hidi:∀ x,(ids ((f.set i B).set y A) i).count x + (if x=y then 1 else 0)=(ids f i).count x:=fun x=>by
  have:=erase_count hk x
  rw [← hy] at this
  simp only [ids,hg,if_neg (Ne.symm hyi),if_true,hnB]
  exact this
 have hsub:∀ j,∀ x ∈ ids f j,x ≠ y→x ∈ ids ((f.set i B).set y A) j:=fun j x hx hxy=>by
  by_cases hj:j=i
  ·subst hj
   have h1:=hidi x
   rw [if_neg hxy] at h1
   have:=List.count_pos_iff.2 hx
   exact List.count_pos_iff.1 (by omega)
  ·rw [hids j hj]; exact hx
 have hmany:∀ x,many (ids ((f.set i B).set y A)) 10 x + (if x=y then 1 else 0)=many (ids f) 10 x:=fun x=>by
  have:=many_upd (e:=ids f) (e':=ids ((f.set i B).set y A)) (N:=10) (x:=x) hi (fun j _ hj=>by rw [hids j hj])
  have:=hidi x
  omega
 have hfo:∀ x,x ≠ y→fold ((f.set i B).set y A) x=fold f x:=fun x hx=>by
  simp only [fold,hg,if_neg hx]
  split
  ·rename_i e; subst e; rw [hkB,hki]
  ·rfl
 have hfy:fold ((f.set i B).set y A) y=false:=by
  simp only [fold,hg,if_true]
  rcases hc with ⟨rfl,_⟩ | ⟨h1,_⟩
  ·rfl
  ·rw [h1]; rfl
 have hwy:∀ x k,Gr.Way (ids f) (fold f) x k→x ≠ y→Gr.Way (ids ((f.set i B).set y A)) (fold ((f.set i B).set y A)) x k:=by
  intro x k hw
  induction hw with
  | root=>intro _; exact .root
  | next hw hz ih =>
   rename_i p z k
   intro hzy
   obtain ⟨h1,h2⟩:=List.mem_filter.1 hz
   have hpy:p ≠ y:=fun e=>by subst e; simp only [ids,hny] at h1; exact (List.not_mem_nil h1).elim
   exact .next (ih hpy) (List.mem_filter.2 ⟨hsub p z h1 hzy,by rw [hfo z hzy]; exact h2⟩)
 have hkd0:∀ x,kd (f.getD x d0) ≠ 0→(x=y→many (ids ((f.set i B).set y A)) 10 x ≠ 0)→kd (((f.set i B).set y A).getD x d0) ≠ 0:=fun x hx hxy=>by
  rw [hg]
  split
  ·rename_i e
   subst e
   rcases hc with ⟨rfl,h1⟩ | ⟨h1,_⟩
   ·have:=hmany x
    rw [if_pos rfl,hmy,h1] at this
    exact absurd (by omega) (hxy rfl)
   ·omega
  ·split
   ·omega
   ·exact hx
 have hent:∀ j,j < 10→∀ es,(∀ e ∈ es,e ∈ nm (f.getD j d0))→nm (((f.set i B).set y A).getD j d0)=es→es.Pairwise ltE→EntsOk ((f.set i B).set y A) es:=fun j hj es hes hee hpw =>
  ⟨fun e he=>by
   obtain ⟨h1,h2,h3⟩:=(h.entsOk hj).all e (hes e he)
   refine ⟨h1,h2,hkd0 _ h3 (fun e1=>?_)⟩
   have:=mem_many (f:=(f.set i B).set y A) (x:=e.2.toNat) hj (List.mem_map.2 ⟨e,by rw [hee]; exact he,rfl⟩)
   omega,hpw⟩
 have hr:kd (((f.set i B).set y A).getD 0 d0)=2:=by
  rw [hg,if_neg (Ne.symm hy0)]
  split
  ·exact hkB
  ·exact h.root
 refine OkW.of (by rw [List.length_set,List.length_set]; exact h.len) hr (fun j hj hj0=>?_) (fun j hj hj0=>?_) (fun j hj=>?_) (fun j hj hj0=>?_) (fun j hj hj1=>?_) (fun x hx hxf hx0=>?_) (fun x hx hxf=>?_)
 ·rw [hg] at hj0 ⊢
  by_cases e1:j=y
  ·rw [if_pos e1] at hj0 ⊢
   rcases hc with ⟨rfl,_⟩ | ⟨_,_,_,h1,_⟩
   ·exact absurd rfl hj0
   ·exact h1
  ·rw [if_neg e1] at hj0 ⊢
   by_cases e2:j=i
   ·rw [if_pos e2]; exact hbB
   ·rw [if_neg e2] at hj0 ⊢; exact h.base j hj hj0
 ·rw [hg] at hj0 ⊢
  by_cases e1:j=y
  ·rw [if_pos e1] at hj0 ⊢
   rcases hc with ⟨rfl,_⟩ | ⟨h1,_⟩
   ·exact zr_d0
   ·omega
  ·rw [if_neg e1] at hj0 ⊢
   by_cases e2:j=i
   ·rw [if_pos e2] at hj0; omega
   ·rw [if_neg e2] at hj0 ⊢; exact h.zero j hj hj0
 ·by_cases e1:j=y
  ·have:nm (((f.set i B).set y A).getD j d0)=[]:=by rw [hg,if_pos e1,hnA]
   rw [this]; exact ⟨fun e he=>(List.not_mem_nil he).elim,List.Pairwise.nil⟩
  ·by_cases e2:j=i
   ·have hn:nm (((f.set i B).set y A).getD j d0)=(nm (f.getD i d0)).eraseIdx k:=by rw [hg,if_neg e1,if_pos e2,hnB]
    rw [hn]
    exact hent j hj _ (fun e he=>by rw [e2]; exact erase_mem he) hn (erase_pw (h.entsOk hi).pw)
   ·have hn:nm (((f.set i B).set y A).getD j d0)=nm (f.getD j d0):=by rw [hg,if_neg e1,if_neg e2]
    rw [hn]
    exact hent j hj _ (fun e he=>he) hn (h.entsOk hj).pw
 ·have hm:=hmany j
  by_cases e1:j=y
  ·subst e1
   rw [if_pos rfl,hmy] at hm
   rw [hg,if_pos rfl] at hj0 ⊢
   rcases hc with ⟨rfl,_⟩ | ⟨_,_,h1,_⟩
   ·exact absurd rfl hj0
   ·have:=h.links j hj hky; omega
  ·rw [if_neg e1] at hm
   rw [hg,if_neg e1] at hj0 ⊢
   by_cases e2:j=i
   ·rw [if_pos e2,hlB]; rw [e2] at hm; have:=h.links i hi (by omega); rw [e2]; omega
   ·rw [if_neg e2] at hj0 ⊢; have:=h.links j hj hj0; omega
 ·rw [hg] at hj1 ⊢
  by_cases e1:j=y
  ·rw [if_pos e1] at hj1 ⊢
   rcases hc with ⟨rfl,_⟩ | ⟨_,_,_,_,h1⟩
   ·cases hj1
   ·exact h1
  ·rw [if_neg e1] at hj1 ⊢
   by_cases e2:j=i
   ·rw [if_pos e2] at hj1; omega
   ·rw [if_neg e2] at hj1 ⊢; exact h.live j hj hj1
 ·have hxy:x ≠ y:=fun e=>by subst e; rw [hfy] at hxf; cases hxf
  have hm:=hmany x
  rw [if_neg hxy] at hm
  rw [hfo x hxy] at hxf
  have:=h.tr.un x hx hxf hx0
  omega
 ·have hxy:x ≠ y:=fun e=>by subst e; rw [hfy] at hxf; cases hxf
  rw [hfo x hxy] at hxf
  obtain ⟨k',hk'⟩:=h.tr.wy x hx hxf
  exact ⟨k',hwy x k' hk' hxy⟩
noncomputable def movG (f:List Nd) (i k:Nat):List Nd:=f.set i (setNm (f.getD i d0) ((nm (f.getD i d0)).eraseIdx k))
noncomputable def movF (f:List Nd) (i k t:Nat) (x:En):List Nd:=(movG f i k).set t (setNm ((movG f i k).getD t d0) (insE x (nm ((movG f i k).getD t d0))))
theorem OkW.move {f:List Nd} (h:OkW f) {i k y t:Nat} (hi:i < 10) (hki:kd (f.getD i d0)=2) (hk:k < (nm (f.getD i d0)).length) (hy:(y:Int)=((nm (f.getD i d0)).getD k e0).2) (ht:t < 10) (hkt:kd (f.getD t d0)=2)
  {name:ByteArray} (hname:nmOk name=true) (hfr:∀ e ∈ nm (f.getD t d0),e.1 ≠ name) (hl:i ≠ t→(nm (f.getD t d0)).length≤5) (hdn:¬ DnR (ids f) (fold f) y t):OkW (movF f i k t (name,(y:Int))):=by
 obtain ⟨_,hy9,hky⟩:=(h.entsOk hi).all _ (mem_getD hk e0)
 rw [← hy] at hky hy9
 rw [Int.toNat_natCast] at hky
 have hy10:y < 10:=by omega
 have hel:=erase_len hk
 have hnl:=h.nlen i hi
 -- in between
 have hgG:∀ j,(movG f i k).getD j d0=if j=i then setNm (f.getD i d0) ((nm (f.getD i d0)).eraseIdx k) else f.getD j d0:=fun j=>getD_set1 (by rw [h.len]; exact hi) _ j
 have hlG:(movG f i k).length=10:=by rw [movG,List.length_set]; exact h.len
 have hkG:∀ j,kd ((movG f i k).getD j d0)=kd (f.getD j d0):=fun j=>by
  rw [hgG]; split
  ·rename_i e; rw [e]; rfl
  ·rfl
 have hnG:∀ j,∀ e ∈ nm ((movG f i k).getD j d0),e ∈ nm (f.getD j d0):=fun j e he=>by
  rw [hgG] at he
  split at he
  ·rename_i e1; rw [e1]; exact erase_mem he
  ·exact he
 have hpG:∀ j,j < 10→(nm ((movG f i k).getD j d0)).Pairwise ltE:=fun j hj=>by
  rw [hgG]; split
  ·exact erase_pw (h.entsOk hi).pw
  ·exact (h.entsOk hj).pw
 have hcG:∀ j x,(ids (movG f i k) j).count x + (if x=y∧j=i then 1 else 0)=(ids f j).count x:=fun j x=>by
  simp only [ids,hgG]
  by_cases e:j=i
  ·subst e
   have:=erase_count hk x
   rw [← hy,Int.toNat_natCast] at this
   simpa [setNm] using this
  ·simp [e]
 -- behind
 generalize hF:movF f i k t (name,(y:Int))=f'
 have hg:∀ j,f'.getD j d0=if j=t then setNm ((movG f i k).getD t d0) (insE (name,(y:Int)) (nm ((movG f i k).getD t d0))) else (movG f i k).getD j d0:=fun j=>by
  rw [← hF]; exact getD_set1 (by rw [hlG]; exact ht) _ j
 have hl':f'.length=10:=by rw [← hF,movF,List.length_set]; exact hlG
 have hkd:∀ j,kd (f'.getD j d0)=kd (f.getD j d0):=fun j=>by
  rw [hg]; split
  ·rename_i e; rw [e]; exact hkG t
  ·exact hkG j
 have hlk:∀ j,lk (f'.getD j d0)=lk (f.getD j d0):=fun j=>by
  have hlG':∀ j,lk ((movG f i k).getD j d0)=lk (f.getD j d0):=fun j=>by
   rw [hgG]; split
   ·rename_i e; rw [e]; rfl
   ·rfl
  rw [hg]; split
  ·rename_i e; rw [e]; exact hlG' t
  ·exact hlG' j
 have hop:∀ j,op (f'.getD j d0)=op (f.getD j d0):=fun j=>by
  have hlG':∀ j,op ((movG f i k).getD j d0)=op (f.getD j d0):=fun j=>by
   rw [hgG]; split
   ·rename_i e; rw [e]; rfl
   ·rfl
  rw [hg]; split
  ·rename_i e; rw [e]; exact hlG' t
  ·exact hlG' j
 have hfold:fold f'=fold f:=by funext j; simp only [fold,hkd]
 have hc':∀ j x,(ids f' j).count x=(ids (movG f i k) j).count x + (if x=y∧j=t then 1 else 0):=fun j x=>by
  simp only [ids,hg]
  by_cases e:j=t
  ·subst e
   simp only [if_true,setNm]
   rw [((insE_perm (name,(y:Int)) _).map _).count_eq,List.map_cons,List.count_cons]
   simp only [Int.toNat_natCast,beq_iff_eq,and_true]
   by_cases e:x=y
   ·rw [if_pos e,if_pos e.symm]
   ·rw [if_neg e,if_neg (fun e'=>e e'.symm)]
  ·simp [e]
 have hmany:∀ x,many (ids f') 10 x=many (ids f) 10 x:=fun x=>by
  have h1:=many_upd (e:=ids f) (e':=ids (movG f i k)) (N:=10) (x:=x) hi (fun j _ hj=>by have:=hcG j x; rw [if_neg (fun e=>hj e.2)] at this; omega)
  have h2:=many_upd (e:=ids (movG f i k)) (e':=ids f') (N:=10) (x:=x) ht (fun j _ hj=>by have:=hc' j x; rw [if_neg (fun e=>hj e.2)] at this; omega)
  have h3:=hcG i x
  have h4:=hc' t x
  by_cases e:x=y
  ·rw [if_pos ⟨e,rfl⟩] at h3 h4; omega
  ·rw [if_neg (fun h=>e h.1)] at h3 h4; omega
 have hsub:∀ j,∀ x ∈ ids f j,x ≠ y→x ∈ ids f' j:=fun j x hx hxy=>by
  have h1:=hcG j x
  have h2:=hc' j x
  rw [if_neg (fun h=>hxy h.1)] at h1 h2
  have:=List.count_pos_iff.2 hx
  exact List.count_pos_iff.1 (by omega)
 have hyt:y ∈ ids f' t:=List.count_pos_iff.1 (by rw [hc',if_pos ⟨rfl,rfl⟩]; omega)
 have hw1:∀ x q,Gr.Way (ids f) (fold f) x q→¬ DnR (ids f) (fold f) y x→Gr.Way (ids f') (fold f') x q:=by
  intro x q hw
  induction hw with
  | root=>intro _; exact .root
  | next hw hz ih =>
   rename_i p z q
   intro hd
   obtain ⟨h1,h2⟩:=List.mem_filter.1 hz
   have hzy:z ≠ y:=fun e=>by subst e; exact hd .refl
   exact .next (ih fun hp=>hd (.step hp hz)) (List.mem_filter.2 ⟨hsub p z h1 hzy,by rw [hfold]; exact h2⟩)
 have hw2:∀ x q,Gr.Way (ids f) (fold f) x q→∃ q',Gr.Way (ids f') (fold f') x q':=by
  intro x q hw
  induction hw with
  | root=>exact ⟨0,.root⟩
  | next hw hz ih =>
   rename_i p z q
   obtain ⟨h1,h2⟩:=List.mem_filter.1 hz
   by_cases e:z=y
   ·subst e
    obtain ⟨q0,hq0⟩:=h.tr.wy t ht (decide_eq_true hkt)
    exact ⟨q0 + 1,.next (hw1 t q0 hq0 hdn) (List.mem_filter.2 ⟨hyt,by rw [hfold]; exact h2⟩)⟩
   ·obtain ⟨q',hq'⟩:=ih
    exact ⟨q' + 1,.next hq' (List.mem_filter.2 ⟨hsub p z h1 e,by rw [hfold]; exact h2⟩)⟩
 have hlenG:(nm ((movG f i k).getD t d0)).length≤5:=by
  rw [hgG]
  split
  ·show ((nm (f.getD i d0)).eraseIdx k).length≤5; omega
  ·rename_i e; exact hl (fun e1=>e e1.symm)
 have hbG:∀ j,j < 10→kd (f.getD j d0) ≠ 0→baseW ((movG f i k).getD j d0):=fun j hj hj0=>by
  rw [hgG]; split
  ·exact base_nm hki (h.base i hi (by omega)) (by omega)
  ·exact h.base j hj hj0
 refine OkW.of hl' (by rw [hkd]; exact h.root) (fun j hj hj0=>?_) (fun j hj hj0=>?_) (fun j hj=>?_) (fun j hj hj0=>?_) (fun j hj hj1=>?_) ?_ (fun x hx hxf=>?_)
 ·rw [hkd] at hj0
  rw [hg]
  split
  ·rename_i e
   exact base_nm (by rw [hkG]; exact hkt) (hbG t ht (by omega)) (by rw [insE_len]; omega)
  ·exact hbG j hj hj0
 ·rw [hkd] at hj0
  have e1:j ≠ t:=fun e=>by subst e; omega
  have e2:j ≠ i:=fun e=>by subst e; omega
  rw [hg,if_neg e1,hgG,if_neg e2]
  exact h.zero j hj hj0
 ·have key:∀ e ∈ nm ((movG f i k).getD j d0),nmOk e.1=true∧(1≤e.2∧e.2≤9)∧kd (f'.getD e.2.toNat d0) ≠ 0:=fun e he=>by
   rw [hkd]; exact (h.entsOk hj).all e (hnG j e he)
  rw [hg]
  split
  ·rename_i e
   subst e
   refine ⟨fun e he=>?_,insE_pw (hpG j hj) (fun e he=>hfr e (hnG j e he))⟩
   rcases insE_mem.1 he with rfl | he
   ·refine ⟨hname,hy9,?_⟩
    show kd (f'.getD (y:Int).toNat d0) ≠ 0
    rw [Int.toNat_natCast,hkd]; exact hky
   ·exact key e he
  ·exact ⟨key,hpG j hj⟩
 ·rw [hkd] at hj0; rw [hlk,hmany]; exact h.links j hj hj0
 ·rw [hkd] at hj1; rw [hlk,hop]; exact h.live j hj hj1
 ·intro x hx hxf hx0
  rw [hfold] at hxf; rw [hmany]; exact h.tr.un x hx hxf hx0
 ·rw [hfold] at hxf
  obtain ⟨q,hq⟩:=h.tr.wy x hx hxf
  exact hw2 x q hq
end Go.Proofs.Ytbjgiioppmkpiaa.Rx.Fs

namespace Go.Proofs.Ytbjgiioppmkpiaa.Rx.S
open Go Go.Proofs.Ytbjgiioppmkpiaa.Rx.Pu Go.Proofs.Ytbjgiioppmkpiaa.Rx.Fs
set_option linter.unusedVariables false
set_option linter.unusedSimpArgs false
structure SzB (f:List Nd):Prop where
 len:f.length≤1000
 nm:∀ j,(nm (f.getD j d0)).length≤1000
theorem SzB.set {f:List Nd} (h:SzB f) {i:Nat} {a:Nd} (ha:(Fs.nm a).length≤1000):SzB (f.set i a):=⟨by rw [List.length_set]; exact h.len,fun j=>by
 rw [getD_set_i]
 split
 ·exact ha
 ·exact h.nm j⟩
end Go.Proofs.Ytbjgiioppmkpiaa.Rx.S

namespace Go.Proofs.Ytbjgiioppmkpiaa.Rx.Gr
theorem DnR.trans {e:Nat→List Nat} {fo:Nat→Bool} {a b c:Nat} (h:DnR e fo a b) (h':DnR e fo b c):DnR e fo a c:=by
 induction h' with
 | refl=>exact h
 | step _ hz ih=>exact .step ih hz
theorem DnR.head {e:Nat→List Nat} {fo:Nat→Bool} {a c:Nat} (h:DnR e fo a c):c=a∨∃ b,b ∈ chl e fo a∧DnR e fo b c:=by
 induction h with
 | refl=>exact .inl rfl
 | step hd hz ih =>
  rcases ih with rfl | ⟨b,h1,h2⟩
  ·exact .inr ⟨_,hz,.refl⟩
  ·exact .inr ⟨b,h1,.step h2 hz⟩
end Go.Proofs.Ytbjgiioppmkpiaa.Rx.Gr
namespace Go.Proofs.Ytbjgiioppmkpiaa.Rx.S
open Go Go.Proofs.Ytbjgiioppmkpiaa.Rx.Pu Go.Proofs.Ytbjgiioppmkpiaa.Rx.Fs Go.Proofs.Ytbjgiioppmkpiaa.Rx.Gr
set_option linter.unusedVariables false
set_option linter.unusedSimpArgs false
end Go.Proofs.Ytbjgiioppmkpiaa.Rx.S

namespace Go.Proofs.Ytbjgiioppmkpiaa.Rx.S
open Go Go.Proofs.Ytbjgiioppmkpiaa.Rx.Pu Go.Proofs.Ytbjgiioppmkpiaa.Rx.Fs
set_option linter.unusedVariables false
set_option linter.unusedSimpArgs false
def Bys (l:List Int):Prop:=(∀ x ∈ l,0≤x∧x < 256)∧l.length≤2000
theorem Bys.get {l:List Int} (h:Bys l) (i:Nat):0≤l.getD i 0∧l.getD i 0 < 256:=by
 rw [List.getD_eq_getElem?_getD]
 cases hi:l[i]? with
 | none=>simp
 | some x=>exact h.1 x (List.mem_of_getElem? hi)
end Go.Proofs.Ytbjgiioppmkpiaa.Rx.S

namespace Go.Proofs.Ytbjgiioppmkpiaa.Rx.S
open Go Go.Proofs.Ytbjgiioppmkpiaa.Rx.Pu Go.Proofs.Ytbjgiioppmkpiaa.Rx.Fs
set_option linter.unusedVariables false
set_option linter.unusedSimpArgs false
theorem OkW.pw {f:List Nd} (h:OkW f) {i:Nat} (hi:i < 10):(nm (f.getD i d0)).Pairwise ltE:=(sorted_pw _).1 (fun k hk=>(h.ents i k hi hk).2.2.2)
end Go.Proofs.Ytbjgiioppmkpiaa.Rx.S

namespace Go.Proofs.Ytbjgiioppmkpiaa.Rx.S
open Go Go.Proofs.Ytbjgiioppmkpiaa.Rx.Pu Go.Proofs.Ytbjgiioppmkpiaa.Rx.Fs
set_option linter.unusedVariables false
set_option linter.unusedSimpArgs false
theorem bb (b:Bool):(!(b == b))=false:=by cases b <;> rfl
end Go.Proofs.Ytbjgiioppmkpiaa.Rx.S

namespace Go.Proofs.Ytbjgiioppmkpiaa.Rx.S
open Go Go.Proofs.Ytbjgiioppmkpiaa.Rx.Pu Go.Proofs.Ytbjgiioppmkpiaa.Rx.Fs
set_option linter.unusedVariables false
theorem wfF {f:List Nd} (h:WfT tLf f):WfF f :=
 ⟨h.1,fun a ha=>by
  have:=h.2 a ha
  exact ⟨this.2.2.2.2.2.2.2.1,this.2.2.2.2.2.2.2.2.1,fun e he=>(this.2.2.2.2.2.2.2.2.2 e he).1⟩⟩
end Go.Proofs.Ytbjgiioppmkpiaa.Rx.S

namespace Go.Proofs.Ytbjgiioppmkpiaa.Rx.S
open Go Go.Proofs.Ytbjgiioppmkpiaa.Rx Go.Proofs.Ytbjgiioppmkpiaa.Rx.Pu Go.Proofs.Ytbjgiioppmkpiaa.Rx.Fs
set_option linter.unusedVariables false
set_option linter.unusedSimpArgs false
abbrev Vf:=List (List Nd) × Int
structure SzV (v:Vf):Prop where
 len:v.1.length≤1048576
 fs:∀ f ∈ v.1,SzF 1048576 f
theorem SzF.up {f:List Nd} (h:SzF 1048576 f):SzF 2000000 f :=
 ⟨by have:=h.len; omega,fun a ha=>⟨by have:=(h.nd a ha).tx; omega,by have:=(h.nd a ha).nm; omega,fun x hx=>by have:=(h.nd a ha).en x hx; omega⟩⟩
structure WfV (v:Vf):Prop where
 len:v.1.length≤9223372036854775807
 fs:∀ f ∈ v.1,WfF f
theorem memF {l:List (List Nd)} {i:Nat} {d:List Nd} (h:i < l.length):l.getD i d ∈ l:=by
 rw [List.getD_eq_getElem?_getD,List.getElem?_eq_getElem h]
 exact List.getElem_mem h
theorem p87_L5_eq (n:Nat) (hn:2000000 < n) (l:List (List Nd)) (hl:l.length≤1048576) (hw:∀ f ∈ l,WfF f):∀ (d m k:Nat) (b:Int),k + d=l.length→d < m→(0≤b∧b≤1048576) →
  ∃ r:Int,p87_L5 n m l b (k:Int)=some ((r,()),())∧r≤b∧(0≤r→∀ j,k≤j→j < l.length→SzF 1048576 (l.getD j []))
 | _,0,_,_,_,h,_=>by omega
 | 0,m + 1,k,b,hk,hm,hb=>by
  obtain rfl:k=l.length:=by omega
  show ∃ r,st87_L5 n (p87_L5 n m) l b (l.length:Int)=_∧_
  simp only [st87_L5,lt_f,cond_false]
  exact ⟨b,rfl,by omega,fun _ j hj hj2=>by omega⟩
 | d + 1,m + 1,k,b,hk,hm,hb=>by
  have hkl:k < l.length:=by omega
  show ∃ r,st87_L5 n (p87_L5 n m) l b (k:Int)=_∧_
  obtain ⟨r,hr,hr1,hr2⟩:=p39_eq n hn (l.getD k []) (hw _ (memF hkl)) b hb
  simp only [st87_L5,lt_t hkl,ge_t,cond_true,toNat_cast,q39,hr,Option.bind_some]
  by_cases z:r < 0
  ·simp only [z,decide_true,cond_true]; exact ⟨-1,rfl,by omega,fun h=>by omega⟩
  ·simp only [z,decide_false,cond_false]
   rw [wr_succ (by omega)]
   obtain ⟨s,hs,hs1,hs2⟩:=p87_L5_eq n hn l hl hw d m (k + 1) r (by omega) (by omega) (by omega)
   refine ⟨s,hs,by omega,fun h j hj hj2=>?_⟩
   rcases Nat.eq_or_lt_of_le hj with rfl | hlt
   ·exact hr2 (by omega)
   ·exact hs2 h j (by omega) hj2
theorem p30_eq (n:Nat) (hn:2000000 < n) (v:Vf) (hw:WfV v) (b:Int) (hb:0≤b∧b≤1048576):∃ r:Int,p30 n v b=some ((r,()),())∧r≤b∧(0≤r→SzV v):=by
 have h87:∃ r:Int,p87 n v.1 b=some ((r,()),())∧r≤b∧(0≤r→SzV v):=by
  show ∃ r,st87_top n (p87_L5 n n) v.1 b=_∧_
  have hl:=hw.len
  have w1:IntKind.i64.wrap (b - (v.1.length:Int))=b - v.1.length:=wr (by omega) (by omega)
  simp only [st87_top,w1]
  by_cases z:b - (v.1.length:Int) < 0
  ·simp only [z,decide_true,cond_true]; exact ⟨-1,rfl,by omega,fun h=>by omega⟩
  ·simp only [z,decide_false,cond_false]
   obtain ⟨s,hs,hs1,hs2⟩:=p87_L5_eq n hn v.1 (by omega) hw.fs v.1.length n 0 (b - v.1.length) (by omega) (by omega) (by omega)
   refine ⟨s,hs,by omega,fun h=>⟨by omega,fun f hf=>?_⟩⟩
   obtain ⟨k,hk,hka⟩:=List.getElem_of_mem hf
   have:=hs2 h k (by omega) hk
   rw [List.getD_eq_getElem?_getD,List.getElem?_eq_getElem hk] at this
   rw [← hka]; exact this
 obtain ⟨r,hr,hr1,hr2⟩:=h87
 show ∃ r,st30_top n v b=_∧_
 simp only [st30_top,q87,hr,Option.bind_some]
 by_cases z:r < 0
 ·simp only [z,decide_true,cond_true]; exact ⟨-1,rfl,by omega,fun h=>by omega⟩
 ·simp only [z,decide_false,cond_false]; exact ⟨r,rfl,hr1,hr2⟩
theorem p32_eq (n:Nat) (v:Vf) (h:SzV v) (hn:2000000 < n):p32 n v=some ((v,()),()):=by
 obtain ⟨l,mt⟩:=v
 have hl:l.length≤1048576:=h.len
 have hf:∀ f ∈ l,SzF 1048576 f:=h.fs
 have h89:p89 n l=some ((l,()),()):=by
  have h0:decide ((l.length:Int) * ((24:Nat):Int)≤140737488355328)=true:=by simp; omega
  show st89_top n (p89_L3 n n) l=_
  simp only [st89_top,h0,cond_true]
  have:=copy_loop (F:=fun k xs i acc=>p89_L3 n k xs i acc) (R:=fun acc=>some ((acc,()),())) (g:=id) (da:=([]:List Nd)) l (fun k i acc hi ha=>by
    show st89_L3 n (p89_L3 n k) l i acc=_
    rw [← ha] at hi
    have hc:=p40_eq n (l.getD i []) (hf _ (memF (ha ▸ hi))).up hn
    simp only [st89_L3,lt_t hi,ha ▸ lt_t hi,ge_t,cond_true,toNat_cast,q40,hc,Option.bind_some]
    rw [wr_succ (by omega)]
    rfl) (fun k acc=>by
    show st89_L3 n (p89_L3 n k) l l.length acc=_
    simp only [st89_L3,lt_f,cond_false]) l.length n 0 (List.replicate (l.length:Int).toNat []) (by simp) (by omega) (by omega) (fun j hj=>by omega)
  rw [List.map_id] at this
  exact this
 show st32_top n (l,mt)=_
 simp only [st32_top,q89,h89,Option.bind_some]
theorem p34_refl (n:Nat) (v:Vf) (h:SzV v) (hn:2000000 < n):p34 n v v=some ((true,()),()):=by
 obtain ⟨l,mt⟩:=v
 have hl:l.length≤1048576:=h.len
 have hf:∀ f ∈ l,SzF 1048576 f:=h.fs
 have h91:p91 n l l=some ((true,()),()):=by
  show st91_top n (p91_L4 n n) l l=_
  simp only [st91_top,decide_true,Bool.not_true,cond_false]
  exact round_loop (F:=fun k i=>p91_L4 n k l l i) (r:=some ((true,()),())) l.length (fun k i hi=>by
   show st91_L4 n (p91_L4 n k) l l i=_
   have hc:=p41_refl n (l.getD i []) (hf _ (memF hi)).up hn
   simp only [st91_L4,lt_t hi,ge_t,cond_true,toNat_cast,q41,hc,Option.bind_some,Bool.not_true,cond_false]
   rw [wr_succ (by omega)]) (fun k=>by
   show st91_L4 n (p91_L4 n k) l l l.length=_
   simp only [st91_L4,lt_f,cond_false]) l.length n 0 (by omega) (by omega)
 show st34_top n (l,mt) (l,mt)=_
 simp only [st34_top,q91,h91,Option.bind_some,Bool.not_true,cond_false,decide_true]
noncomputable def mkVF (n:Nat):Int→List (List Nd)→List (List Nd)
 | _,[]=>[]
 | m,f :: rs=>mkF n m f :: mkVF n (mkS m f) rs
def mkVS:Int→List (List Nd)→Int
 | m,[]=>m
 | m,f :: rs=>mkVS (mkS m f) rs
theorem mkVS_le:∀ (l:List (List Nd)) (m:Int),(∀ f ∈ l,SzF 1048576 f)→m≤mkVS m l∧mkVS m l≤m + 4194320000000 * l.length
 | [],m,_=>by simp [mkVS]
 | f :: rs,m,h=>by
  have h1:=h f List.mem_cons_self
  have h2:=mkS_le f m (fun a ha=>(h1.up.nd a ha).nm)
  have h3:=h1.len
  have:=mkVS_le rs (mkS m f) (fun g hg=>h g (List.mem_cons_of_mem _ hg))
  simp only [mkVS,List.length_cons]
  omega
theorem p93_L2_eq (n:Nat) (hn:2000000 < n):∀ (rest:List (List Nd)) (k:Nat) (done:List (List Nd)) (m:Int),rest.length < k→done.length + rest.length≤2000000→(∀ f ∈ rest,SzF 1048576 f)→0≤m→m + 4194320000000 * rest.length≤4450000000000000000 →
  p93_L2 n k m (done.length:Int) (done ++ rest)=some ((mkVS m rest,()),(done ++ mkVF n m rest,()))
 | _,0,_,_,h,_,_,_,_=>by omega
 | [],k + 1,done,m,hk,hd,hs,hm0,hm=>by
  show st93_L2 n _ m (done.length:Int) (done ++ [])=_
  rw [List.append_nil]
  simp only [st93_L2,lt_f,cond_false,mkVS,mkVF,List.append_nil]
 | f :: rest,k + 1,done,m,hk,hd,hs,hm0,hm=>by
  have h1:=hs f List.mem_cons_self
  have h3:=h1.len
  have h2:=mkS_le f m (fun a ha=>(h1.up.nd a ha).nm)
  simp only [List.length_cons] at hm hd hk
  have ih:=p93_L2_eq n hn rest k (done ++ [mkF n m f]) (mkS m f) (by omega) (by simp; omega) (fun g hg=>hs g (List.mem_cons_of_mem _ hg)) (by omega) (by omega)
  have e0:∀ b:List Nd,decide ((done.length:Int) < ((done ++ b :: rest).length:Int))=true:=fun b=>decide_eq_true (by simp; omega)
  have hidx:IntKind.i64.wrap ((done.length:Int) + 1)=((done ++ [mkF n m f]).length:Int):=by
   rw [wr_succ (by omega)]
   simp
  have hc:p99 n f m=some ((mkS m f,()),(mkF n m f,())):=by
   have:=p99_L2_eq n hn f n [] m (by omega) (by simp; omega) (fun a ha=>(h1.up.nd a ha).nm) hm0 (by omega)
   exact this
  show st93_L2 n _ m (done.length:Int) (done ++ f :: rest)=_
  simp only [st93_L2,e0,ge_t,cond_true,toNat_cast,getD_mid,q99,hc,Option.bind_some,set_mid,hidx]
  have e10:∀ b:List Nd,done ++ b :: rest=(done ++ [b]) ++ rest:=fun b=>by simp
  rw [e10]
  refine Eq.trans ih ?_
  simp only [mkVS,mkVF,List.append_assoc,List.singleton_append]
theorem p36_eq (n:Nat) (hn:2000000 < n) (v:Vf) (h:SzV v):p36 n v 1=some ((mkVS 1 v.1,()),((mkVF n 1 v.1,v.2),())):=by
 have hl:=h.len
 have h93:p93 n v.1 1=some ((mkVS 1 v.1,()),(mkVF n 1 v.1,())):=by
  have:=p93_L2_eq n hn v.1 n [] 1 (by omega) (by simp; omega) h.fs (by omega) (by omega)
  exact this
 show st36_top n v 1=_
 simp only [st36_top,q93,h93,Option.bind_some]
theorem p95_L2_eq (n:Nat) (hn:2000000 < n):∀ (rest:List (List Nd)) (k:Nat) (done:List (List Nd)) (m:Int),rest.length < k→done.length + rest.length≤2000000→(∀ f ∈ rest,SzF 1048576 f)→0≤m→m + 4194320000000 * rest.length≤4450000000000000000 →
  p95_L2 n k (done ++ mkVF n m rest) m (done.length:Int)=some ((mkVS m rest,()),())
 | _,0,_,_,h,_,_,_,_=>by omega
 | [],k + 1,done,m,hk,hd,hs,hm0,hm=>by
  show st95_L2 n _ (done ++ []) m (done.length:Int)=_
  rw [List.append_nil]
  simp only [st95_L2,lt_f,cond_false,mkVS]
 | f :: rest,k + 1,done,m,hk,hd,hs,hm0,hm=>by
  have h1:=hs f List.mem_cons_self
  have h3:=h1.len
  have h2:=mkS_le f m (fun a ha=>(h1.up.nd a ha).nm)
  simp only [List.length_cons] at hm hd hk
  have ih:=p95_L2_eq n hn rest k (done ++ [mkF n m f]) (mkS m f) (by omega) (by simp; omega) (fun g hg=>hs g (List.mem_cons_of_mem _ hg)) (by omega) (by omega)
  have e0:∀ (b:List Nd) r,decide ((done.length:Int) < ((done ++ b :: r).length:Int))=true:=fun b r=>decide_eq_true (by simp; omega)
  have hidx:IntKind.i64.wrap ((done.length:Int) + 1)=((done ++ [mkF n m f]).length:Int):=by
   rw [wr_succ (by omega)]
   simp
  have hc:p100 n (mkF n m f) m=some ((mkS m f,()),()):=by
   have:=p100_L2_eq n hn f n [] m (by omega) (by simp; omega) (fun a ha=>(h1.up.nd a ha).nm) hm0 (by omega)
   exact this
  have hz:decide (mkS m f < 0)=false:=decide_eq_false (by omega)
  show st95_L2 n _ (done ++ mkF n m f :: mkVF n (mkS m f) rest) m (done.length:Int)=_
  simp only [st95_L2,e0,ge_t,cond_true,toNat_cast,getD_mid,q100,hc,Option.bind_some,hz,cond_false,hidx]
  have e10:∀ (b:List Nd) r,done ++ b :: r=(done ++ [b]) ++ r:=fun b r=>by simp
  rw [e10]
  exact ih
theorem p38_eq (n:Nat) (hn:2000000 < n) (v:Vf) (h:SzV v):p38 n (mkVF n 1 v.1,v.2) 1=some ((mkVS 1 v.1,()),()):=by
 have hl:=h.len
 have hm:=(mkVS_le v.1 1 h.fs).1
 have hz:¬ mkVS 1 v.1 < 0:=by omega
 have h95:p95 n (mkVF n 1 v.1) 1=some ((mkVS 1 v.1,()),()):=by
  have:=p95_L2_eq n hn v.1 n [] 1 (by omega) (by simp; omega) h.fs (by omega) (by omega)
  exact this
 show st38_top n (mkVF n 1 v.1,v.2) 1=_
 simp only [st38_top,q95,h95,Option.bind_some,hz,decide_false,cond_false]
theorem p80_eq (n:Nat) (v:Vf) (h:SzV v) (hn:2000000 < n):p80 n v=some ((v,()),()):=by
 obtain ⟨l,mt⟩:=v
 have hl:l.length≤1048576:=h.len
 have hf:∀ f ∈ l,SzF 1048576 f:=h.fs
 have key:∀ (rest:List (List Nd)) (k:Nat) (done:List (List Nd)) (x:Int),done ++ rest=l→rest.length < k→p80_L3 n k l (l.length:Int) (done.length:Int) x mt done=some (((l,mt),()),()):=by
  intro rest
  induction rest with
  | nil =>
   intro k done x he hk
   obtain ⟨k,rfl⟩:∃ m,k=m + 1:=⟨k - 1,by omega⟩
   rw [List.append_nil] at he
   subst he
   show st80_L3 n _ done (done.length:Int) (done.length:Int) x mt done=_
   simp only [st80_L3,lt_f,cond_false]
  | cons f rest ih =>
   intro k done x he hk
   simp only [List.length_cons] at hk
   obtain ⟨k,rfl⟩:∃ m,k=m + 1:=⟨k - 1,by omega⟩
   have hlt:done.length < l.length:=by rw [← he]; simp
   have hg:l.getD done.length []=f:=by rw [← he]; exact getD_mid done f rest []
   have hc:=p62_eq n f (hf f (by rw [← he]; simp)).up hn
   have h2:(done.length + [f].length) * 24≤140737488355328:=by simp; omega
   show st80_L3 n _ l (l.length:Int) (done.length:Int) x mt done=_
   simp only [st80_L3,lt_t hlt,ge_t,cond_true,toNat_cast,hg,q62,hc,Option.bind_some,h2,decide_true]
   rw [wr_succ (by omega)]
   have:=ih k (done ++ [f]) x (by rw [← he]; simp) (by omega)
   simpa using this
 exact key l n [] 0 rfl (by omega)
theorem p85_eq (n:Nat) (v:Vf) (h:SzV v) (hn:2000000 < n):p85 n v=some ((v,()),()):=by
 obtain ⟨l,mt⟩:=v
 have hl:l.length≤1048576:=h.len
 have hf:∀ f ∈ l,SzF 1048576 f:=h.fs
 have key:∀ (rest:List (List Nd)) (k:Nat) (done:List (List Nd)) (x y:Int),done ++ rest=l→rest.length < k→p85_L3 n k (done.length:Int) l x y mt done=some (((l,mt),()),()):=by
  intro rest
  induction rest with
  | nil =>
   intro k done x y he hk
   obtain ⟨k,rfl⟩:∃ m,k=m + 1:=⟨k - 1,by omega⟩
   rw [List.append_nil] at he
   subst he
   show st85_L3 n _ (done.length:Int) done x y mt done=_
   simp only [st85_L3,lt_f,cond_false]
  | cons f rest ih =>
   intro k done x y he hk
   simp only [List.length_cons] at hk
   obtain ⟨k,rfl⟩:∃ m,k=m + 1:=⟨k - 1,by omega⟩
   have hlt:done.length < l.length:=by rw [← he]; simp
   have hg:l.getD done.length []=f:=by rw [← he]; exact getD_mid done f rest []
   have hc:=p67_eq n f (hf f (by rw [← he]; simp)).up hn
   have h2:(done.length + [f].length) * 24≤140737488355328:=by simp; omega
   show st85_L3 n _ (done.length:Int) l x y mt done=_
   simp only [st85_L3,lt_t hlt,ge_t,cond_true,toNat_cast,hg,q67,hc,Option.bind_some,h2,decide_true]
   rw [wr_succ (by omega)]
   have:=ih k (done ++ [f]) x y (by rw [← he]; simp) (by omega)
   simpa using this
 exact key l n [] mt 0 rfl (by omega)
end Go.Proofs.Ytbjgiioppmkpiaa.Rx.S

namespace Go.Proofs.Ytbjgiioppmkpiaa.Rx.S
open Go Go.Proofs.Ytbjgiioppmkpiaa.Rx Go.Proofs.Ytbjgiioppmkpiaa.Rx.Pu Go.Proofs.Ytbjgiioppmkpiaa.Rx.Fs
set_option linter.unusedVariables false
set_option linter.unusedSimpArgs false
def opI:List Nd→Nat→Int
 | [],_=>-1
 | a :: r,k=>bif decide (0 < op a) then (k:Int) else opI r (k + 1)
def anyOp (f:List Nd):Bool:=decide (0≤opI f 0)
theorem opI_any:∀ (f:List Nd) (k:Nat),decide (0≤opI f k)=f.any (fun a=>decide (0 < op a))
 | [],k=>rfl
 | a :: r,k=>by
  by_cases h:0 < op a
  ·have e:opI (a :: r) k=k:=by simp only [opI]; rw [decide_eq_true h]; rfl
   rw [e,List.any_cons,decide_eq_true h]
   simp
  ·have e:opI (a :: r) k=opI r (k + 1):=by simp only [opI]; rw [decide_eq_false h]; rfl
   rw [e,List.any_cons,decide_eq_false h,Bool.false_or]
   exact opI_any r (k + 1)
theorem p9103_L2_eq (n:Nat) (f:List Nd) (hf:f.length≤2000000):∀ (d m k:Nat),k + d=f.length→d < m→p9103_L2 n m f (f.length:Int) (k:Int)=some ((opI (f.drop k) k,()),())
 | _,0,_,_,h=>by omega
 | 0,m + 1,k,hk,hm=>by
  obtain rfl:k=f.length:=by omega
  show st9103_L2 n (p9103_L2 n m) f (f.length:Int) (f.length:Int)=_
  simp only [st9103_L2,lt_f,cond_false,List.drop_length,opI]
 | d + 1,m + 1,k,hk,hm=>by
  have hkl:k < f.length:=by omega
  show st9103_L2 n (p9103_L2 n m) f (f.length:Int) (k:Int)=_
  have ih:=p9103_L2_eq n f hf d m (k + 1) (by omega) (by omega)
  rw [getD_drop (d:=d0) hkl]
  have h130:∀ a:Nd,p130 n a=some ((decide (0 < op a),()),()):=fun a=>rfl
  simp only [st9103_L2,lt_t hkl,ge_t,cond_true,toNat_cast,q130,h130,Option.bind_some]
  rw [wr_succ (by omega),ih]
  simp only [opI,op]
  cases decide (0 < (f.getD k d0).2.2.2.2.2.1) <;> rfl
theorem p81_eq (n:Nat) (f:List Nd) (hf:f.length≤2000000) (hn:2000000 < n):p81 n f=some ((anyOp f,()),()):=by
 have h:=p9103_L2_eq n f hf f.length n 0 (by omega) (by omega)
 have h1:p9103 n f ()=some ((opI f 0,()),()):=h
 have h2:p129 n f ()=some ((anyOp f,()),()):=by
  show st129_top n f ()=_
  simp only [st129_top,q9103,h1,Option.bind_some,anyOp]
 show st81_top n f=_
 simp only [st81_top,q129,h2,Option.bind_some]
def sumO:List Nd→Int
 | []=>0
 | a :: r=>op a + sumO r
theorem sumO_le:∀ (f:List Nd),(∀ a ∈ f,0≤op a∧op a≤99)→0≤sumO f∧sumO f≤99 * f.length
 | [],_=>by simp [sumO]
 | a :: r,h=>by
  have h1:=h a List.mem_cons_self
  have h2:=sumO_le r (fun b hb=>h b (List.mem_cons_of_mem _ hb))
  simp only [sumO,List.length_cons]
  omega
theorem sumO_any:∀ (f:List Nd),(∀ a ∈ f,0≤op a∧op a≤99)→(0 < sumO f↔f.any (fun a=>decide (0 < op a))=true)
 | [],_=>by simp [sumO]
 | a :: r,h=>by
  have h1:=h a List.mem_cons_self
  have h2:=sumO_le r (fun b hb=>h b (List.mem_cons_of_mem _ hb))
  have ih:=sumO_any r (fun b hb=>h b (List.mem_cons_of_mem _ hb))
  simp only [sumO,List.any_cons,Bool.or_eq_true,decide_eq_true_eq]
  constructor
  ·intro h3
   by_cases h4:0 < op a
   ·exact .inl h4
   ·exact .inr (ih.1 (by omega))
  ·rintro (h3 | h3)
   ·omega
   ·have:=ih.2 h3; omega
theorem p131_eq (n:Nat) (hn:2000000 < n) (f:List Nd) (hl:f.length=10) (ho:∀ a ∈ f,0≤op a∧op a≤99):p131 n f=some ((sumO f,()),()):=by
 have key:∀ (rest:List Nd) (k:Nat) (done:List Nd) (s:Int),done ++ rest=f→rest.length < k→0≤s→s≤99 * done.length→p131_L3 n k s (done.length:Int) f=some ((s + sumO rest,()),()):=by
  intro rest
  induction rest with
  | nil =>
   intro k done s he hk h0 h1
   obtain ⟨k,rfl⟩:∃ m,k=m + 1:=⟨k - 1,by omega⟩
   rw [List.append_nil] at he
   subst he
   show st131_L3 n _ s (done.length:Int) done=_
   simp only [st131_L3,lt_f,cond_false,sumO,Int.add_zero]
  | cons a rest ih =>
   intro k done s he hk h0 h1
   simp only [List.length_cons] at hk
   obtain ⟨k,rfl⟩:∃ m,k=m + 1:=⟨k - 1,by omega⟩
   have hlt:done.length < f.length:=by rw [← he]; simp
   have hg:f.getD done.length d0=a:=by rw [← he]; exact getD_mid done a rest d0
   have hoa:=ho a (by rw [← he]; simp)
   have w1:IntKind.i64.wrap (s + op a)=s + op a:=wr (by omega) (by omega)
   simp only [op] at w1
   show st131_L3 n _ s (done.length:Int) f=_
   simp only [d0] at hg
   simp only [st131_L3,lt_t hlt,ge_t,cond_true,toNat_cast,hg,w1]
   rw [wr_succ (by omega)]
   have:=ih k (done ++ [a]) (s + op a) (by rw [← he]; simp) (by omega) (by omega) (by simp; omega)
   simp only [List.length_append,List.length_cons,List.length_nil,op,Nat.zero_add] at this
   rw [this]
   simp only [sumO,op]
   congr 3
   omega
 have:=key f n [] 0 rfl (by omega) (by omega) (by simp)
 rw [Int.zero_add] at this
 exact this
theorem okS_op {f:List Nd} (h:okS f=true):∀ a ∈ f,0≤op a∧op a≤99:=by
 intro a ha
 have hF:=(okS_iff f).1 h
 obtain ⟨i,hi,rfl⟩:=List.getElem_of_mem ha
 have hi10:i < 10:=by rw [← hF.len]; exact hi
 have e:f.getD i d0=f[i]:=by rw [List.getD_eq_getElem?_getD,List.getElem?_eq_getElem hi]; rfl
 rw [← e]
 by_cases hk:kd (f.getD i d0)=0
 ·have:=(hF.zero i hi10 hk).2.2.2.2.2.1; omega
 ·exact (hF.toW.base i hi10 hk).2.2.1
noncomputable def vfsOk (v:Vf):Bool:=decide (((v.1.length:Nat):Int)=2)&&(okS (v.1.getD 0 [])&&(okS (v.1.getD 1 []) &&
 bif decide (v.2 = -1) then !anyOp (v.1.getD 1 []) else decide (1≤v.2∧v.2≤9)&&(decide (kd ((v.1.getD 0 []).getD v.2.toNat d0)=2)&&decide (0 < op ((v.1.getD 0 []).getD v.2.toNat d0)))))
theorem p29_eq (n:Nat) (v:Vf) (h:SzV v) (hn:2000000 < n):p29 n v=some ((vfsOk v,()),()):=by
 obtain ⟨l,mt⟩:=v
 have hfs:∀ f ∈ l,SzF 1048576 f:=h.fs
 show st29_top n (l,mt)=_
 unfold vfsOk
 by_cases h2':((l.length:Nat):Int)=2
 ·have hlt1:1 < l.length:=by omega
  have hlt0:0 < l.length:=by omega
  have hl0:(0:Int) < ((l.length:Nat):Int):=by omega
  have hl1:(1:Int) < ((l.length:Nat):Int):=by omega
  have a0:=p19_eq' n (by omega) (l.getD 0 [])
  have a1:=p19_eq' n (by omega) (l.getD 1 [])
  have s1:=(hfs _ (memF (i:=1) (d:=[]) hlt1)).len
  have b1:=p81_eq n (l.getD 1 []) (by omega) hn
  have t0:(0:Int).toNat=0:=rfl
  have t1:(1:Int).toNat=1:=rfl
  simp only [st29_top,decide_eq_true h2',hl0,hl1,decide_true,Bool.not_true,cond_false,cond_true,t0,t1,q19,a0,a1,q81,b1,Option.bind_some,Bool.true_and,q61,p61_eq]
  cases ho0:okS (l.getD 0 []) with
  | false=>rfl
  | true =>
   cases ho1:okS (l.getD 1 []) with
   | false=>rfl
   | true =>
    have hlen:=okS_len ho0
    simp only [Bool.not_true,cond_false,Bool.true_and]
    by_cases hm:mt = -1
    ·simp only [hm,decide_true,cond_true]
    ·simp only [hm,decide_false,cond_false]
     by_cases hm2:1≤mt∧mt≤9
     ·have c0:(0:Int)≤mt:=by omega
      have c1:mt < (((l.getD 0 []).length:Nat):Int):=by rw [hlen]; omega
      simp only [hm2,and_self,decide_true,cond_true,c0,c1,Bool.true_and,kd,op]
      cases decide (((l.getD 0 []).getD mt.toNat d0).1=2) <;> rfl
     ·simp only [hm2,decide_false,cond_false,Bool.false_and]
 ·simp only [st29_top,h2',decide_false,Bool.not_false,cond_true,Bool.false_and]
theorem p83_eq (n:Nat) (v:Vf) (h:SzV v) (hn:2000000 < n) (hn2:n < 4611686018427387904):p83 n v=some ((vfsOk v,()),()):=by
 obtain ⟨l,mt⟩:=v
 have hfs:∀ f ∈ l,SzF 1048576 f:=h.fs
 show st83_top n (l,mt)=_
 unfold vfsOk
 by_cases h2':((l.length:Nat):Int)=2
 ·have hlt1:1 < l.length:=by omega
  have hlt0:0 < l.length:=by omega
  have hl0:(0:Int) < ((l.length:Nat):Int):=by omega
  have hl1:(1:Int) < ((l.length:Nat):Int):=by omega
  have a0:=p63_eq n (l.getD 0 []) ((hfs _ (memF (i:=0) (d:=[]) hlt0)).sm (by omega) (by omega) hn2)
  have a1:=p63_eq n (l.getD 1 []) ((hfs _ (memF (i:=1) (d:=[]) hlt1)).sm (by omega) (by omega) hn2)
  have t0:(0:Int).toNat=0:=rfl
  have t1:(1:Int).toNat=1:=rfl
  simp only [st83_top,decide_eq_true h2',hl0,hl1,decide_true,Bool.not_true,cond_false,cond_true,t0,t1,q63,a0,a1,Option.bind_some,Bool.true_and,q66,p66_eq]
  cases ho0:okS (l.getD 0 []) with
  | false=>rfl
  | true =>
   cases ho1:okS (l.getD 1 []) with
   | false=>rfl
   | true =>
    have hlen:=okS_len ho0
    have b1:=p131_eq n hn (l.getD 1 []) (okS_len ho1) (okS_op ho1)
    have hsa:=sumO_any _ (okS_op ho1)
    have hsl:=sumO_le _ (okS_op ho1)
    have hany:anyOp (l.getD 1 []) = !decide (sumO (l.getD 1 [])=0):=by
     unfold anyOp
     rw [opI_any]
     by_cases hz:sumO (l.getD 1 [])=0
     ·rw [decide_eq_true hz]
      cases hq:(l.getD 1 []).any (fun a=>decide (0 < op a)) with
      | false=>rfl
      | true=>have:=hsa.2 hq; omega
     ·rw [decide_eq_false hz]
      exact hsa.1 (by omega)
    simp only [Bool.not_true,cond_false,Bool.true_and,q131,b1,Option.bind_some]
    by_cases hm:mt = -1
    ·subst hm
     have c2:(-1:Int)≤-1∧(-1:Int)≤9:=by decide
     have c3:¬ (-1:Int)=0:=by decide
     have c4:(-1:Int) < 0:=by decide
     simp only [c2,c3,c4,and_self,decide_true,decide_false,Bool.not_true,cond_true,cond_false,hany,Bool.not_not]
    ·simp only [hm,decide_false,cond_false]
     by_cases hm2:1≤mt∧mt≤9
     ·have c0:(0:Int)≤mt:=by omega
      have c1:mt < (((l.getD 0 []).length:Nat):Int):=by rw [hlen]; omega
      have c2:-1≤mt∧mt≤9:=by omega
      have c3:¬ mt=0:=by omega
      have c4:¬ mt < 0:=by omega
      simp only [hm2,c2,c3,c4,and_self,decide_true,decide_false,Bool.not_true,cond_true,cond_false,c0,c1,Bool.true_and,kd,op]
      cases decide (((l.getD 0 []).getD mt.toNat d0).1=2) <;> rfl
     ·simp only [hm2,decide_false,cond_false,Bool.false_and]
      by_cases c2:-1≤mt∧mt≤9
      ·have c3:mt=0:=by omega
       simp only [c2,c3,and_self,decide_true,Bool.not_true,cond_false,cond_true]
       simp
      ·simp only [c2,decide_false,Bool.not_false,cond_true]
 ·simp only [st83_top,h2',decide_false,Bool.not_false,cond_true,Bool.false_and]
end Go.Proofs.Ytbjgiioppmkpiaa.Rx.S

namespace Go.Proofs.Ytbjgiioppmkpiaa.Rx.S
open Go Go.Proofs.Ytbjgiioppmkpiaa.Rx Go.Proofs.Ytbjgiioppmkpiaa.Rx.Pu Go.Proofs.Ytbjgiioppmkpiaa.Rx.Fs
set_option linter.unusedVariables false
set_option linter.unusedSimpArgs false
structure VOk (v:Vf):Prop where
 len:v.1.length=2
 o0:okS (v.1.getD 0 [])=true
 o1:okS (v.1.getD 1 [])=true
 mt:¬ v.2 < 0→∃ i:Nat,v.2=(i:Int)∧1≤i∧i≤9∧kd ((v.1.getD 0 []).getD i d0)=2∧0 < op ((v.1.getD 0 []).getD i d0)
 nm:v.2 < 0→v.2 = -1∧anyOp (v.1.getD 1 [])=false
theorem vfsOk_V {v:Vf} (h:vfsOk v=true):VOk v:=by
 unfold vfsOk at h
 simp only [Bool.and_eq_true,decide_eq_true_eq] at h
 obtain ⟨h1,h2,h3,h4⟩:=h
 by_cases hm:v.2 = -1
 ·rw [decide_eq_true hm,cond_true] at h4
  exact ⟨by omega,h2,h3,fun h=>by omega,fun _=>⟨hm,by simpa using h4⟩⟩
 ·rw [decide_eq_false hm,cond_false] at h4
  simp only [Bool.and_eq_true,decide_eq_true_eq] at h4
  obtain ⟨h5,h6,h7⟩:=h4
  exact ⟨by omega,h2,h3,fun _=>⟨v.2.toNat,by omega,by omega,by omega,h6,h7⟩,fun h=>by omega⟩
noncomputable def opSet (f:List Nd) (i:Nat) (n:Int):List Nd:=f.set i (opsA (f.getD i d0) n)
noncomputable def moR (v:Vf) (c:Cr) (id:Int):Vf × Int:=bif vfsOk v&&(credOk c&&hasB (v.1.getD 0 []) id) then (bif !decide (c.1=0) then (v,5) else bif decide (0≤v.2) then (v,6) else bif decide (id=0) then (v,6) else
 bif !decide (kd ((v.1.getD 0 []).getD id.toNat d0)=2) then (v,4) else bif decide (op ((v.1.getD 0 []).getD id.toNat d0)=99) then (v,6) else
 ((v.1.set 0 (opSet (v.1.getD 0 []) id.toNat (op ((v.1.getD 0 []).getD id.toNat d0) + 1)),id),0)) else (([],0),1)
theorem openF_up {f:List Nd} {i:Nat} (hi:i < f.length) (h:0≤op (f.getD i d0)∧op (f.getD i d0)≤99):openF f (i:Int) true=some (opSet f i (op (f.getD i d0) + 1)):=by
 have c2:(i:Int) < ((f.length:Nat):Int):=by omega
 have w:IntKind.i64.wrap (op (f.getD i d0) + 1)=op (f.getD i d0) + 1:=wr (by omega) (by omega)
 unfold openF
 rw [ge_t,lt_t hi]
 simp only [cond_true,toNat_cast]
 show some (f.set i (opsA (f.getD i d0) (IntKind.i64.wrap (op (f.getD i d0) + 1))))=_
 rw [w]
 rfl
theorem lopenF_up {f:List Nd} {i:Nat} (hi:i < f.length) (h:0≤op (f.getD i d0)∧op (f.getD i d0)≤99):lopenF f (i:Int) true=some (bif decide (op (f.getD i d0)=99) then (6,f) else (0,opSet f i (op (f.getD i d0) + 1))):=by
 have w:IntKind.i64.wrap (op (f.getD i d0) + 1)=op (f.getD i d0) + 1:=wr (by omega) (by omega)
 unfold lopenF
 rw [ge_t,lt_t hi]
 simp only [cond_true,toNat_cast]
 by_cases h9:op (f.getD i d0)=99
 ·have h9':decide (99≤(List.getD (α:=NdT) f i NdZ).2.2.2.2.2.1)=true:=decide_eq_true (by show 99≤op (f.getD i d0); omega)
  rw [h9',decide_eq_true h9]
  rfl
 ·have h9':decide (99≤(List.getD (α:=NdT) f i NdZ).2.2.2.2.2.1)=false:=decide_eq_false (by show ¬ 99≤op (f.getD i d0); omega)
  rw [h9',decide_eq_false h9,cond_false,cond_false]
  show some ((0:Int),f.set i (opsA (f.getD i d0) (IntKind.i64.wrap (op (f.getD i d0) + 1))))=_
  rw [w]
  rfl
theorem VOk.op {v:Vf} (h:VOk v) {i:Nat} (hi:i < 10):i < (v.1.getD 0 []).length∧(0≤op ((v.1.getD 0 []).getD i d0)∧op ((v.1.getD 0 []).getD i d0)≤99):=by
 have hl:=okS_len h.o0
 have hi2:i < (v.1.getD 0 []).length:=by rw [hl]; exact hi
 exact ⟨hi2,okS_op h.o0 _ (getD_mem hi2 d0)⟩
theorem set0 (l:List (List Nd)) (h:0 < l.length):l.set 0 (l.getD 0 [])=l:=by
 cases l with
 | nil=>cases h
 | cons a r=>rfl
theorem hasB_i {f:List Nd} {v:Int} (h:hasB f v=true):∃ i:Nat,v=(i:Int)∧i < 10:=by
 unfold hasB at h
 simp only [Bool.and_eq_true,decide_eq_true_eq,Bool.not_eq_true',decide_eq_false_iff_not] at h
 exact ⟨v.toNat,by omega,by omega⟩
theorem p28_eq (n:Nat) (v:Vf) (c:Cr) (id:Int) (h:SzV v) (hc:c.2.2.length≤2000000) (hn:2000000 < n):p28 n v c id=some (((moR v c id).1,((moR v c id).2,())),()):=by
 have a1:=p29_eq n v h hn
 have a2:=p79_eq n c hc hn
 have a3:=p80_eq n v h hn
 have e1:(c.1,c.2.1,c.2.2)=c:=rfl
 have e2:(v.1,v.2)=v:=rfl
 have t0:(0:Int).toNat=0:=rfl
 show st28_top n v c id=_
 unfold moR
 simp only [st28_top,q29,e2,a1,Option.bind_some,q79,e1,a2]
 cases hv:vfsOk v with
 | false=>rfl
 | true =>
  cases credOk c with
  | false=>rfl
  | true =>
   have hV:=vfsOk_V hv
   have hl0:(0:Int) < ((v.1.length:Nat):Int):=by rw [hV.len]; decide
   have b1:=p86_eq n (v.1.getD 0 []) (okS_len hV.o0) id
   simp only [Bool.not_true,cond_false,Bool.and_true,Bool.true_and,hl0,decide_true,cond_true,t0,q86,b1,Option.bind_some]
   cases hh:hasB (v.1.getD 0 []) id with
   | false=>rfl
   | true =>
    obtain ⟨i,rfl,hi⟩:=hasB_i hh
    obtain ⟨hil,hio⟩:=hV.op hi
    have d1:p1000082 n (v.1.getD 0 []) (i:Int) true=some ((),(opSet (v.1.getD 0 []) i (op ((v.1.getD 0 []).getD i d0) + 1),())):=by
     unfold p1000082
     rw [openF_up hil hio]
     rfl
    simp only [Bool.not_true,cond_false,q80,a3,Option.bind_some,cond_true,ge_t,lt_t hil,toNat_cast,hl0,decide_true,q1000082,d1,kd,op]
    cases decide (c.1=0) with
    | false=>rfl
    | true =>
    cases decide (0≤v.2) with
    | true=>rfl
    | false =>
    cases decide ((i:Int)=0) with
    | true=>rfl
    | false =>
    cases decide (((v.1.getD 0 []).getD i d0).1=2) with
    | false=>rfl
    | true=>cases decide (((v.1.getD 0 []).getD i d0).2.2.2.2.2.1=99) <;> rfl
theorem p44_eq (n:Nat) (v:Vf) (c:Cr) (id:Int) (h:SzV v) (hc:c.2.2.length≤2000000) (hn:2000000 < n) (hn2:n < 4611686018427387904):p44 n v c id=some (((moR v c id).1,((moR v c id).2,())),()):=by
 have a1:=p83_eq n v h hn hn2
 have a2:=p64_eq n c hc hn
 have a3:=p85_eq n v h hn
 have e1:(c.1,c.2.1,c.2.2)=c:=rfl
 have e2:(v.1,v.2)=v:=rfl
 have t0:(0:Int).toNat=0:=rfl
 show st44_top n v c id=_
 unfold moR
 simp only [st44_top,q83,e2,a1,Option.bind_some,q64,e1,a2]
 cases hv:vfsOk v with
 | false=>rfl
 | true =>
  cases credOk c with
  | false=>rfl
  | true =>
   have hV:=vfsOk_V hv
   have hlt0:0 < v.1.length:=by rw [hV.len]; decide
   have hl0:(0:Int) < ((v.1.length:Nat):Int):=by rw [hV.len]; decide
   have b1:=p65_eq n (v.1.getD 0 []) (okS_len hV.o0) id
   simp only [Bool.not_true,cond_false,Bool.and_true,Bool.true_and,hl0,decide_true,cond_true,t0,q65,b1,Option.bind_some]
   cases hh:hasB (v.1.getD 0 []) id with
   | false=>rfl
   | true =>
    obtain ⟨i,rfl,hi⟩:=hasB_i hh
    obtain ⟨hil,hio⟩:=hV.op hi
    have d1:p2000132 n (v.1.getD 0 []) (i:Int) true=some (((bif decide (op ((v.1.getD 0 []).getD i d0)=99) then ((6:Int),v.1.getD 0 []) else (0,opSet (v.1.getD 0 []) i (op ((v.1.getD 0 []).getD i d0) + 1))).1,()),
      ((bif decide (op ((v.1.getD 0 []).getD i d0)=99) then ((6:Int),v.1.getD 0 []) else (0,opSet (v.1.getD 0 []) i (op ((v.1.getD 0 []).getD i d0) + 1))).2,())):=by
     unfold p2000132
     rw [lopenF_up hil hio]
     rfl
    have hs:∀ g:List Nd,(0:Int) < (((v.1.set 0 g).length:Nat):Int):=fun g=>by rw [List.length_set]; exact hl0
    have key:p101 n v c (i:Int)=some (((bif !decide (c.1=0) then (v,(5:Int)) else bif decide (0≤v.2) then (v,6) else bif decide ((i:Int)=0) then (v,6) else
      bif !decide (kd ((v.1.getD 0 []).getD i d0)=2) then (v,4) else bif decide (op ((v.1.getD 0 []).getD i d0)=99) then (v,6) else
      ((v.1.set 0 (opSet (v.1.getD 0 []) i (op ((v.1.getD 0 []).getD i d0) + 1)),(i:Int)),0)).1,((bif !decide (c.1=0) then (v,(5:Int)) else bif decide (0≤v.2) then (v,6) else bif decide ((i:Int)=0) then (v,6) else
      bif !decide (kd ((v.1.getD 0 []).getD i d0)=2) then (v,4) else bif decide (op ((v.1.getD 0 []).getD i d0)=99) then (v,6) else
      ((v.1.set 0 (opSet (v.1.getD 0 []) i (op ((v.1.getD 0 []).getD i d0) + 1)),(i:Int)),0)).2,())),()):=by
     show st101_top n v c (i:Int)=_
     simp only [st101_top,ge_t,lt_t hil,toNat_cast,hl0,decide_true,cond_true,t0,q2000132,d1,Option.bind_some,hs,kd]
     cases decide (c.1=0) with
     | false=>rfl
     | true =>
     cases decide (0≤v.2) with
     | true=>rfl
     | false =>
     cases decide ((i:Int)=0) with
     | true=>rfl
     | false =>
     cases decide (((v.1.getD 0 []).getD i d0).1=2) with
     | false=>rfl
     | true =>
     cases decide (op ((v.1.getD 0 []).getD i d0)=99) with
     | false=>rfl
     | true =>
      have z6:decide ((6:Int)=0)=false:=rfl
      simp only [cond_true,cond_false,Bool.not_true,z6,Bool.not_false,set0 _ hlt0]
    simp only [Bool.not_true,cond_false,q85,a3,q101,e1,key,Option.bind_some,cond_true,toNat_cast]
end Go.Proofs.Ytbjgiioppmkpiaa.Rx.S

